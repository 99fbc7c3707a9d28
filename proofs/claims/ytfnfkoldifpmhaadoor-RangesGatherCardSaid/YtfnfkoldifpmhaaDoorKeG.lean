/-
  The reference: keys; the span of a value.
-/
import Derived.Test.YtfnfkoldifpmhaaDoorProg
import Derived.Test.YtfnfkoldifpmhaaDoorSlj
import Derived.Test.YtfnfkoldifpmhaaDoorKeF
import Derived.Test.YtfnfkoldifpmhaaDoorSln
namespace Go.Proofs.YtfnfkoldifpmhaaDoor
open Go.SL Go.RowKit
set_option linter.unusedVariables false
set_option linter.unusedSimpArgs false
set_option maxRecDepth 100000
open Ke1 Ke3 Ke4 Ke5 Ke6 Ke7 Ke8 Ke9 KeA KeB KeC KeD KeE KeF
namespace KeG
theorem sz9 : (Tryd.prog.info? 9).map (·.size) = some 1 := by kernel_rfl
theorem sz26 : (Tryd.prog.info? 26).map (·.size) = some 6 := by kernel_rfl
theorem sz34 : (Tryd.prog.info? 34).map (·.size) = some 2 := by kernel_rfl
theorem sz87 : (Tryd.prog.info? 87).map (·.size) = some 6 := by kernel_rfl
theorem ti5 : TI Tryd.prog 5 [.int .u8 0] 1 1 := TI.of (by kernel_rfl) rfl rfl
theorem ti34 : TI Tryd.prog 34 [str [], str []] 2 32 := TI.of (by kernel_rfl) rfl rfl
theorem fo87_0 : FO Tryd.prog 87 0 0 1 false := FO.of Tryd.underlying87 rfl rfl (by kernel_rfl) Tryd.underlying3 rfl rfl
theorem fo87_1 : FO Tryd.prog 87 1 1 1 false := FO.of Tryd.underlying87 rfl rfl (by kernel_rfl) Tryd.underlying4 rfl rfl
theorem fo87_2 : FO Tryd.prog 87 2 2 1 false := FO.of Tryd.underlying87 rfl rfl (by kernel_rfl) Tryd.underlying2 rfl rfl
theorem fo87_3 : FO Tryd.prog 87 3 3 1 false := FO.of Tryd.underlying87 rfl rfl (by kernel_rfl) Tryd.underlying9 rfl rfl
theorem fo87_4 : FO Tryd.prog 87 4 4 1 false := FO.of Tryd.underlying87 rfl rfl (by kernel_rfl) Tryd.underlying85 rfl rfl
theorem fo87_5 : FO Tryd.prog 87 5 5 1 false := FO.of Tryd.underlying87 rfl rfl (by kernel_rfl) Tryd.underlying24 rfl rfl
theorem pl34 : PL Tryd.prog 34 [(0, 1), (1, 1)] := PL.of Tryd.underlying34 (by kernel_rfl)

theorem numK_add (n : Int) : numL (BitVec.ofInt 64 n + 9223372036854775808#64) = numK n := by unfold numK; rw [xor_top]

set_option maxHeartbeats 1000000 in
theorem RKey_step (d : Nat) (ih : ∀ (v : V) (cs : List Value) (deep : Int) (B : Frag), ValR B d v cs → checkF d v deep = 0 → (bytesF d v).length ≤ 1048576 → CtP Tryd.prog 51 [.agg cs.toArray] B (str (keyF d v))) (v : V) (cs : List Value) (deep : Int) (B : Frag) (h : ValR B (d + 1) v cs) (hok : checkF (d + 1) v deep = 0) (hb : (bytesF (d + 1) v).length ≤ 1048576) : CtP Tryd.prog 51 [.agg cs.toArray] B (str (keyF (d + 1) v)) := by
  have hkl := keyF_len _ _ _ _ h
  obtain ⟨hnm6, hnm0⟩ := names_many hok
  obtain ⟨_, _, _, _, _, _, hokp⟩ := chk_ok hok
  have hpk : ∀ i (hi : i < v.parts.length), (keyF d v.parts[i]).length + 1 ≤ 12 * (bytesF d v.parts[i]).length := by
    intro i hi
    obtain ⟨_, _, _, _, _, _, _, _, _, _, hps⟩ := h
    obtain ⟨b, o, l, et, fz, xs, _, _, _, hv⟩ := hps i hi
    exact keyF_len _ _ _ _ hv
  obtain ⟨Ap, cp, An, cn, rfl, ⟨hsl, hn1, hn2, hcn, hcp⟩, hpl, hnl, hns, hnx, hps⟩ := h
  refine CtB.of_body Tryd.func51 rfl (nt := 78) rfl (by kernel_rfl) rfl ?_
  intro N0 w0 R
  refine Cx.seq (fun K1 k1 => ?_)
  refine Cx.region ?_
  refine Lx.new (boxA rfl) rfl (fun b1 => ?_)
  refine Lx.y (asg rfl) rfl ?_
  refine Lx.nil ?_
  refine Xx.tn (k1 _ _ _ _ ?_)
  refine Cx.seq (fun K2 k2 => ?_)
  refine Cx.region ?_
  refine Lx.y (fa' fo87_0 rfl) rfl ?_
  refine Lx.y (ld Tryd.underlying3 rfl rfl rfl) rfl ?_
  refine Lx.y (cvI rfl Tryd.underlying3 Tryd.underlying5 (wrap_u8 _)) rfl ?_
  refine Lx.bsl (bsl1 Tryd.underlying78 ti5 rfl rfl rfl (by decide)) rfl (fun b9 => ?_)
  refine Lx.y (b2sR Tryd.underlying78 Tryd.underlying5 Tryd.underlying9 rfl (u8s_cons u8s_nil) rfl) rfl ?_
  refine Lx.y (asg rfl) rfl ?_
  refine Xx.dropB b9 ?_
  refine Lx.nil ?_
  refine Xx.tn (k2 _ _ _ _ ?_)
  refine Cx.seq (fun K3 k3 => ?_)
  refine Cx.seq (fun K4 k4 => ?_)
  refine Cx.region ?_
  refine Lx.y (fa' fo87_0 rfl) rfl ?_
  refine Lx.y (ld Tryd.underlying3 rfl rfl rfl) rfl ?_
  refine Lx.nil ?_
  refine Xx.tn (k4 _ _ _ _ ?_)
  refine Cx.block ?_
  refine Cx.seq (fun K5 k5 => ?_)
  refine Cx.region ?_
  refine Lx.y (eqI rfl rfl) rfl ?_
  refine Lx.y (asg rfl) rfl ?_
  refine Lx.nil ?_
  refine Xx.tn (k5 _ _ _ _ ?_)
  refine Cx.condD rfl (fun h6 => ?_) (fun h6 => ?_)
  · skip
    have z1 := h6
    refine Cx.seq (fun K7 k7 => ?_)
    refine Cx.seq (fun K8 k8 => ?_)
    refine Cx.region ?_
    refine Lx.y (fa' fo87_1 rfl) rfl ?_
    refine Lx.y (ld Tryd.underlying4 rfl rfl rfl) rfl ?_
    refine Lx.nil ?_
    refine Xx.tn (k8 _ _ _ _ ?_)
    refine Cx.condB rfl (fun h9 => ?_) (fun h9 => ?_)
    · skip
      have zb := h9
      refine Cx.seq (fun K10 k10 => ?_)
      refine Cx.region ?_
      refine Lx.y (mv rfl) rfl ?_
      refine Lx.y (catS rfl rfl (by first | omega | (simp <;> omega))) rfl ?_
      refine Lx.y (asg rfl) rfl ?_
      refine Lx.nil ?_
      refine Xx.tn (k10 _ _ _ _ ?_)
      refine Cx.ret ?_
      refine Xx.tr ?_
      refine Xx.br ?_
      refine Xx.tr ?_
      refine Xx.dropB b1 (Xx.rB1 rfl rfl ⟨congrArg str ?_, rfl⟩ (Frag.le_refl _) rfl)
      first | exact hkf.symm | (unfold keyF; rw [if_pos z1, zb]; rfl) | (unfold keyF; rw [if_neg z1, if_pos z2, ← numK_add]; done) | (unfold keyF; rw [if_neg z1, if_neg z2, if_pos z3]; done) | (unfold keyF; rw [if_neg z1, if_neg z2, if_neg z3, if_neg z4])
    · skip
      have zb := h9
      refine Cx.skip ?_
      refine Xx.tn (k7 _ _ _ _ ?_)
      refine Cx.seq (fun K11 k11 => ?_)
      refine Cx.region ?_
      refine Lx.y (mv rfl) rfl ?_
      refine Lx.y (catS rfl rfl (by first | omega | (simp <;> omega))) rfl ?_
      refine Lx.y (asg rfl) rfl ?_
      refine Lx.nil ?_
      refine Xx.tn (k11 _ _ _ _ ?_)
      refine Cx.ret ?_
      refine Xx.br ?_
      refine Xx.tr ?_
      refine Xx.dropB b1 (Xx.rB1 rfl rfl ⟨congrArg str ?_, rfl⟩ (Frag.le_refl _) rfl)
      first | exact hkf.symm | (unfold keyF; rw [if_pos z1, zb]; rfl) | (unfold keyF; rw [if_neg z1, if_pos z2, ← numK_add]; done) | (unfold keyF; rw [if_neg z1, if_neg z2, if_pos z3]; done) | (unfold keyF; rw [if_neg z1, if_neg z2, if_neg z3, if_neg z4])
  · skip
    have z1 := h6
    refine Cx.seq (fun K12 k12 => ?_)
    refine Cx.region ?_
    refine Lx.y (eqI rfl rfl) rfl ?_
    refine Lx.y (asg rfl) rfl ?_
    refine Lx.nil ?_
    refine Xx.tn (k12 _ _ _ _ ?_)
    refine Cx.condD rfl (fun h13 => ?_) (fun h13 => ?_)
    · skip
      have z2 := h13
      refine Cx.seq (fun K14 k14 => ?_)
      refine Cx.region ?_
      refine Lx.y (mv rfl) rfl ?_
      refine Lx.y (fa' fo87_2 rfl) rfl ?_
      refine Lx.y (ld Tryd.underlying2 rfl rfl rfl) rfl ?_
      refine Lx.y (cvW64 rfl Tryd.underlying2 Tryd.underlying80) rfl ?_
      refine Lx.y (addW64 (b := 9223372036854775808#64) rfl rfl) rfl ?_
      refine Lx.cp rfl rfl rfl (eight_ct _ _) rfl ?_
      refine Lx.y (catS rfl rfl (by first | omega | (simp <;> omega))) rfl ?_
      refine Lx.y (asg rfl) rfl ?_
      refine Lx.nil ?_
      refine Xx.tn (k14 _ _ _ _ ?_)
      refine Cx.ret ?_
      refine Xx.br ?_
      refine Xx.tr ?_
      refine Xx.dropB b1 (Xx.rB1 rfl rfl ⟨congrArg str ?_, rfl⟩ (Frag.le_refl _) rfl)
      first | exact hkf.symm | (unfold keyF; rw [if_pos z1, zb]; rfl) | (unfold keyF; rw [if_neg z1, if_pos z2, ← numK_add]; done) | (unfold keyF; rw [if_neg z1, if_neg z2, if_pos z3]; done) | (unfold keyF; rw [if_neg z1, if_neg z2, if_neg z3, if_neg z4])
    · skip
      have z2 := h13
      refine Cx.cutK (ds' := []) (Sub.cons (s := 0) rfl (Sub.cons (s := 1) rfl (Sub.cons (s := 2) rfl (Sub.cons (s := 3) rfl (Sub.cons (s := 5) rfl (Sub.cons (s := 6) rfl (Sub.cons (s := 7) rfl (Sub.cons (s := 8) rfl (Sub.cons (s := 9) rfl (Sub.cons (s := 10) rfl (Sub.cons (s := 11) rfl (Sub.cons (s := 12) rfl (Sub.cons (s := 13) rfl (Sub.cons (s := 20) rfl (Sub.cons (s := 21) rfl (Sub.nil _)))))))))))))))) (fun ρ' B' H' => ρ' = [(29, .bool (decide (v.kind = 3 ∨ v.kind = 4)))] ∧ B = B' ∧ row b1 87 (vcs v Ap cp An cn) * R = H') ?_ ?_
      · skip
        refine Cx.seq (fun K15 k15 => ?_)
        refine Cx.region ?_
        refine Lx.y (eqI rfl rfl) rfl ?_
        refine Lx.y (asg rfl) rfl ?_
        refine Lx.nil ?_
        refine Xx.tn (k15 _ _ _ _ ?_)
        refine Cx.condD rfl (fun h16 => ?_) (fun h16 => ?_)
        · skip
          have z3 := h16
          refine Cx.skip ?_
          exact Xx.mkK (⟨rfl, rfl, rfl⟩) (Sub.consE (s := 29) rfl (by first | exact congrArg Value.bool (decide_eq_true (by omega)).symm | exact congrArg Value.bool (decide_eq_decide.2 (by omega))) (Sub.cons (s := 0) rfl (Sub.cons (s := 1) rfl (Sub.cons (s := 2) rfl (Sub.cons (s := 3) rfl (Sub.cons (s := 5) rfl (Sub.cons (s := 6) rfl (Sub.cons (s := 7) rfl (Sub.cons (s := 8) rfl (Sub.cons (s := 9) rfl (Sub.cons (s := 10) rfl (Sub.cons (s := 11) rfl (Sub.cons (s := 12) rfl (Sub.cons (s := 13) rfl (Sub.cons (s := 20) rfl (Sub.cons (s := 21) rfl (Sub.nil _)))))))))))))))))
        · skip
          have z3 := h16
          refine Cx.region ?_
          refine Lx.y (eqI rfl rfl) rfl ?_
          refine Lx.y (asg rfl) rfl ?_
          refine Lx.nil ?_
          exact Xx.mkK (⟨rfl, rfl, rfl⟩) (Sub.consE (s := 29) rfl (by first | exact congrArg Value.bool (decide_eq_true (by omega)).symm | exact congrArg Value.bool (decide_eq_decide.2 (by omega))) (Sub.cons (s := 0) rfl (Sub.cons (s := 1) rfl (Sub.cons (s := 2) rfl (Sub.cons (s := 3) rfl (Sub.cons (s := 5) rfl (Sub.cons (s := 6) rfl (Sub.cons (s := 7) rfl (Sub.cons (s := 8) rfl (Sub.cons (s := 9) rfl (Sub.cons (s := 10) rfl (Sub.cons (s := 11) rfl (Sub.cons (s := 12) rfl (Sub.cons (s := 13) rfl (Sub.cons (s := 20) rfl (Sub.cons (s := 21) rfl (Sub.nil _)))))))))))))))))
      · rintro ρ' B' H' ⟨rfl, rfl, rfl⟩
        refine Cx.condD rfl (fun h17 => ?_) (fun h17 => ?_)
        · skip
          have z3 := h17
          refine Cx.seq (fun K18 k18 => ?_)
          have hsb : v.s.length ≤ 1048576 := by unfold bytesF at hb; rw [if_neg z1, if_neg z2, if_pos z3] at hb; unfold txtL at hb; simp only [List.length_append] at hb; omega
          have htl := textL_len v.s
          refine Cx.region ?_
          refine Lx.y (mv rfl) rfl ?_
          refine Lx.y (fa' fo87_3 rfl) rfl ?_
          refine Lx.y (ld Tryd.underlying9 rfl rfl rfl) rfl ?_
          refine Lx.cp rfl rfl rfl (RefText_ct _ _ (by omega)) rfl ?_
          refine Lx.y (catS rfl rfl (by first | omega | (simp <;> omega))) rfl ?_
          refine Lx.y (asg rfl) rfl ?_
          refine Lx.nil ?_
          refine Xx.tn (k18 _ _ _ _ ?_)
          refine Cx.ret ?_
          refine Xx.br ?_
          refine Xx.tr ?_
          refine Xx.dropB b1 (Xx.rB1 rfl rfl ⟨congrArg str ?_, rfl⟩ (Frag.le_refl _) rfl)
          first | exact hkf.symm | (unfold keyF; rw [if_pos z1, zb]; rfl) | (unfold keyF; rw [if_neg z1, if_pos z2, ← numK_add]; done) | (unfold keyF; rw [if_neg z1, if_neg z2, if_pos z3]; done) | (unfold keyF; rw [if_neg z1, if_neg z2, if_neg z3, if_neg z4])
        · skip
          have z3 := h17
          refine Cx.cutK (ds' := []) (Sub.cons (s := 0) rfl (Sub.cons (s := 1) rfl (Sub.cons (s := 2) rfl (Sub.cons (s := 3) rfl (Sub.cons (s := 5) rfl (Sub.cons (s := 6) rfl (Sub.cons (s := 7) rfl (Sub.cons (s := 8) rfl (Sub.cons (s := 9) rfl (Sub.cons (s := 10) rfl (Sub.cons (s := 11) rfl (Sub.cons (s := 12) rfl (Sub.cons (s := 13) rfl (Sub.cons (s := 20) rfl (Sub.cons (s := 21) rfl (Sub.cons (s := 29) rfl (Sub.nil _))))))))))))))))) (fun ρ' B' H' => ρ' = [(37, .bool (decide (v.kind = 5 ∨ v.kind = 6)))] ∧ B = B' ∧ row b1 87 (vcs v Ap cp An cn) * R = H') ?_ ?_
          · skip
            refine Cx.seq (fun K19 k19 => ?_)
            refine Cx.region ?_
            refine Lx.y (eqI rfl rfl) rfl ?_
            refine Lx.y (asg rfl) rfl ?_
            refine Lx.nil ?_
            refine Xx.tn (k19 _ _ _ _ ?_)
            refine Cx.condD rfl (fun h20 => ?_) (fun h20 => ?_)
            · skip
              have z4 := h20
              refine Cx.skip ?_
              exact Xx.mkK (⟨rfl, rfl, rfl⟩) (Sub.consE (s := 37) rfl (by first | exact congrArg Value.bool (decide_eq_true (by omega)).symm | exact congrArg Value.bool (decide_eq_decide.2 (by omega))) (Sub.cons (s := 0) rfl (Sub.cons (s := 1) rfl (Sub.cons (s := 2) rfl (Sub.cons (s := 3) rfl (Sub.cons (s := 5) rfl (Sub.cons (s := 6) rfl (Sub.cons (s := 7) rfl (Sub.cons (s := 8) rfl (Sub.cons (s := 9) rfl (Sub.cons (s := 10) rfl (Sub.cons (s := 11) rfl (Sub.cons (s := 12) rfl (Sub.cons (s := 13) rfl (Sub.cons (s := 20) rfl (Sub.cons (s := 21) rfl (Sub.cons (s := 29) rfl (Sub.nil _))))))))))))))))))
            · skip
              have z4 := h20
              refine Cx.region ?_
              refine Lx.y (eqI rfl rfl) rfl ?_
              refine Lx.y (asg rfl) rfl ?_
              refine Lx.nil ?_
              exact Xx.mkK (⟨rfl, rfl, rfl⟩) (Sub.consE (s := 37) rfl (by first | exact congrArg Value.bool (decide_eq_true (by omega)).symm | exact congrArg Value.bool (decide_eq_decide.2 (by omega))) (Sub.cons (s := 0) rfl (Sub.cons (s := 1) rfl (Sub.cons (s := 2) rfl (Sub.cons (s := 3) rfl (Sub.cons (s := 5) rfl (Sub.cons (s := 6) rfl (Sub.cons (s := 7) rfl (Sub.cons (s := 8) rfl (Sub.cons (s := 9) rfl (Sub.cons (s := 10) rfl (Sub.cons (s := 11) rfl (Sub.cons (s := 12) rfl (Sub.cons (s := 13) rfl (Sub.cons (s := 20) rfl (Sub.cons (s := 21) rfl (Sub.cons (s := 29) rfl (Sub.nil _))))))))))))))))))
          · rintro ρ' B' H' ⟨rfl, rfl, rfl⟩
            refine Cx.condD rfl (fun h21 => ?_) (fun h21 => ?_)
            · skip
              have z4 := h21
              refine Cx.seq (fun K22 k22 => ?_)
              refine Cx.seq (fun K23 k23 => ?_)
              have hbf : bytesF (d + 1) v = preB (bytesF d) v v.parts.length := by unfold bytesF; rw [if_neg (by omega), if_neg (by omega), if_neg (by omega), if_pos z4]
              rw [hbf] at hb
              have hkf : keyF (d + 1) v = preK (keyF d) v v.parts.length ++ [0] := by unfold keyF; rw [if_neg (by omega), if_neg (by omega), if_neg (by omega), if_pos z4]
              refine Cx.region ?_
              refine Lx.y (asg rfl) rfl ?_
              refine Lx.nil ?_
              refine Xx.tn (k23 _ _ _ _ ?_)
              refine Cx.block ?_
              refine Cx.loopK (Sub.cons (s := 0) rfl (Sub.cons (s := 1) rfl (Sub.cons (s := 2) rfl (Sub.cons (s := 5) rfl (Sub.cons (s := 6) rfl (Sub.cons (s := 7) rfl (Sub.cons (s := 8) rfl (Sub.cons (s := 9) rfl (Sub.cons (s := 10) rfl (Sub.cons (s := 11) rfl (Sub.cons (s := 12) rfl (Sub.cons (s := 13) rfl (Sub.cons (s := 20) rfl (Sub.cons (s := 21) rfl (Sub.cons (s := 29) rfl (Sub.cons (s := 37) rfl (Sub.nil _))))))))))))))))) (fun m ρ' B' H' => ∃ (i : Nat), (i ≤ v.parts.length) ∧ m = v.parts.length - i ∧ ρ' = [(3, str (preK (keyF d) v i)), (4, i64 i)] ∧ B = B' ∧ row b1 87 (vcs v Ap cp An cn) * R = H') ⟨0, Nat.zero_le _, rfl, rfl, rfl, rfl⟩ (Sub.consE (s := 3) rfl (by simp [preK]) (Sub.cons (s := 4) rfl (Sub.cons (s := 0) rfl (Sub.cons (s := 1) rfl (Sub.cons (s := 2) rfl (Sub.cons (s := 5) rfl (Sub.cons (s := 6) rfl (Sub.cons (s := 7) rfl (Sub.cons (s := 8) rfl (Sub.cons (s := 9) rfl (Sub.cons (s := 10) rfl (Sub.cons (s := 11) rfl (Sub.cons (s := 12) rfl (Sub.cons (s := 13) rfl (Sub.cons (s := 20) rfl (Sub.cons (s := 21) rfl (Sub.cons (s := 29) rfl (Sub.cons (s := 37) rfl (Sub.nil _))))))))))))))))))) ?_
              rintro m ρ' B' H' ⟨i, hi, rfl, rfl, rfl, rfl⟩
              have hmi := preB_mono (bytesF d) v (show i ≤ v.parts.length by omega)
              have hki := preK_len (keyF d) (bytesF d) v hpk i (by omega)
              refine Cx.seq (fun K24 k24 => ?_)
              refine Cx.seq (fun K25 k25 => ?_)
              refine Cx.region ?_
              refine Lx.y (mv rfl) rfl ?_
              refine Lx.y (fa' fo87_4 rfl) rfl ?_
              refine Lx.y (ld Tryd.underlying85 rfl rfl rfl) rfl ?_
              refine Lx.y (lenV (ty' := 0) Tryd.underlying85 rfl) rfl ?_
              refine Lx.y (lss rfl rfl) rfl ?_
              refine Lx.nil ?_
              refine Xx.tn (k25 _ _ _ _ ?_)
              refine Cx.condD rfl (fun h26 => ?_) (fun h26 => ?_)
              · skip
                refine Cx.skip ?_
                refine Xx.tn (k24 _ _ _ _ ?_)
                refine Cx.seq (fun K27 k27 => ?_)
                refine Cx.block ?_
                refine Cx.seq (fun K28 k28 => ?_)
                have hil : i < v.parts.length := by omega
                have hpi := hpk i hil
                have hm2 := preB_mono (bytesF d) v (show i + 1 ≤ v.parts.length by omega)
                rw [preB_succ, List.length_append] at hm2
                obtain ⟨bq, oq, lq, eq, fq, xs, rfl, hBq, hxs, hv2⟩ := hps i hil
                obtain ⟨Ap2, cp2, An2, cn2, rfl⟩ := ValR.shape hv2
                refine Cx.region ?_
                refine Lx.y (mv rfl) rfl ?_
                refine Lx.y (catS rfl rfl (by first | omega | (simp <;> omega))) rfl ?_
                refine Lx.y (asg rfl) rfl ?_
                refine Lx.nil ?_
                refine Xx.tn (k28 _ _ _ _ ?_)
                refine Cx.seq (fun K29 k29 => ?_)
                refine Cx.seq (fun K30 k30 => ?_)
                refine Cx.region ?_
                refine Lx.y (fa' fo87_0 rfl) rfl ?_
                refine Lx.y (ld Tryd.underlying3 rfl rfl rfl) rfl ?_
                refine Lx.y (eqI rfl rfl) rfl ?_
                refine Lx.y (mv rfl) rfl ?_
                refine Xx.ifD (t := 52) rfl (fun h31 => ?_) (fun h31 => ?_)
                · skip
                  have k6 := h31
                  refine Lx.gT rfl rfl rfl ?_
                  refine Lx.y (mv rfl) rfl ?_
                  refine Lx.gT rfl rfl rfl ?_
                  refine Lx.y (fa' fo87_5 rfl) rfl ?_
                  refine Lx.gT rfl rfl rfl ?_
                  refine Lx.y (ld Tryd.underlying24 rfl rfl rfl) rfl ?_
                  refine Lx.gT rfl rfl rfl ?_
                  refine Lx.y (lenV (ty' := 0) Tryd.underlying24 rfl) rfl ?_
                  refine Lx.gT rfl rfl rfl ?_
                  refine Lx.y (lss rfl rfl) rfl ?_
                  refine Lx.y (pickT rfl rfl) rfl ?_
                  refine Lx.nil ?_
                  refine Xx.tn (k30 _ _ _ _ ?_)
                  refine Cx.condD rfl (fun h32 => ?_) (fun h32 => ?_)
                  · skip
                    have hin : i < v.names.length := by have := h32; omega
                    have hpt : partK (keyF d) v i = [1] ++ textL (v.names.getD i []) ++ keyF d v.parts[i] := by unfold partK; rw [if_pos hin, getDp hil]
                    have hpb : partB (bytesF d) v i = txtL (v.names.getD i []) ++ bytesF d v.parts[i] := by unfold partB; rw [if_pos hin, getDp hil]
                    rw [hpb, List.length_append] at hm2
                    unfold txtL at hm2
                    rw [List.length_append] at hm2
                    obtain ⟨bn, on, ln, en, fn, rfl, hBn, hln⟩ := hns.at1 (k := i) hin
                    rw [get_map hin] at hln
                    generalize v.names.getD i [] = nm at *
                    have htn := textL_len nm
                    refine Cx.region ?_
                    refine Lx.y (mv rfl) rfl ?_
                    refine Lx.y (fa' fo87_5 rfl) rfl ?_
                    refine Lx.y (ld Tryd.underlying24 rfl rfl rfl) rfl ?_
                    refine Lx.y (mv rfl) rfl ?_
                    refine Lx.y (ia Tryd.underlying24 sz9 rfl rfl (by first | exact Int.toNat_natCast _ | rfl) (by omega) (by omega)) rfl ?_
                    refine Lx.y (ldB Tryd.underlying9 rfl rfl hBn hln) rfl ?_
                    refine Lx.cp rfl rfl rfl (RefText_ct _ _ (by omega)) rfl ?_
                    refine Lx.y (catS rfl rfl (by first | omega | (simp <;> omega))) rfl ?_
                    refine Lx.y (asg rfl) rfl ?_
                    refine Lx.nil ?_
                    refine Xx.tn (k29 _ _ _ _ ?_)
                    refine Cx.region ?_
                    refine Lx.y (mv rfl) rfl ?_
                    refine Lx.y (fa' fo87_4 rfl) rfl ?_
                    refine Lx.y (ld Tryd.underlying85 rfl rfl rfl) rfl ?_
                    refine Lx.y (mv rfl) rfl ?_
                    refine Lx.y (ia Tryd.underlying85 sz87 rfl rfl (by first | exact Int.toNat_natCast _ | rfl) (by omega) (by omega)) rfl ?_
                    refine Lx.y (ldA Tryd.underlying87 rfl sz87 rfl (Cells.base (n := 6) hBq hxs) rfl) rfl ?_
                    refine Lx.cp rfl rfl rfl (ih _ _ _ _ hv2 (hokp i hil) (by omega)) rfl ?_
                    refine Lx.y (catS rfl rfl (by first | omega | (simp <;> omega))) rfl ?_
                    refine Lx.y (asg rfl) rfl ?_
                    refine Lx.nil ?_
                    refine Xx.bn ?_
                    refine Xx.tn (k27 _ _ _ _ ?_)
                    refine Cx.region ?_
                    refine Lx.y (mv rfl) rfl ?_
                    refine Lx.y (add rfl rfl (by first | exact wrap64 (by omega) (by omega) | rfl)) rfl ?_
                    refine Lx.y (asg rfl) rfl ?_
                    refine Lx.nil ?_
                    exact Xx.againK ⟨i + 1, by omega, rfl, rfl, rfl, rfl⟩ (by omega) (Sub.consE (s := 3) rfl (by rw [preK_succ, hpt]; simp) (Sub.cons (s := 4) rfl (Sub.cons (s := 0) rfl (Sub.cons (s := 1) rfl (Sub.cons (s := 2) rfl (Sub.cons (s := 5) rfl (Sub.cons (s := 6) rfl (Sub.cons (s := 7) rfl (Sub.cons (s := 8) rfl (Sub.cons (s := 9) rfl (Sub.cons (s := 10) rfl (Sub.cons (s := 11) rfl (Sub.cons (s := 12) rfl (Sub.cons (s := 13) rfl (Sub.cons (s := 20) rfl (Sub.cons (s := 21) rfl (Sub.cons (s := 29) rfl (Sub.cons (s := 37) rfl (Sub.nil _)))))))))))))))))))
                  · skip
                    exact absurd h32 (by have := hnm6 k6; omega)
                · skip
                  have k6 : ¬ v.kind = 6 := h31
                  have hin : ¬ i < v.names.length := by have := hnm0 k6; omega
                  have hpt : partK (keyF d) v i = [1] ++ [] ++ keyF d v.parts[i] := by unfold partK; rw [if_neg hin, getDp hil]
                  have hpb : partB (bytesF d) v i = bytesF d v.parts[i] := by unfold partB; rw [if_neg hin, getDp hil]; rfl
                  rw [hpb] at hm2
                  refine Lx.gF rfl rfl rfl rfl ?_
                  refine Lx.gF rfl rfl rfl rfl ?_
                  refine Lx.gF rfl rfl rfl rfl ?_
                  refine Lx.gF rfl rfl rfl rfl ?_
                  refine Lx.gF rfl rfl rfl rfl ?_
                  refine Lx.y (pickF rfl rfl) rfl ?_
                  refine Lx.nil ?_
                  refine Xx.tn (k30 _ _ _ _ ?_)
                  refine Cx.condF rfl ?_
                  refine Cx.skip ?_
                  refine Xx.tn (k29 _ _ _ _ ?_)
                  refine Cx.region ?_
                  refine Lx.y (mv rfl) rfl ?_
                  refine Lx.y (fa' fo87_4 rfl) rfl ?_
                  refine Lx.y (ld Tryd.underlying85 rfl rfl rfl) rfl ?_
                  refine Lx.y (mv rfl) rfl ?_
                  refine Lx.y (ia Tryd.underlying85 sz87 rfl rfl (by first | exact Int.toNat_natCast _ | rfl) (by omega) (by omega)) rfl ?_
                  refine Lx.y (ldA Tryd.underlying87 rfl sz87 rfl (Cells.base (n := 6) hBq hxs) rfl) rfl ?_
                  refine Lx.cp rfl rfl rfl (ih _ _ _ _ hv2 (hokp i hil) (by omega)) rfl ?_
                  refine Lx.y (catS rfl rfl (by first | omega | (simp <;> omega))) rfl ?_
                  refine Lx.y (asg rfl) rfl ?_
                  refine Lx.nil ?_
                  refine Xx.bn ?_
                  refine Xx.tn (k27 _ _ _ _ ?_)
                  refine Cx.region ?_
                  refine Lx.y (mv rfl) rfl ?_
                  refine Lx.y (add rfl rfl (by first | exact wrap64 (by omega) (by omega) | rfl)) rfl ?_
                  refine Lx.y (asg rfl) rfl ?_
                  refine Lx.nil ?_
                  exact Xx.againK ⟨i + 1, by omega, rfl, rfl, rfl, rfl⟩ (by omega) (Sub.consE (s := 3) rfl (by rw [preK_succ, hpt]; simp) (Sub.cons (s := 4) rfl (Sub.cons (s := 0) rfl (Sub.cons (s := 1) rfl (Sub.cons (s := 2) rfl (Sub.cons (s := 5) rfl (Sub.cons (s := 6) rfl (Sub.cons (s := 7) rfl (Sub.cons (s := 8) rfl (Sub.cons (s := 9) rfl (Sub.cons (s := 10) rfl (Sub.cons (s := 11) rfl (Sub.cons (s := 12) rfl (Sub.cons (s := 13) rfl (Sub.cons (s := 20) rfl (Sub.cons (s := 21) rfl (Sub.cons (s := 29) rfl (Sub.cons (s := 37) rfl (Sub.nil _)))))))))))))))))))
              · skip
                obtain rfl : i = v.parts.length := by omega
                refine Cx.exit ?_
                refine Xx.te ?_
                refine Xx.te ?_
                refine Xx.bh ?_
                refine Xx.tn (k22 _ _ _ _ ?_)
                refine Cx.seq (fun K33 k33 => ?_)
                refine Cx.region ?_
                refine Lx.y (mv rfl) rfl ?_
                refine Lx.y (catS rfl rfl (by first | omega | (simp <;> omega))) rfl ?_
                refine Lx.y (asg rfl) rfl ?_
                refine Lx.nil ?_
                refine Xx.tn (k33 _ _ _ _ ?_)
                refine Cx.ret ?_
                refine Xx.br ?_
                refine Xx.tr ?_
                refine Xx.dropB b1 (Xx.rB1 rfl rfl ⟨congrArg str ?_, rfl⟩ (Frag.le_refl _) rfl)
                first | exact hkf.symm | (unfold keyF; rw [if_pos z1, zb]; rfl) | (unfold keyF; rw [if_neg z1, if_pos z2, ← numK_add]; done) | (unfold keyF; rw [if_neg z1, if_neg z2, if_pos z3]; done) | (unfold keyF; rw [if_neg z1, if_neg z2, if_neg z3, if_neg z4])
            · skip
              have z4 := h21
              refine Cx.skip ?_
              refine Xx.bn ?_
              refine Xx.tn (k3 _ _ _ _ ?_)
              refine Cx.seq (fun K34 k34 => ?_)
              refine Cx.region ?_
              refine Lx.y (mv rfl) rfl ?_
              refine Lx.y (asg rfl) rfl ?_
              refine Lx.nil ?_
              refine Xx.tn (k34 _ _ _ _ ?_)
              refine Cx.ret ?_
              refine Xx.dropB b1 (Xx.rB1 rfl rfl ⟨congrArg str ?_, rfl⟩ (Frag.le_refl _) rfl)
              first | exact hkf.symm | (unfold keyF; rw [if_pos z1, zb]; rfl) | (unfold keyF; rw [if_neg z1, if_pos z2, ← numK_add]; done) | (unfold keyF; rw [if_neg z1, if_neg z2, if_pos z3]; done) | (unfold keyF; rw [if_neg z1, if_neg z2, if_neg z3, if_neg z4])

theorem RKey_ct : ∀ (d : Nat) (v : V) (cs : List Value) (deep : Int) (B : Frag), ValR B d v cs → checkF d v deep = 0 → (bytesF d v).length ≤ 1048576 → CtP Tryd.prog 51 [.agg cs.toArray] B (str (keyF d v)) := by
  intro d
  induction d with
  | zero => intro v cs deep B h; exact h.elim
  | succ d ih => intro v cs deep B h hok hb; exact RKey_step d ih v cs deep B h hok hb
theorem cmpI_lt {m n : Int} : cmpI m n = .lt ↔ m < n := by
  unfold cmpI
  by_cases h1 : m < n
  · simp [h1]
  · by_cases h2 : n < m <;> simp [h1, h2]
theorem lexO_step {f : Nat → Ordering} {n m i : Nat} (h1 : i < n) (h2 : i < m) : lexO f (n - i) (m - i) i = (f i).then (lexO f (n - (i + 1)) (m - (i + 1)) (i + 1)) := by
  obtain ⟨c, hc⟩ : ∃ c, n - i = c + 1 := ⟨n - i - 1, by omega⟩
  obtain ⟨e, he⟩ : ∃ e, m - i = e + 1 := ⟨m - i - 1, by omega⟩
  have hc2 : n - (i + 1) = c := by omega
  have he2 : m - (i + 1) = e := by omega
  rw [hc, he, hc2, he2]; rfl
theorem lexO_end {f : Nat → Ordering} {n m i : Nat} (h1 : i ≤ n) (h2 : i ≤ m) (h : i = n ∨ i = m) : (lexO f (n - i) (m - i) i = .lt ↔ n < m) := by
  rcases h with rfl | rfl
  · rw [Nat.sub_self]
    by_cases e : m = i
    · subst e; rw [Nat.sub_self]; simp [lexO]
    · obtain ⟨c, hc⟩ : ∃ c, m - i = c + 1 := ⟨m - i - 1, by omega⟩
      rw [hc]; simp [lexO]; omega
  · rw [Nat.sub_self]
    by_cases e : n = i
    · subst e; rw [Nat.sub_self]; simp [lexO]
    · obtain ⟨c, hc⟩ : ∃ c, n - i = c + 1 := ⟨n - i - 1, by omega⟩
      rw [hc]; simp [lexO]; omega
theorem swap_lt {o : Ordering} : o.swap = .lt ↔ o = .gt := by cases o <;> simp [Ordering.swap]

set_option maxHeartbeats 1000000 in
theorem Equal_ct (d : Nat) (v : V) (cs : List Value) (B : Frag) (h : ValR B d v cs) (hM : MaxLenIn B) (hb : (bytesF d v).length ≤ 1024) : CtB Tryd.prog 12 [.agg cs.toArray] B (fun v2 B' => B' = B ∧ ∃ r, v2 = spV (keyF d v) r ∧ nextP (keyF d v) r) := by
  have hkl := keyF_len _ _ _ _ h
  obtain ⟨Ap, cp, An, cn, rfl⟩ := ValR.shape h
  refine CtB.of_body Tryd.func12 rfl (nt := 9) rfl (by kernel_rfl) rfl ?_
  intro N0 w0 R
  refine Cx.seq (fun K1 k1 => ?_)
  refine Cx.region ?_
  refine Lx.new (boxA rfl) rfl (fun b1 => ?_)
  refine Lx.new (allocO ti34) rfl (fun b2 => ?_)
  refine Lx.nil ?_
  refine Xx.tn (k1 _ _ _ _ ?_)
  refine Cx.seq (fun K2 k2 => ?_)
  refine Cx.drawn (by kernel_rfl) ?_
  refine Dx.r (i := 0) rfl (by kernel_rfl) (ldA Tryd.underlying26 rfl sz26 rfl (Cells.own (n := 6) PickB.eq rfl) rfl) rfl ?_
  refine Dx.r (i := 2) rfl (by kernel_rfl) (ldA Tryd.underlying26 rfl sz26 rfl (Cells.own (n := 6) PickB.eq rfl) rfl) rfl ?_
  refine Dx.one (i := 1) (by kernel_rfl) ?_
  refine Dstep.o (i := 1) rfl (Ox.cb rfl rfl rfl (Of_ct d v _ _ h hM (by omega))) rfl (fun v B' H' hΦ hB => ?_)
  obtain ⟨rfl, rfl, rfl⟩ := hΦ; clear hB
  refine ⟨JOk.yes (JOk.edge (JOk.top) (by kernel_rfl)) (ldA Tryd.underlying26 rfl sz26 rfl (Cells.own (n := 6) PickB.eq rfl) rfl), ?_⟩
  refine Dx.one (i := 3) (by kernel_rfl) ?_
  refine Dstep.o (i := 3) rfl (Ox.cb rfl rfl rfl (Of_ct d v _ _ h hM (by omega))) rfl (fun v B' H' hΦ hB => ?_)
  obtain ⟨rfl, rfl, rfl⟩ := hΦ; clear hB
  refine ⟨JOk.edge (JOk.yes (JOk.top) (ldA Tryd.underlying26 rfl sz26 rfl (Cells.own (n := 6) PickB.eq rfl) rfl)) (by kernel_rfl), ?_⟩
  refine Dx.one (i := 4) (by kernel_rfl) ?_
  refine Dstep.o (i := 4) rfl (Ox.cb rfl rfl rfl (Next_ct _ _ (by omega))) rfl (fun v B' H' hΦ hB => ?_)
  obtain ⟨rfl, hΦ⟩ := hΦ
  obtain ⟨hBB, r, rfl, hr⟩ := hΦ
  obtain rfl := hBB.symm
  refine ⟨JOk.yes (JOk.yes (JOk.top) (ldA Tryd.underlying26 rfl sz26 rfl (Cells.own (n := 6) PickB.eq rfl) rfl)) (ldA Tryd.underlying26 rfl sz26 rfl (Cells.own (n := 6) PickB.eq rfl) rfl), ?_⟩
  refine Dx.p (i := 5) rfl (by kernel_rfl) (bld ti34 pl34 rfl rfl) rfl ?_
  refine Dx.one (i := 6) (by kernel_rfl) ?_
  refine Dstep.o0 (i := 6) rfl (stA (d := .bool) sz34 rfl rfl rfl rfl (by show 0 + 2 ≤ 2; omega) rfl) (fun v B' H' hΦ hB => ?_)
  obtain ⟨rfl, rfl⟩ := hΦ; clear hB v
  refine ⟨JOk.edge (JOk.edge (JOk.top) (by kernel_rfl)) (by kernel_rfl), ?_⟩
  refine Dx.done (by kernel_rfl) ?_
  refine Xx.tn (k2 _ _ _ _ ?_)
  refine Cx.ret ?_
  exact Xx.dropB b1 (Xx.rBa rfl Tryd.underlying34 rfl sz34 rfl rfl ⟨rfl, r, rfl, hr⟩ (Frag.le_refl _))

/-- short texts, all the way down -/
def Sh : Nat → V → Prop
  | 0, _ => True
  | d + 1, v => v.s.length ≤ 1100 ∧ ∀ p ∈ v.parts, Sh d p
theorem cutF_sh : ∀ (deep w d : Nat) (v : V), Sh d (cutF deep w v) := by
  intro deep
  induction deep with
  | zero => intro w d v; cases d with
    | zero => exact trivial
    | succ d => exact ⟨by rw [cutF_s]; simp; omega, fun p hp => by cases hp⟩
  | succ k ih => intro w d v; cases d with
    | zero => exact trivial
    | succ d =>
      refine ⟨by rw [cutF_s]; simp; omega, fun p hp => ?_⟩
      have hp' : p ∈ (v.parts.take w).map (cutF k 4) := hp
      obtain ⟨q, _, rfl⟩ := List.mem_map.1 hp'
      exact ih 4 d q
theorem nameB_iff2 {s : List UInt8} (h : NameP s) : s.length ≤ 16 := h.2.2
theorem preB_le {f : V → List UInt8} {v : V} {X : Nat} (h1 : ∀ i, i < v.names.length → (v.names.getD i []).length ≤ 16) (h2 : ∀ i (hi : i < v.parts.length), (f v.parts[i]).length ≤ X) : ∀ i, i ≤ v.parts.length → (preB f v i).length ≤ 12 + i * (27 + X) := by
  intro i
  induction i with
  | zero => intro _; unfold preB; have : (uvL (BitVec.ofInt 64 (v.parts.length : Nat))).length ≤ 11 := uvF_len 10 _; simp at this ⊢; omega
  | succ i ih =>
    intro hi
    have h3 := ih (by omega)
    have h4 := h2 i (by omega)
    rw [preB_succ, List.length_append, Nat.succ_mul]
    have h5 : (partB f v i).length ≤ 27 + X := by
      unfold partB
      rw [getDp (by omega), List.length_append]
      by_cases hn : i < v.names.length
      · rw [if_pos hn]
        have h6 := h1 i hn
        unfold txtL
        have : (uvL (BitVec.ofInt 64 ((v.names.getD i []).length : Nat))).length ≤ 11 := uvF_len 10 _
        rw [List.length_append]; omega
      · rw [if_neg hn]; simp; omega
    omega
theorem bytes_le : ∀ (d : Nat) (v : V) (deep : Int), deep ≤ 9 → checkF d v deep = 0 → Sh d v → (bytesF d v).length ≤ 1200 * 34 ^ (9 - deep).toNat := by
  intro d
  induction d with
  | zero => intro v deep _ _ _; show 0 ≤ _; omega
  | succ d ih =>
    intro v deep hd hok hsh
    obtain ⟨h8, _, _, _, hpl, hnb, hps⟩ := chk_ok hok
    obtain ⟨hn6, hn0⟩ := names_many hok
    obtain ⟨k, hk⟩ : ∃ k, (9 - deep).toNat = k + 1 := ⟨(9 - deep).toNat - 1, by omega⟩
    have hk2 : (9 - (deep + 1)).toNat = k := by omega
    rw [hk, Nat.pow_succ]
    have hp := preB_le (f := bytesF d) (v := v) (X := 1200 * 34 ^ k) (fun i hi => by
      have := ((namesP hnb).1 i hi).1
      exact this.2.2) (fun i hi => by have := ih v.parts[i] (deep + 1) (by omega) (hps i hi) (hsh.2 _ (List.getElem_mem hi)); rw [hk2] at this; exact this) v.parts.length (Nat.le_refl _)
    have hm : v.parts.length * (27 + 1200 * 34 ^ k) ≤ 32 * (27 + 1200 * 34 ^ k) := Nat.mul_le_mul_right _ hpl
    have hpos : 0 < 34 ^ k := Nat.pow_pos (by decide)
    have hs := hsh.1
    have u1 : (uvL (BitVec.ofInt 64 (v.s.length : Nat))).length ≤ 11 := uvF_len 10 _
    have u2 : (uvL (BitVec.ofInt 64 v.n <<< 1 ^^^ BitVec.ofInt 64 (v.n / 9223372036854775808))).length ≤ 11 := uvF_len 10 _
    generalize 34 ^ k = z at *
    unfold bytesF
    repeat' split
    all_goals first | (unfold intL; simp only [List.length_append, List.length_cons, List.length_nil]; omega) | (unfold txtL; simp only [List.length_append, List.length_cons, List.length_nil]; omega) | omega | (simp only [List.length_append, List.length_cons, List.length_nil]; omega)
theorem cut_bytes {d deep w : Nat} {v : V} (h : checkF d (cutF deep w v) 1 = 0) : (bytesF d (cutF deep w v)).length ≤ 1152921504606846976 := by
  have := bytes_le d _ 1 (by decide) h (cutF_sh deep w d v)
  exact Nat.le_trans this (by decide)
theorem CheckF_zero {d : Nat} {v : V} (h : CheckF d v = 0) : checkF d v 1 = 0 ∧ (bytesF d v).length ≤ 1024 := by
  unfold CheckF at h
  by_cases h1 : checkF d v 1 = 0
  · rw [if_pos h1] at h
    by_cases h2 : 1024 < (bytesF d v).length
    · rw [if_pos h2] at h; omega
    · exact ⟨h1, by omega⟩
  · rw [if_neg h1] at h; exact absurd h h1
theorem tri_lt {o : Ordering} {p q : List UInt8} (h : Tri o p q) : bless p q = decide (o = .lt) := by
  cases o with
  | lt => exact Lt.less h
  | eq => have e : p = q := h; subst e; exact bless_irrefl _
  | gt => exact bless_asymm (Lt.less h)
theorem tri_eq {o : Ordering} {p q : List UInt8} (h : Tri o p q) : decide (p = q) = decide (o = .eq) := by
  cases o with
  | lt => exact decide_eq_false fun e => by subst e; have := Lt.less h; rw [bless_irrefl] at this; cases this
  | eq => exact decide_eq_true h
  | gt => exact decide_eq_false fun e => by subst e; have := Lt.less h; rw [bless_irrefl] at this; cases this
theorem tri_pre {o : Ordering} {p q : List UInt8} (h : Tri o p q) : decide (p.length ≤ q.length ∧ q.take p.length = p) = decide (o = .eq) := by
  cases o with
  | lt => exact decide_eq_false (Lt.nopre h)
  | eq => have e : p = q := h; subst e; exact decide_eq_true ⟨Nat.le_refl _, List.take_length⟩
  | gt => exact decide_eq_false (Lt.nopre2 h)
theorem tri_has {o : Ordering} {p q r n : List UInt8} (h : Tri o p q) (hr : nextP p r) : hasB p r (q ++ n) = decide (o = .eq) := by
  unfold hasB
  cases o with
  | lt =>
    have h1 : bless p (q ++ n) = true := by have := h [] n; simpa using this
    have hnp : ¬ (p.length ≤ (q ++ n).length ∧ (q ++ n).take p.length = p) := Lt.nopre (Lt.app h [] n |> fun z => by simpa using z)
    have h2 := next_le hr h1 hnp
    rw [h2.2, decide_eq_false h2.1]; simp
  | eq =>
    have e : p = q := h
    subst e
    have h1 : bless (p ++ n) p = false := by
      have := bless_app p n []
      rw [List.append_nil, bless_nil] at this
      exact this
    rw [h1]
    by_cases e2 : r = []
    · rw [decide_eq_true e2]; rfl
    · rw [next_above hr e2 n]; simp
  | gt =>
    have h1 : bless (q ++ n) p = true := by have := h n []; simpa using this
    rw [h1]; rfl
end KeG
end Go.Proofs.YtfnfkoldifpmhaaDoor
