/-
  The reference: keys, the order of values.
-/
import Derived.Test.YtcoiejmlpinpbaaDoorProg
import Derived.Test.YtcoiejmlpinpbaaDoorSlj
import Derived.Test.YtcoiejmlpinpbaaDoorKeF
namespace Go.Proofs.YtcoiejmlpinpbaaDoor
open Go.SL Go.RowKit
set_option linter.unusedVariables false
set_option linter.unusedSimpArgs false
set_option maxRecDepth 100000
open Ke1 Ke2 Ke3 Ke4 Ke5 Ke6 Ke7 Ke8 Ke9 KeA KeB KeC KeD KeE KeF
namespace KeG
theorem sz9 : (Tryd.prog.info? 9).map (·.size) = some 1 := by kernel_rfl
theorem sz26 : (Tryd.prog.info? 26).map (·.size) = some 2 := by kernel_rfl
theorem sz35 : (Tryd.prog.info? 35).map (·.size) = some 6 := by kernel_rfl
theorem sz42 : (Tryd.prog.info? 42).map (·.size) = some 6 := by kernel_rfl
theorem ti5 : TI Tryd.prog 5 [.int .u8 0] 1 1 := TI.of (by kernel_rfl) rfl rfl
theorem ti26 : TI Tryd.prog 26 [str [], str []] 2 32 := TI.of (by kernel_rfl) rfl rfl
theorem fo42_0 : FO Tryd.prog 42 0 0 1 false := FO.of Tryd.underlying42 rfl rfl (by kernel_rfl) Tryd.underlying3 rfl rfl
theorem fo42_1 : FO Tryd.prog 42 1 1 1 false := FO.of Tryd.underlying42 rfl rfl (by kernel_rfl) Tryd.underlying4 rfl rfl
theorem fo42_2 : FO Tryd.prog 42 2 2 1 false := FO.of Tryd.underlying42 rfl rfl (by kernel_rfl) Tryd.underlying2 rfl rfl
theorem fo42_3 : FO Tryd.prog 42 3 3 1 false := FO.of Tryd.underlying42 rfl rfl (by kernel_rfl) Tryd.underlying9 rfl rfl
theorem fo42_4 : FO Tryd.prog 42 4 4 1 false := FO.of Tryd.underlying42 rfl rfl (by kernel_rfl) Tryd.underlying40 rfl rfl
theorem fo42_5 : FO Tryd.prog 42 5 5 1 false := FO.of Tryd.underlying42 rfl rfl (by kernel_rfl) Tryd.underlying33 rfl rfl
theorem pl26 : PL Tryd.prog 26 [(0, 1), (1, 1)] := PL.of Tryd.underlying26 (by kernel_rfl)

theorem numK_add (n : Int) : numL (BitVec.ofInt 64 n + 9223372036854775808#64) = numK n := by unfold numK; rw [xor_top]

set_option maxHeartbeats 1000000 in
theorem RKey_step (d : Nat) (ih : ∀ (v : V) (cs : List Value) (deep : Int) (B : Frag), ValR B d v cs → checkF d v deep = 0 → (bytesF d v).length ≤ 1048576 → CtP Tryd.prog 21 [.agg cs.toArray] B (str (keyF d v))) (v : V) (cs : List Value) (deep : Int) (B : Frag) (h : ValR B (d + 1) v cs) (hok : checkF (d + 1) v deep = 0) (hb : (bytesF (d + 1) v).length ≤ 1048576) : CtP Tryd.prog 21 [.agg cs.toArray] B (str (keyF (d + 1) v)) := by
  have hkl := keyF_len _ _ _ _ h
  obtain ⟨hnm6, hnm0⟩ := names_many hok
  obtain ⟨_, _, _, _, _, _, hokp⟩ := chk_ok hok
  have hpk : ∀ i (hi : i < v.parts.length), (keyF d v.parts[i]).length + 1 ≤ 12 * (bytesF d v.parts[i]).length := by
    intro i hi
    obtain ⟨_, _, _, _, _, _, _, _, _, _, hps⟩ := h
    obtain ⟨b, o, l, et, fz, xs, _, _, _, hv⟩ := hps i hi
    exact keyF_len _ _ _ _ hv
  obtain ⟨Ap, cp, An, cn, rfl, ⟨hsl, hn1, hn2, hcn, hcp⟩, hpl, hnl, hns, hnx, hps⟩ := h
  refine CtB.of_body Tryd.func21 rfl (nt := 78) rfl (by kernel_rfl) rfl ?_
  intro N0 w0 R
  refine Cx.seq (fun K1 k1 => ?_)
  refine Cx.region ?_
  refine Lx.new (boxA rfl) rfl (fun b1 => ?_)
  refine Lx.y (asg rfl) rfl ?_
  refine Lx.nil ?_
  refine Xx.tn (k1 _ _ _ _ ?_)
  refine Cx.seq (fun K2 k2 => ?_)
  refine Cx.region ?_
  refine Lx.y (fa' fo42_0 rfl) rfl ?_
  refine Lx.y (ld Tryd.underlying3 rfl rfl rfl) rfl ?_
  refine Lx.y (cvI rfl Tryd.underlying3 Tryd.underlying5 (wrap_u8 _)) rfl ?_
  refine Lx.bsl (bsl1 Tryd.underlying53 ti5 rfl rfl rfl (by decide)) rfl (fun b9 => ?_)
  refine Lx.y (b2sR Tryd.underlying53 Tryd.underlying5 Tryd.underlying9 rfl (u8s_cons u8s_nil) rfl) rfl ?_
  refine Lx.y (asg rfl) rfl ?_
  refine Xx.dropB b9 ?_
  refine Lx.nil ?_
  refine Xx.tn (k2 _ _ _ _ ?_)
  refine Cx.seq (fun K3 k3 => ?_)
  refine Cx.seq (fun K4 k4 => ?_)
  refine Cx.region ?_
  refine Lx.y (fa' fo42_0 rfl) rfl ?_
  refine Lx.y (ld Tryd.underlying3 rfl rfl rfl) rfl ?_
  refine Lx.nil ?_
  refine Xx.tn (k4 _ _ _ _ ?_)
  refine Cx.block ?_
  refine Cx.seq (fun K5 k5 => ?_)
  refine Cx.region ?_
  refine Lx.y (eqI rfl rfl) rfl ?_
  refine Lx.y (asg rfl) rfl ?_
  refine Lx.nil ?_
  refine Xx.tn (k5 _ _ _ _ ?_)
  refine Cx.condD rfl (fun h6 => ?_) (fun h6 => ?_)
  · skip
    have z1 := h6
    refine Cx.seq (fun K7 k7 => ?_)
    refine Cx.seq (fun K8 k8 => ?_)
    refine Cx.region ?_
    refine Lx.y (fa' fo42_1 rfl) rfl ?_
    refine Lx.y (ld Tryd.underlying4 rfl rfl rfl) rfl ?_
    refine Lx.nil ?_
    refine Xx.tn (k8 _ _ _ _ ?_)
    refine Cx.condB rfl (fun h9 => ?_) (fun h9 => ?_)
    · skip
      have zb := h9
      refine Cx.seq (fun K10 k10 => ?_)
      refine Cx.region ?_
      refine Lx.y (mv rfl) rfl ?_
      refine Lx.y (catS rfl rfl (by first | omega | (simp <;> omega))) rfl ?_
      refine Lx.y (asg rfl) rfl ?_
      refine Lx.nil ?_
      refine Xx.tn (k10 _ _ _ _ ?_)
      refine Cx.ret ?_
      refine Xx.tr ?_
      refine Xx.br ?_
      refine Xx.tr ?_
      refine Xx.dropB b1 (Xx.rB1 rfl rfl ⟨congrArg str ?_, rfl⟩ (Frag.le_refl _) rfl)
      first | exact hkf.symm | (unfold keyF; rw [if_pos z1, zb]; rfl) | (unfold keyF; rw [if_neg z1, if_pos z2, ← numK_add]; done) | (unfold keyF; rw [if_neg z1, if_neg z2, if_pos z3]; done) | (unfold keyF; rw [if_neg z1, if_neg z2, if_neg z3, if_neg z4])
    · skip
      have zb := h9
      refine Cx.skip ?_
      refine Xx.tn (k7 _ _ _ _ ?_)
      refine Cx.seq (fun K11 k11 => ?_)
      refine Cx.region ?_
      refine Lx.y (mv rfl) rfl ?_
      refine Lx.y (catS rfl rfl (by first | omega | (simp <;> omega))) rfl ?_
      refine Lx.y (asg rfl) rfl ?_
      refine Lx.nil ?_
      refine Xx.tn (k11 _ _ _ _ ?_)
      refine Cx.ret ?_
      refine Xx.br ?_
      refine Xx.tr ?_
      refine Xx.dropB b1 (Xx.rB1 rfl rfl ⟨congrArg str ?_, rfl⟩ (Frag.le_refl _) rfl)
      first | exact hkf.symm | (unfold keyF; rw [if_pos z1, zb]; rfl) | (unfold keyF; rw [if_neg z1, if_pos z2, ← numK_add]; done) | (unfold keyF; rw [if_neg z1, if_neg z2, if_pos z3]; done) | (unfold keyF; rw [if_neg z1, if_neg z2, if_neg z3, if_neg z4])
  · skip
    have z1 := h6
    refine Cx.seq (fun K12 k12 => ?_)
    refine Cx.region ?_
    refine Lx.y (eqI rfl rfl) rfl ?_
    refine Lx.y (asg rfl) rfl ?_
    refine Lx.nil ?_
    refine Xx.tn (k12 _ _ _ _ ?_)
    refine Cx.condD rfl (fun h13 => ?_) (fun h13 => ?_)
    · skip
      have z2 := h13
      refine Cx.seq (fun K14 k14 => ?_)
      refine Cx.region ?_
      refine Lx.y (mv rfl) rfl ?_
      refine Lx.y (fa' fo42_2 rfl) rfl ?_
      refine Lx.y (ld Tryd.underlying2 rfl rfl rfl) rfl ?_
      refine Lx.y (cvW64 rfl Tryd.underlying2 Tryd.underlying46) rfl ?_
      refine Lx.y (addW64 (b := 9223372036854775808#64) rfl rfl) rfl ?_
      refine Lx.cp rfl rfl rfl (eight_ct _ _) rfl ?_
      refine Lx.y (catS rfl rfl (by first | omega | (simp <;> omega))) rfl ?_
      refine Lx.y (asg rfl) rfl ?_
      refine Lx.nil ?_
      refine Xx.tn (k14 _ _ _ _ ?_)
      refine Cx.ret ?_
      refine Xx.br ?_
      refine Xx.tr ?_
      refine Xx.dropB b1 (Xx.rB1 rfl rfl ⟨congrArg str ?_, rfl⟩ (Frag.le_refl _) rfl)
      first | exact hkf.symm | (unfold keyF; rw [if_pos z1, zb]; rfl) | (unfold keyF; rw [if_neg z1, if_pos z2, ← numK_add]; done) | (unfold keyF; rw [if_neg z1, if_neg z2, if_pos z3]; done) | (unfold keyF; rw [if_neg z1, if_neg z2, if_neg z3, if_neg z4])
    · skip
      have z2 := h13
      refine Cx.cutK (ds' := []) (Sub.cons (s := 0) rfl (Sub.cons (s := 1) rfl (Sub.cons (s := 2) rfl (Sub.cons (s := 3) rfl (Sub.cons (s := 5) rfl (Sub.cons (s := 6) rfl (Sub.cons (s := 7) rfl (Sub.cons (s := 8) rfl (Sub.cons (s := 9) rfl (Sub.cons (s := 10) rfl (Sub.cons (s := 11) rfl (Sub.cons (s := 12) rfl (Sub.cons (s := 13) rfl (Sub.cons (s := 20) rfl (Sub.cons (s := 21) rfl (Sub.nil _)))))))))))))))) (fun ρ' B' H' => ρ' = [(29, .bool (decide (v.kind = 3 ∨ v.kind = 4)))] ∧ B = B' ∧ row b1 42 (vcs v Ap cp An cn) * R = H') ?_ ?_
      · skip
        refine Cx.seq (fun K15 k15 => ?_)
        refine Cx.region ?_
        refine Lx.y (eqI rfl rfl) rfl ?_
        refine Lx.y (asg rfl) rfl ?_
        refine Lx.nil ?_
        refine Xx.tn (k15 _ _ _ _ ?_)
        refine Cx.condD rfl (fun h16 => ?_) (fun h16 => ?_)
        · skip
          have z3 := h16
          refine Cx.skip ?_
          exact Xx.mkK (⟨rfl, rfl, rfl⟩) (Sub.consE (s := 29) rfl (by first | exact congrArg Value.bool (decide_eq_true (by omega)).symm | exact congrArg Value.bool (decide_eq_decide.2 (by omega))) (Sub.cons (s := 0) rfl (Sub.cons (s := 1) rfl (Sub.cons (s := 2) rfl (Sub.cons (s := 3) rfl (Sub.cons (s := 5) rfl (Sub.cons (s := 6) rfl (Sub.cons (s := 7) rfl (Sub.cons (s := 8) rfl (Sub.cons (s := 9) rfl (Sub.cons (s := 10) rfl (Sub.cons (s := 11) rfl (Sub.cons (s := 12) rfl (Sub.cons (s := 13) rfl (Sub.cons (s := 20) rfl (Sub.cons (s := 21) rfl (Sub.nil _)))))))))))))))))
        · skip
          have z3 := h16
          refine Cx.region ?_
          refine Lx.y (eqI rfl rfl) rfl ?_
          refine Lx.y (asg rfl) rfl ?_
          refine Lx.nil ?_
          exact Xx.mkK (⟨rfl, rfl, rfl⟩) (Sub.consE (s := 29) rfl (by first | exact congrArg Value.bool (decide_eq_true (by omega)).symm | exact congrArg Value.bool (decide_eq_decide.2 (by omega))) (Sub.cons (s := 0) rfl (Sub.cons (s := 1) rfl (Sub.cons (s := 2) rfl (Sub.cons (s := 3) rfl (Sub.cons (s := 5) rfl (Sub.cons (s := 6) rfl (Sub.cons (s := 7) rfl (Sub.cons (s := 8) rfl (Sub.cons (s := 9) rfl (Sub.cons (s := 10) rfl (Sub.cons (s := 11) rfl (Sub.cons (s := 12) rfl (Sub.cons (s := 13) rfl (Sub.cons (s := 20) rfl (Sub.cons (s := 21) rfl (Sub.nil _)))))))))))))))))
      · rintro ρ' B' H' ⟨rfl, rfl, rfl⟩
        refine Cx.condD rfl (fun h17 => ?_) (fun h17 => ?_)
        · skip
          have z3 := h17
          refine Cx.seq (fun K18 k18 => ?_)
          have hsb : v.s.length ≤ 1048576 := by unfold bytesF at hb; rw [if_neg z1, if_neg z2, if_pos z3] at hb; unfold txtL at hb; simp only [List.length_append] at hb; omega
          have htl := textL_len v.s
          refine Cx.region ?_
          refine Lx.y (mv rfl) rfl ?_
          refine Lx.y (fa' fo42_3 rfl) rfl ?_
          refine Lx.y (ld Tryd.underlying9 rfl rfl rfl) rfl ?_
          refine Lx.cp rfl rfl rfl (RefText_ct _ _ (by omega)) rfl ?_
          refine Lx.y (catS rfl rfl (by first | omega | (simp <;> omega))) rfl ?_
          refine Lx.y (asg rfl) rfl ?_
          refine Lx.nil ?_
          refine Xx.tn (k18 _ _ _ _ ?_)
          refine Cx.ret ?_
          refine Xx.br ?_
          refine Xx.tr ?_
          refine Xx.dropB b1 (Xx.rB1 rfl rfl ⟨congrArg str ?_, rfl⟩ (Frag.le_refl _) rfl)
          first | exact hkf.symm | (unfold keyF; rw [if_pos z1, zb]; rfl) | (unfold keyF; rw [if_neg z1, if_pos z2, ← numK_add]; done) | (unfold keyF; rw [if_neg z1, if_neg z2, if_pos z3]; done) | (unfold keyF; rw [if_neg z1, if_neg z2, if_neg z3, if_neg z4])
        · skip
          have z3 := h17
          refine Cx.cutK (ds' := []) (Sub.cons (s := 0) rfl (Sub.cons (s := 1) rfl (Sub.cons (s := 2) rfl (Sub.cons (s := 3) rfl (Sub.cons (s := 5) rfl (Sub.cons (s := 6) rfl (Sub.cons (s := 7) rfl (Sub.cons (s := 8) rfl (Sub.cons (s := 9) rfl (Sub.cons (s := 10) rfl (Sub.cons (s := 11) rfl (Sub.cons (s := 12) rfl (Sub.cons (s := 13) rfl (Sub.cons (s := 20) rfl (Sub.cons (s := 21) rfl (Sub.cons (s := 29) rfl (Sub.nil _))))))))))))))))) (fun ρ' B' H' => ρ' = [(37, .bool (decide (v.kind = 5 ∨ v.kind = 6)))] ∧ B = B' ∧ row b1 42 (vcs v Ap cp An cn) * R = H') ?_ ?_
          · skip
            refine Cx.seq (fun K19 k19 => ?_)
            refine Cx.region ?_
            refine Lx.y (eqI rfl rfl) rfl ?_
            refine Lx.y (asg rfl) rfl ?_
            refine Lx.nil ?_
            refine Xx.tn (k19 _ _ _ _ ?_)
            refine Cx.condD rfl (fun h20 => ?_) (fun h20 => ?_)
            · skip
              have z4 := h20
              refine Cx.skip ?_
              exact Xx.mkK (⟨rfl, rfl, rfl⟩) (Sub.consE (s := 37) rfl (by first | exact congrArg Value.bool (decide_eq_true (by omega)).symm | exact congrArg Value.bool (decide_eq_decide.2 (by omega))) (Sub.cons (s := 0) rfl (Sub.cons (s := 1) rfl (Sub.cons (s := 2) rfl (Sub.cons (s := 3) rfl (Sub.cons (s := 5) rfl (Sub.cons (s := 6) rfl (Sub.cons (s := 7) rfl (Sub.cons (s := 8) rfl (Sub.cons (s := 9) rfl (Sub.cons (s := 10) rfl (Sub.cons (s := 11) rfl (Sub.cons (s := 12) rfl (Sub.cons (s := 13) rfl (Sub.cons (s := 20) rfl (Sub.cons (s := 21) rfl (Sub.cons (s := 29) rfl (Sub.nil _))))))))))))))))))
            · skip
              have z4 := h20
              refine Cx.region ?_
              refine Lx.y (eqI rfl rfl) rfl ?_
              refine Lx.y (asg rfl) rfl ?_
              refine Lx.nil ?_
              exact Xx.mkK (⟨rfl, rfl, rfl⟩) (Sub.consE (s := 37) rfl (by first | exact congrArg Value.bool (decide_eq_true (by omega)).symm | exact congrArg Value.bool (decide_eq_decide.2 (by omega))) (Sub.cons (s := 0) rfl (Sub.cons (s := 1) rfl (Sub.cons (s := 2) rfl (Sub.cons (s := 3) rfl (Sub.cons (s := 5) rfl (Sub.cons (s := 6) rfl (Sub.cons (s := 7) rfl (Sub.cons (s := 8) rfl (Sub.cons (s := 9) rfl (Sub.cons (s := 10) rfl (Sub.cons (s := 11) rfl (Sub.cons (s := 12) rfl (Sub.cons (s := 13) rfl (Sub.cons (s := 20) rfl (Sub.cons (s := 21) rfl (Sub.cons (s := 29) rfl (Sub.nil _))))))))))))))))))
          · rintro ρ' B' H' ⟨rfl, rfl, rfl⟩
            refine Cx.condD rfl (fun h21 => ?_) (fun h21 => ?_)
            · skip
              have z4 := h21
              refine Cx.seq (fun K22 k22 => ?_)
              refine Cx.seq (fun K23 k23 => ?_)
              have hbf : bytesF (d + 1) v = preB (bytesF d) v v.parts.length := by unfold bytesF; rw [if_neg (by omega), if_neg (by omega), if_neg (by omega), if_pos z4]
              rw [hbf] at hb
              have hkf : keyF (d + 1) v = preK (keyF d) v v.parts.length ++ [0] := by unfold keyF; rw [if_neg (by omega), if_neg (by omega), if_neg (by omega), if_pos z4]
              refine Cx.region ?_
              refine Lx.y (asg rfl) rfl ?_
              refine Lx.nil ?_
              refine Xx.tn (k23 _ _ _ _ ?_)
              refine Cx.block ?_
              refine Cx.loopK (Sub.cons (s := 0) rfl (Sub.cons (s := 1) rfl (Sub.cons (s := 2) rfl (Sub.cons (s := 5) rfl (Sub.cons (s := 6) rfl (Sub.cons (s := 7) rfl (Sub.cons (s := 8) rfl (Sub.cons (s := 9) rfl (Sub.cons (s := 10) rfl (Sub.cons (s := 11) rfl (Sub.cons (s := 12) rfl (Sub.cons (s := 13) rfl (Sub.cons (s := 20) rfl (Sub.cons (s := 21) rfl (Sub.cons (s := 29) rfl (Sub.cons (s := 37) rfl (Sub.nil _))))))))))))))))) (fun m ρ' B' H' => ∃ (i : Nat), (i ≤ v.parts.length) ∧ m = v.parts.length - i ∧ ρ' = [(3, str (preK (keyF d) v i)), (4, i64 i)] ∧ B = B' ∧ row b1 42 (vcs v Ap cp An cn) * R = H') ⟨0, Nat.zero_le _, rfl, rfl, rfl, rfl⟩ (Sub.consE (s := 3) rfl (by simp [preK]) (Sub.cons (s := 4) rfl (Sub.cons (s := 0) rfl (Sub.cons (s := 1) rfl (Sub.cons (s := 2) rfl (Sub.cons (s := 5) rfl (Sub.cons (s := 6) rfl (Sub.cons (s := 7) rfl (Sub.cons (s := 8) rfl (Sub.cons (s := 9) rfl (Sub.cons (s := 10) rfl (Sub.cons (s := 11) rfl (Sub.cons (s := 12) rfl (Sub.cons (s := 13) rfl (Sub.cons (s := 20) rfl (Sub.cons (s := 21) rfl (Sub.cons (s := 29) rfl (Sub.cons (s := 37) rfl (Sub.nil _))))))))))))))))))) ?_
              rintro m ρ' B' H' ⟨i, hi, rfl, rfl, rfl, rfl⟩
              have hmi := preB_mono (bytesF d) v (show i ≤ v.parts.length by omega)
              have hki := preK_len (keyF d) (bytesF d) v hpk i (by omega)
              refine Cx.seq (fun K24 k24 => ?_)
              refine Cx.seq (fun K25 k25 => ?_)
              refine Cx.region ?_
              refine Lx.y (mv rfl) rfl ?_
              refine Lx.y (fa' fo42_4 rfl) rfl ?_
              refine Lx.y (ld Tryd.underlying40 rfl rfl rfl) rfl ?_
              refine Lx.y (lenV (ty' := 0) Tryd.underlying40 rfl) rfl ?_
              refine Lx.y (lss rfl rfl) rfl ?_
              refine Lx.nil ?_
              refine Xx.tn (k25 _ _ _ _ ?_)
              refine Cx.condD rfl (fun h26 => ?_) (fun h26 => ?_)
              · skip
                refine Cx.skip ?_
                refine Xx.tn (k24 _ _ _ _ ?_)
                refine Cx.seq (fun K27 k27 => ?_)
                refine Cx.block ?_
                refine Cx.seq (fun K28 k28 => ?_)
                have hil : i < v.parts.length := by omega
                have hpi := hpk i hil
                have hm2 := preB_mono (bytesF d) v (show i + 1 ≤ v.parts.length by omega)
                rw [preB_succ, List.length_append] at hm2
                obtain ⟨bq, oq, lq, eq, fq, xs, rfl, hBq, hxs, hv2⟩ := hps i hil
                obtain ⟨Ap2, cp2, An2, cn2, rfl⟩ := ValR.shape hv2
                refine Cx.region ?_
                refine Lx.y (mv rfl) rfl ?_
                refine Lx.y (catS rfl rfl (by first | omega | (simp <;> omega))) rfl ?_
                refine Lx.y (asg rfl) rfl ?_
                refine Lx.nil ?_
                refine Xx.tn (k28 _ _ _ _ ?_)
                refine Cx.seq (fun K29 k29 => ?_)
                refine Cx.seq (fun K30 k30 => ?_)
                refine Cx.region ?_
                refine Lx.y (fa' fo42_0 rfl) rfl ?_
                refine Lx.y (ld Tryd.underlying3 rfl rfl rfl) rfl ?_
                refine Lx.y (eqI rfl rfl) rfl ?_
                refine Lx.y (mv rfl) rfl ?_
                refine Xx.ifD (t := 52) rfl (fun h31 => ?_) (fun h31 => ?_)
                · skip
                  have k6 := h31
                  refine Lx.gT rfl rfl rfl ?_
                  refine Lx.y (mv rfl) rfl ?_
                  refine Lx.gT rfl rfl rfl ?_
                  refine Lx.y (fa' fo42_5 rfl) rfl ?_
                  refine Lx.gT rfl rfl rfl ?_
                  refine Lx.y (ld Tryd.underlying33 rfl rfl rfl) rfl ?_
                  refine Lx.gT rfl rfl rfl ?_
                  refine Lx.y (lenV (ty' := 0) Tryd.underlying33 rfl) rfl ?_
                  refine Lx.gT rfl rfl rfl ?_
                  refine Lx.y (lss rfl rfl) rfl ?_
                  refine Lx.y (pickT rfl rfl) rfl ?_
                  refine Lx.nil ?_
                  refine Xx.tn (k30 _ _ _ _ ?_)
                  refine Cx.condD rfl (fun h32 => ?_) (fun h32 => ?_)
                  · skip
                    have hin : i < v.names.length := by have := h32; omega
                    have hpt : partK (keyF d) v i = [1] ++ textL (v.names.getD i []) ++ keyF d v.parts[i] := by unfold partK; rw [if_pos hin, getDp hil]
                    have hpb : partB (bytesF d) v i = txtL (v.names.getD i []) ++ bytesF d v.parts[i] := by unfold partB; rw [if_pos hin, getDp hil]
                    rw [hpb, List.length_append] at hm2
                    unfold txtL at hm2
                    rw [List.length_append] at hm2
                    obtain ⟨bn, on, ln, en, fn, rfl, hBn, hln⟩ := hns.at1 (k := i) hin
                    rw [get_map hin] at hln
                    generalize v.names.getD i [] = nm at *
                    have htn := textL_len nm
                    refine Cx.region ?_
                    refine Lx.y (mv rfl) rfl ?_
                    refine Lx.y (fa' fo42_5 rfl) rfl ?_
                    refine Lx.y (ld Tryd.underlying33 rfl rfl rfl) rfl ?_
                    refine Lx.y (mv rfl) rfl ?_
                    refine Lx.y (ia Tryd.underlying33 sz9 rfl rfl (by first | exact Int.toNat_natCast _ | rfl) (by omega) (by omega)) rfl ?_
                    refine Lx.y (ldB Tryd.underlying9 rfl rfl hBn hln) rfl ?_
                    refine Lx.cp rfl rfl rfl (RefText_ct _ _ (by omega)) rfl ?_
                    refine Lx.y (catS rfl rfl (by first | omega | (simp <;> omega))) rfl ?_
                    refine Lx.y (asg rfl) rfl ?_
                    refine Lx.nil ?_
                    refine Xx.tn (k29 _ _ _ _ ?_)
                    refine Cx.region ?_
                    refine Lx.y (mv rfl) rfl ?_
                    refine Lx.y (fa' fo42_4 rfl) rfl ?_
                    refine Lx.y (ld Tryd.underlying40 rfl rfl rfl) rfl ?_
                    refine Lx.y (mv rfl) rfl ?_
                    refine Lx.y (ia Tryd.underlying40 sz42 rfl rfl (by first | exact Int.toNat_natCast _ | rfl) (by omega) (by omega)) rfl ?_
                    refine Lx.y (ldA Tryd.underlying42 rfl sz42 rfl (Cells.base (n := 6) hBq hxs) rfl) rfl ?_
                    refine Lx.cp rfl rfl rfl (ih _ _ _ _ hv2 (hokp i hil) (by omega)) rfl ?_
                    refine Lx.y (catS rfl rfl (by first | omega | (simp <;> omega))) rfl ?_
                    refine Lx.y (asg rfl) rfl ?_
                    refine Lx.nil ?_
                    refine Xx.bn ?_
                    refine Xx.tn (k27 _ _ _ _ ?_)
                    refine Cx.region ?_
                    refine Lx.y (mv rfl) rfl ?_
                    refine Lx.y (add rfl rfl (by first | exact wrap64 (by omega) (by omega) | rfl)) rfl ?_
                    refine Lx.y (asg rfl) rfl ?_
                    refine Lx.nil ?_
                    exact Xx.againK ⟨i + 1, by omega, rfl, rfl, rfl, rfl⟩ (by omega) (Sub.consE (s := 3) rfl (by rw [preK_succ, hpt]; simp) (Sub.cons (s := 4) rfl (Sub.cons (s := 0) rfl (Sub.cons (s := 1) rfl (Sub.cons (s := 2) rfl (Sub.cons (s := 5) rfl (Sub.cons (s := 6) rfl (Sub.cons (s := 7) rfl (Sub.cons (s := 8) rfl (Sub.cons (s := 9) rfl (Sub.cons (s := 10) rfl (Sub.cons (s := 11) rfl (Sub.cons (s := 12) rfl (Sub.cons (s := 13) rfl (Sub.cons (s := 20) rfl (Sub.cons (s := 21) rfl (Sub.cons (s := 29) rfl (Sub.cons (s := 37) rfl (Sub.nil _)))))))))))))))))))
                  · skip
                    exact absurd h32 (by have := hnm6 k6; omega)
                · skip
                  have k6 : ¬ v.kind = 6 := h31
                  have hin : ¬ i < v.names.length := by have := hnm0 k6; omega
                  have hpt : partK (keyF d) v i = [1] ++ [] ++ keyF d v.parts[i] := by unfold partK; rw [if_neg hin, getDp hil]
                  have hpb : partB (bytesF d) v i = bytesF d v.parts[i] := by unfold partB; rw [if_neg hin, getDp hil]; rfl
                  rw [hpb] at hm2
                  refine Lx.gF rfl rfl rfl rfl ?_
                  refine Lx.gF rfl rfl rfl rfl ?_
                  refine Lx.gF rfl rfl rfl rfl ?_
                  refine Lx.gF rfl rfl rfl rfl ?_
                  refine Lx.gF rfl rfl rfl rfl ?_
                  refine Lx.y (pickF rfl rfl) rfl ?_
                  refine Lx.nil ?_
                  refine Xx.tn (k30 _ _ _ _ ?_)
                  refine Cx.condF rfl ?_
                  refine Cx.skip ?_
                  refine Xx.tn (k29 _ _ _ _ ?_)
                  refine Cx.region ?_
                  refine Lx.y (mv rfl) rfl ?_
                  refine Lx.y (fa' fo42_4 rfl) rfl ?_
                  refine Lx.y (ld Tryd.underlying40 rfl rfl rfl) rfl ?_
                  refine Lx.y (mv rfl) rfl ?_
                  refine Lx.y (ia Tryd.underlying40 sz42 rfl rfl (by first | exact Int.toNat_natCast _ | rfl) (by omega) (by omega)) rfl ?_
                  refine Lx.y (ldA Tryd.underlying42 rfl sz42 rfl (Cells.base (n := 6) hBq hxs) rfl) rfl ?_
                  refine Lx.cp rfl rfl rfl (ih _ _ _ _ hv2 (hokp i hil) (by omega)) rfl ?_
                  refine Lx.y (catS rfl rfl (by first | omega | (simp <;> omega))) rfl ?_
                  refine Lx.y (asg rfl) rfl ?_
                  refine Lx.nil ?_
                  refine Xx.bn ?_
                  refine Xx.tn (k27 _ _ _ _ ?_)
                  refine Cx.region ?_
                  refine Lx.y (mv rfl) rfl ?_
                  refine Lx.y (add rfl rfl (by first | exact wrap64 (by omega) (by omega) | rfl)) rfl ?_
                  refine Lx.y (asg rfl) rfl ?_
                  refine Lx.nil ?_
                  exact Xx.againK ⟨i + 1, by omega, rfl, rfl, rfl, rfl⟩ (by omega) (Sub.consE (s := 3) rfl (by rw [preK_succ, hpt]; simp) (Sub.cons (s := 4) rfl (Sub.cons (s := 0) rfl (Sub.cons (s := 1) rfl (Sub.cons (s := 2) rfl (Sub.cons (s := 5) rfl (Sub.cons (s := 6) rfl (Sub.cons (s := 7) rfl (Sub.cons (s := 8) rfl (Sub.cons (s := 9) rfl (Sub.cons (s := 10) rfl (Sub.cons (s := 11) rfl (Sub.cons (s := 12) rfl (Sub.cons (s := 13) rfl (Sub.cons (s := 20) rfl (Sub.cons (s := 21) rfl (Sub.cons (s := 29) rfl (Sub.cons (s := 37) rfl (Sub.nil _)))))))))))))))))))
              · skip
                obtain rfl : i = v.parts.length := by omega
                refine Cx.exit ?_
                refine Xx.te ?_
                refine Xx.te ?_
                refine Xx.bh ?_
                refine Xx.tn (k22 _ _ _ _ ?_)
                refine Cx.seq (fun K33 k33 => ?_)
                refine Cx.region ?_
                refine Lx.y (mv rfl) rfl ?_
                refine Lx.y (catS rfl rfl (by first | omega | (simp <;> omega))) rfl ?_
                refine Lx.y (asg rfl) rfl ?_
                refine Lx.nil ?_
                refine Xx.tn (k33 _ _ _ _ ?_)
                refine Cx.ret ?_
                refine Xx.br ?_
                refine Xx.tr ?_
                refine Xx.dropB b1 (Xx.rB1 rfl rfl ⟨congrArg str ?_, rfl⟩ (Frag.le_refl _) rfl)
                first | exact hkf.symm | (unfold keyF; rw [if_pos z1, zb]; rfl) | (unfold keyF; rw [if_neg z1, if_pos z2, ← numK_add]; done) | (unfold keyF; rw [if_neg z1, if_neg z2, if_pos z3]; done) | (unfold keyF; rw [if_neg z1, if_neg z2, if_neg z3, if_neg z4])
            · skip
              have z4 := h21
              refine Cx.skip ?_
              refine Xx.bn ?_
              refine Xx.tn (k3 _ _ _ _ ?_)
              refine Cx.seq (fun K34 k34 => ?_)
              refine Cx.region ?_
              refine Lx.y (mv rfl) rfl ?_
              refine Lx.y (asg rfl) rfl ?_
              refine Lx.nil ?_
              refine Xx.tn (k34 _ _ _ _ ?_)
              refine Cx.ret ?_
              refine Xx.dropB b1 (Xx.rB1 rfl rfl ⟨congrArg str ?_, rfl⟩ (Frag.le_refl _) rfl)
              first | exact hkf.symm | (unfold keyF; rw [if_pos z1, zb]; rfl) | (unfold keyF; rw [if_neg z1, if_pos z2, ← numK_add]; done) | (unfold keyF; rw [if_neg z1, if_neg z2, if_pos z3]; done) | (unfold keyF; rw [if_neg z1, if_neg z2, if_neg z3, if_neg z4])

theorem RKey_ct : ∀ (d : Nat) (v : V) (cs : List Value) (deep : Int) (B : Frag), ValR B d v cs → checkF d v deep = 0 → (bytesF d v).length ≤ 1048576 → CtP Tryd.prog 21 [.agg cs.toArray] B (str (keyF d v)) := by
  intro d
  induction d with
  | zero => intro v cs deep B h; exact h.elim
  | succ d ih => intro v cs deep B h hok hb; exact RKey_step d ih v cs deep B h hok hb
theorem cmpI_lt {m n : Int} : cmpI m n = .lt ↔ m < n := by
  unfold cmpI
  by_cases h1 : m < n
  · simp [h1]
  · by_cases h2 : n < m <;> simp [h1, h2]
theorem lexO_step {f : Nat → Ordering} {n m i : Nat} (h1 : i < n) (h2 : i < m) : lexO f (n - i) (m - i) i = (f i).then (lexO f (n - (i + 1)) (m - (i + 1)) (i + 1)) := by
  obtain ⟨c, hc⟩ : ∃ c, n - i = c + 1 := ⟨n - i - 1, by omega⟩
  obtain ⟨e, he⟩ : ∃ e, m - i = e + 1 := ⟨m - i - 1, by omega⟩
  have hc2 : n - (i + 1) = c := by omega
  have he2 : m - (i + 1) = e := by omega
  rw [hc, he, hc2, he2]; rfl
theorem lexO_end {f : Nat → Ordering} {n m i : Nat} (h1 : i ≤ n) (h2 : i ≤ m) (h : i = n ∨ i = m) : (lexO f (n - i) (m - i) i = .lt ↔ n < m) := by
  rcases h with rfl | rfl
  · rw [Nat.sub_self]
    by_cases e : m = i
    · subst e; rw [Nat.sub_self]; simp [lexO]
    · obtain ⟨c, hc⟩ : ∃ c, m - i = c + 1 := ⟨m - i - 1, by omega⟩
      rw [hc]; simp [lexO]; omega
  · rw [Nat.sub_self]
    by_cases e : n = i
    · subst e; rw [Nat.sub_self]; simp [lexO]
    · obtain ⟨c, hc⟩ : ∃ c, n - i = c + 1 := ⟨n - i - 1, by omega⟩
      rw [hc]; simp [lexO]; omega
theorem swap_lt {o : Ordering} : o.swap = .lt ↔ o = .gt := by cases o <;> simp [Ordering.swap]

set_option maxHeartbeats 1000000 in
theorem Before_step (d : Nat) (ih : ∀ (a b : V) (deep : Int) (ca cb : List Value) (B : Frag), ValR B d a ca → ValR B d b cb → checkF d a deep = 0 → checkF d b deep = 0 → CtP Tryd.prog 20 [.agg ca.toArray, .agg cb.toArray] B (.bool (decide (cmpF d a b = .lt)))) (a b : V) (deep : Int) (ca cb : List Value) (B : Frag) (ha : ValR B (d + 1) a ca) (hb : ValR B (d + 1) b cb) (hoka : checkF (d + 1) a deep = 0) (hokb : checkF (d + 1) b deep = 0) : CtP Tryd.prog 20 [.agg ca.toArray, .agg cb.toArray] B (.bool (decide (cmpF (d + 1) a b = .lt))) := by
  obtain ⟨ham6, ham0⟩ := names_many hoka
  obtain ⟨hbm6, hbm0⟩ := names_many hokb
  obtain ⟨_, _, _, _, hal, _, hap⟩ := chk_ok hoka
  obtain ⟨_, _, _, _, hbl, _, hbp⟩ := chk_ok hokb
  obtain ⟨Ap, cp, An, cn, rfl, ⟨hsl, hn1, hn2, hcn, hcp⟩, hpl, hnl, hns, hnx, hps⟩ := ha
  obtain ⟨Ap2, cp2, An2, cn2, rfl, ⟨hsl2, hn12, hn22, hcn2, hcp2⟩, hpl2, hnl2, hns2, hnx2, hps2⟩ := hb
  refine CtB.of_body Tryd.func20 rfl (nt := 136) rfl (by kernel_rfl) rfl ?_
  intro N0 w0 R
  refine Cx.seq (fun K1 k1 => ?_)
  refine Cx.region ?_
  refine Lx.new (boxA rfl) rfl (fun b2 => ?_)
  refine Lx.new (boxA rfl) rfl (fun b3 => ?_)
  refine Lx.y (asg rfl) rfl ?_
  refine Lx.nil ?_
  refine Xx.tn (k1 _ _ _ _ ?_)
  refine Cx.seq (fun K2 k2 => ?_)
  refine Cx.seq (fun K3 k3 => ?_)
  refine Cx.region ?_
  refine Lx.y (fa' fo42_0 rfl) rfl ?_
  refine Lx.y (ld Tryd.underlying3 rfl rfl rfl) rfl ?_
  refine Lx.y (fa' fo42_0 rfl) rfl ?_
  refine Lx.y (ld Tryd.underlying3 rfl rfl rfl) rfl ?_
  refine Lx.y (neI rfl rfl) rfl ?_
  refine Lx.nil ?_
  refine Xx.tn (k3 _ _ _ _ ?_)
  refine Cx.condN rfl (fun h4 => ?_) (fun h4 => ?_)
  · skip
    have hr : decide (a.kind < b.kind) = decide (cmpF (d + 1) a b = .lt) := decide_eq_decide.2 (by rw [cmpF_diff h4]; exact cmpI_lt.symm)
    refine Cx.seq (fun K5 k5 => ?_)
    refine Cx.region ?_
    refine Lx.y (fa' fo42_0 rfl) rfl ?_
    refine Lx.y (ld Tryd.underlying3 rfl rfl rfl) rfl ?_
    refine Lx.y (fa' fo42_0 rfl) rfl ?_
    refine Lx.y (ld Tryd.underlying3 rfl rfl rfl) rfl ?_
    refine Lx.y (lss rfl rfl) rfl ?_
    refine Lx.y (asg rfl) rfl ?_
    refine Lx.nil ?_
    refine Xx.tn (k5 _ _ _ _ ?_)
    refine Cx.ret ?_
    refine Xx.tr ?_
    exact Xx.dropB b2 (Xx.dropB b3 (Xx.rB1 rfl rfl ⟨congrArg Value.bool hr, rfl⟩ (Frag.le_refl _) rfl))
  · skip
    have zk : a.kind = b.kind := h4
    refine Cx.skip ?_
    refine Xx.tn (k2 _ _ _ _ ?_)
    refine Cx.seq (fun K6 k6 => ?_)
    refine Cx.seq (fun K7 k7 => ?_)
    refine Cx.region ?_
    refine Lx.y (fa' fo42_0 rfl) rfl ?_
    refine Lx.y (ld Tryd.underlying3 rfl rfl rfl) rfl ?_
    refine Lx.nil ?_
    refine Xx.tn (k7 _ _ _ _ ?_)
    refine Cx.block ?_
    refine Cx.seq (fun K8 k8 => ?_)
    refine Cx.region ?_
    refine Lx.y (eqI rfl rfl) rfl ?_
    refine Lx.y (asg rfl) rfl ?_
    refine Lx.nil ?_
    refine Xx.tn (k8 _ _ _ _ ?_)
    refine Cx.condD rfl (fun h9 => ?_) (fun h9 => ?_)
    · skip
      have z1 : a.kind = 1 := h9
      refine Cx.seq (fun K10 k10 => ?_)
      refine Cx.region ?_
      refine Lx.y (fa' fo42_1 rfl) rfl ?_
      refine Lx.y (ld Tryd.underlying4 rfl rfl rfl) rfl ?_
      refine Lx.y (not' rfl) rfl ?_
      refine Lx.y (mv rfl) rfl ?_
      refine Xx.ifB (t := 23) rfl (fun h11 => ?_) (fun h11 => ?_)
      · skip
        have hr : b.b = decide (cmpF (d + 1) a b = .lt) := by
          rw [cmpF_same zk, if_pos z1]
          have hq : a.b = false := by simpa using h11
          rw [hq]; cases b.b <;> rfl
        refine Lx.gT rfl rfl rfl ?_
        refine Lx.y (fa' fo42_1 rfl) rfl ?_
        refine Lx.gT rfl rfl rfl ?_
        refine Lx.y (ld Tryd.underlying4 rfl rfl rfl) rfl ?_
        refine Lx.y (pickT rfl rfl) rfl ?_
        refine Lx.y (asg rfl) rfl ?_
        refine Lx.nil ?_
        refine Xx.tn (k10 _ _ _ _ ?_)
        refine Cx.ret ?_
        refine Xx.br ?_
        refine Xx.tr ?_
        exact Xx.dropB b2 (Xx.dropB b3 (Xx.rB1 rfl rfl ⟨congrArg Value.bool hr, rfl⟩ (Frag.le_refl _) rfl))
      · skip
        have hr : false = decide (cmpF (d + 1) a b = .lt) := by
          rw [cmpF_same zk, if_pos z1]
          have hq : a.b = true := by simpa using h11
          rw [hq]; cases b.b <;> rfl
        refine Lx.gF rfl rfl rfl rfl ?_
        refine Lx.gF rfl rfl rfl rfl ?_
        refine Lx.y (pickF rfl rfl) rfl ?_
        refine Lx.y (asg rfl) rfl ?_
        refine Lx.nil ?_
        refine Xx.tn (k10 _ _ _ _ ?_)
        refine Cx.ret ?_
        refine Xx.br ?_
        refine Xx.tr ?_
        exact Xx.dropB b2 (Xx.dropB b3 (Xx.rB1 rfl rfl ⟨congrArg Value.bool hr, rfl⟩ (Frag.le_refl _) rfl))
    · skip
      have z1 : ¬ a.kind = 1 := h9
      refine Cx.seq (fun K12 k12 => ?_)
      refine Cx.region ?_
      refine Lx.y (eqI rfl rfl) rfl ?_
      refine Lx.y (asg rfl) rfl ?_
      refine Lx.nil ?_
      refine Xx.tn (k12 _ _ _ _ ?_)
      refine Cx.condD rfl (fun h13 => ?_) (fun h13 => ?_)
      · skip
        have z2 : a.kind = 2 := h13
        have hr : decide (a.n < b.n) = decide (cmpF (d + 1) a b = .lt) := decide_eq_decide.2 (by rw [cmpF_same zk, if_neg z1, if_pos z2]; exact cmpI_lt.symm)
        refine Cx.seq (fun K14 k14 => ?_)
        refine Cx.region ?_
        refine Lx.y (fa' fo42_2 rfl) rfl ?_
        refine Lx.y (ld Tryd.underlying2 rfl rfl rfl) rfl ?_
        refine Lx.y (fa' fo42_2 rfl) rfl ?_
        refine Lx.y (ld Tryd.underlying2 rfl rfl rfl) rfl ?_
        refine Lx.y (lss rfl rfl) rfl ?_
        refine Lx.y (asg rfl) rfl ?_
        refine Lx.nil ?_
        refine Xx.tn (k14 _ _ _ _ ?_)
        refine Cx.ret ?_
        refine Xx.br ?_
        refine Xx.tr ?_
        exact Xx.dropB b2 (Xx.dropB b3 (Xx.rB1 rfl rfl ⟨congrArg Value.bool hr, rfl⟩ (Frag.le_refl _) rfl))
      · skip
        have z2 : ¬ a.kind = 2 := h13
        refine Cx.cutK (ds' := []) (Sub.cons (s := 0) rfl (Sub.cons (s := 1) rfl (Sub.cons (s := 2) rfl (Sub.cons (s := 3) rfl (Sub.cons (s := 4) rfl (Sub.cons (s := 6) rfl (Sub.cons (s := 7) rfl (Sub.cons (s := 8) rfl (Sub.cons (s := 9) rfl (Sub.cons (s := 10) rfl (Sub.cons (s := 16) rfl (Sub.cons (s := 17) rfl (Sub.cons (s := 18) rfl (Sub.cons (s := 19) rfl (Sub.cons (s := 27) rfl (Sub.cons (s := 28) rfl (Sub.nil _))))))))))))))))) (fun ρ' B' H' => ρ' = [(34, .bool (decide (a.kind = 3 ∨ a.kind = 4)))] ∧ B = B' ∧ row b3 42 (vcs b Ap2 cp2 An2 cn2) * (row b2 42 (vcs a Ap cp An cn) * R) = H') ?_ ?_
        · skip
          refine Cx.seq (fun K15 k15 => ?_)
          refine Cx.region ?_
          refine Lx.y (eqI rfl rfl) rfl ?_
          refine Lx.y (asg rfl) rfl ?_
          refine Lx.nil ?_
          refine Xx.tn (k15 _ _ _ _ ?_)
          refine Cx.condD rfl (fun h16 => ?_) (fun h16 => ?_)
          · skip
            have z3 := h16
            refine Cx.skip ?_
            exact Xx.mkK (⟨rfl, rfl, rfl⟩) (Sub.consE (s := 34) rfl (by first | exact congrArg Value.bool (decide_eq_true (by omega)).symm | exact congrArg Value.bool (decide_eq_decide.2 (by omega))) (Sub.cons (s := 0) rfl (Sub.cons (s := 1) rfl (Sub.cons (s := 2) rfl (Sub.cons (s := 3) rfl (Sub.cons (s := 4) rfl (Sub.cons (s := 6) rfl (Sub.cons (s := 7) rfl (Sub.cons (s := 8) rfl (Sub.cons (s := 9) rfl (Sub.cons (s := 10) rfl (Sub.cons (s := 16) rfl (Sub.cons (s := 17) rfl (Sub.cons (s := 18) rfl (Sub.cons (s := 19) rfl (Sub.cons (s := 27) rfl (Sub.cons (s := 28) rfl (Sub.nil _))))))))))))))))))
          · skip
            have z3 := h16
            refine Cx.region ?_
            refine Lx.y (eqI rfl rfl) rfl ?_
            refine Lx.y (asg rfl) rfl ?_
            refine Lx.nil ?_
            exact Xx.mkK (⟨rfl, rfl, rfl⟩) (Sub.consE (s := 34) rfl (by first | exact congrArg Value.bool (decide_eq_true (by omega)).symm | exact congrArg Value.bool (decide_eq_decide.2 (by omega))) (Sub.cons (s := 0) rfl (Sub.cons (s := 1) rfl (Sub.cons (s := 2) rfl (Sub.cons (s := 3) rfl (Sub.cons (s := 4) rfl (Sub.cons (s := 6) rfl (Sub.cons (s := 7) rfl (Sub.cons (s := 8) rfl (Sub.cons (s := 9) rfl (Sub.cons (s := 10) rfl (Sub.cons (s := 16) rfl (Sub.cons (s := 17) rfl (Sub.cons (s := 18) rfl (Sub.cons (s := 19) rfl (Sub.cons (s := 27) rfl (Sub.cons (s := 28) rfl (Sub.nil _))))))))))))))))))
        · rintro ρ' B' H' ⟨rfl, rfl, rfl⟩
          refine Cx.condD rfl (fun h17 => ?_) (fun h17 => ?_)
          · skip
            have z3 := h17
            refine Cx.seq (fun K18 k18 => ?_)
            have hr : bless a.s b.s = decide (cmpF (d + 1) a b = .lt) := by
              rw [cmpF_same zk, if_neg z1, if_neg z2, if_pos z3]
              rw [show decide (cmpL a.s b.s = .lt) = decide (bless a.s b.s = true) from decide_eq_decide.2 cmpL_lt]
              simp
            refine Cx.region ?_
            refine Lx.y (fa' fo42_3 rfl) rfl ?_
            refine Lx.y (ld Tryd.underlying9 rfl rfl rfl) rfl ?_
            refine Lx.y (fa' fo42_3 rfl) rfl ?_
            refine Lx.y (ld Tryd.underlying9 rfl rfl rfl) rfl ?_
            refine Lx.y (lssS rfl rfl) rfl ?_
            refine Lx.y (asg rfl) rfl ?_
            refine Lx.nil ?_
            refine Xx.tn (k18 _ _ _ _ ?_)
            refine Cx.ret ?_
            refine Xx.br ?_
            refine Xx.tr ?_
            exact Xx.dropB b2 (Xx.dropB b3 (Xx.rB1 rfl rfl ⟨congrArg Value.bool hr, rfl⟩ (Frag.le_refl _) rfl))
          · skip
            have z3 := h17
            refine Cx.skip ?_
            refine Xx.bn ?_
            refine Xx.tn (k6 _ _ _ _ ?_)
            refine Cx.seq (fun K19 k19 => ?_)
            refine Cx.seq (fun K20 k20 => ?_)
            refine Cx.region ?_
            refine Lx.y (asg rfl) rfl ?_
            refine Lx.nil ?_
            refine Xx.tn (k20 _ _ _ _ ?_)
            refine Cx.block ?_
            refine Cx.loopK (Sub.cons (s := 0) rfl (Sub.cons (s := 1) rfl (Sub.cons (s := 2) rfl (Sub.cons (s := 3) rfl (Sub.cons (s := 6) rfl (Sub.cons (s := 7) rfl (Sub.cons (s := 8) rfl (Sub.cons (s := 9) rfl (Sub.cons (s := 10) rfl (Sub.cons (s := 16) rfl (Sub.cons (s := 17) rfl (Sub.cons (s := 18) rfl (Sub.cons (s := 19) rfl (Sub.cons (s := 27) rfl (Sub.cons (s := 28) rfl (Sub.cons (s := 34) rfl (Sub.nil _))))))))))))))))) (fun m ρ' B' H' => ∃ (i : Nat), (i ≤ a.parts.length ∧ i ≤ b.parts.length ∧ cmpF (d + 1) a b = lexO (prtO (cmpF d) a b) (a.parts.length - i) (b.parts.length - i) i) ∧ m = a.parts.length - i ∧ ρ' = [(5, i64 i)] ∧ B = B' ∧ row b3 42 (vcs b Ap2 cp2 An2 cn2) * (row b2 42 (vcs a Ap cp An cn) * R) = H') ⟨0, ⟨by omega, by omega, by rw [cmpF_same zk, if_neg z1, if_neg z2, if_neg z3]; rfl⟩, rfl, rfl, rfl, rfl⟩ (Sub.cons (s := 5) rfl (Sub.cons (s := 0) rfl (Sub.cons (s := 1) rfl (Sub.cons (s := 2) rfl (Sub.cons (s := 3) rfl (Sub.cons (s := 6) rfl (Sub.cons (s := 7) rfl (Sub.cons (s := 8) rfl (Sub.cons (s := 9) rfl (Sub.cons (s := 10) rfl (Sub.cons (s := 16) rfl (Sub.cons (s := 17) rfl (Sub.cons (s := 18) rfl (Sub.cons (s := 19) rfl (Sub.cons (s := 27) rfl (Sub.cons (s := 28) rfl (Sub.cons (s := 34) rfl (Sub.nil _)))))))))))))))))) ?_
            rintro m ρ' B' H' ⟨i, ⟨hi1, hi2, hlex⟩, rfl, rfl, rfl, rfl⟩
            refine Cx.seq (fun K21 k21 => ?_)
            refine Cx.seq (fun K22 k22 => ?_)
            refine Cx.region ?_
            refine Lx.y (mv rfl) rfl ?_
            refine Lx.y (fa' fo42_4 rfl) rfl ?_
            refine Lx.y (ld Tryd.underlying40 rfl rfl rfl) rfl ?_
            refine Lx.y (lenV (ty' := 0) Tryd.underlying40 rfl) rfl ?_
            refine Lx.y (lss rfl rfl) rfl ?_
            refine Lx.y (mv rfl) rfl ?_
            refine Xx.ifD (t := 47) rfl (fun h23 => ?_) (fun h23 => ?_)
            · skip
              have hj1 := h23
              refine Lx.gT rfl rfl rfl ?_
              refine Lx.y (mv rfl) rfl ?_
              refine Lx.gT rfl rfl rfl ?_
              refine Lx.y (fa' fo42_4 rfl) rfl ?_
              refine Lx.gT rfl rfl rfl ?_
              refine Lx.y (ld Tryd.underlying40 rfl rfl rfl) rfl ?_
              refine Lx.gT rfl rfl rfl ?_
              refine Lx.y (lenV (ty' := 0) Tryd.underlying40 rfl) rfl ?_
              refine Lx.gT rfl rfl rfl ?_
              refine Lx.y (lss rfl rfl) rfl ?_
              refine Lx.y (pickT rfl rfl) rfl ?_
              refine Lx.nil ?_
              refine Xx.tn (k22 _ _ _ _ ?_)
              refine Cx.condD rfl (fun h24 => ?_) (fun h24 => ?_)
              · skip
                have hj2 := h24
                have hia : i < a.parts.length := by omega
                have hib : i < b.parts.length := by omega
                have hstep := hlex.trans (lexO_step hia hib)
                obtain ⟨bq, oq, lq, eq, fq, xs, hAp, hBq, hxs, hv2⟩ := hps i hia
                subst hAp
                obtain ⟨Ap3, cp3, An3, cn3, rfl⟩ := ValR.shape hv2
                obtain ⟨bq2, oq2, lq2, eq2, fq2, xs2, hAp2, hBq2, hxs2, hv22⟩ := hps2 i hib
                subst hAp2
                obtain ⟨Ap4, cp4, An4, cn4, rfl⟩ := ValR.shape hv22
                refine Cx.skip ?_
                refine Xx.tn (k21 _ _ _ _ ?_)
                refine Cx.seq (fun K25 k25 => ?_)
                refine Cx.block ?_
                refine Cx.cutK (ds' := []) (Sub.cons (s := 0) rfl (Sub.cons (s := 1) rfl (Sub.cons (s := 2) rfl (Sub.cons (s := 3) rfl (Sub.cons (s := 5) rfl (Sub.cons (s := 6) rfl (Sub.cons (s := 7) rfl (Sub.cons (s := 8) rfl (Sub.cons (s := 9) rfl (Sub.cons (s := 10) rfl (Sub.cons (s := 16) rfl (Sub.cons (s := 17) rfl (Sub.cons (s := 18) rfl (Sub.cons (s := 19) rfl (Sub.cons (s := 27) rfl (Sub.cons (s := 28) rfl (Sub.cons (s := 34) rfl (Sub.cons (s := 42) rfl (Sub.cons (s := 43) rfl (Sub.cons (s := 44) rfl (Sub.cons (s := 45) rfl (Sub.cons (s := 46) rfl (Sub.cons (s := 47) rfl (Sub.cons (s := 48) rfl (Sub.cons (s := 49) rfl (Sub.cons (s := 50) rfl (Sub.cons (s := 51) rfl (Sub.cons (s := 52) rfl (Sub.cons (s := 53) rfl (Sub.nil _)))))))))))))))))))))))))))))) (fun ρ' B' H' => ρ' = [] ∧ B = B' ∧ row b3 42 (vcs b (some ⟨bq2, oq2, none⟩) cp2 An2 cn2) * (row b2 42 (vcs a (some ⟨bq, oq, none⟩) cp An cn) * R) = H') ?_ ?_
                · skip
                  refine Cx.seq (fun K26 k26 => ?_)
                  refine Cx.region ?_
                  refine Lx.y (fa' fo42_0 rfl) rfl ?_
                  refine Lx.y (ld Tryd.underlying3 rfl rfl rfl) rfl ?_
                  refine Lx.y (eqI rfl rfl) rfl ?_
                  refine Lx.y (mv rfl) rfl ?_
                  refine Xx.ifD (t := 59) rfl (fun h27 => ?_) (fun h27 => ?_)
                  · skip
                    have k6 : a.kind = 6 := h27
                    have hna := ham6 k6
                    have hnb := hbm6 (by omega)
                    refine Lx.gT rfl rfl rfl ?_
                    refine Lx.y (mv rfl) rfl ?_
                    refine Lx.gT rfl rfl rfl ?_
                    refine Lx.y (fa' fo42_5 rfl) rfl ?_
                    refine Lx.gT rfl rfl rfl ?_
                    refine Lx.y (ld Tryd.underlying33 rfl rfl rfl) rfl ?_
                    refine Lx.gT rfl rfl rfl ?_
                    refine Lx.y (lenV (ty' := 0) Tryd.underlying33 rfl) rfl ?_
                    refine Lx.gT rfl rfl rfl ?_
                    refine Lx.y (geq rfl rfl) rfl ?_
                    refine Lx.gT rfl rfl rfl ?_
                    refine Lx.y (mv rfl) rfl ?_
                    refine Xx.ifD (t := 65) rfl (fun h28 => ?_) (fun h28 => ?_)
                    · skip
                      exact absurd h28 (by omega)
                    · skip
                      refine Lx.gT rfl rfl rfl ?_
                      refine Lx.y (mv rfl) rfl ?_
                      refine Lx.gT rfl rfl rfl ?_
                      refine Lx.y (fa' fo42_5 rfl) rfl ?_
                      refine Lx.gT rfl rfl rfl ?_
                      refine Lx.y (ld Tryd.underlying33 rfl rfl rfl) rfl ?_
                      refine Lx.gT rfl rfl rfl ?_
                      refine Lx.y (lenV (ty' := 0) Tryd.underlying33 rfl) rfl ?_
                      refine Lx.gT rfl rfl rfl ?_
                      refine Lx.y (geq rfl rfl) rfl ?_
                      refine Lx.gT rfl rfl rfl ?_
                      refine Lx.y (pickF rfl rfl) rfl ?_
                      refine Lx.y (pickT rfl rfl) rfl ?_
                      refine Lx.nil ?_
                      refine Xx.tn (k26 _ _ _ _ ?_)
                      refine Cx.condD rfl (fun h29 => ?_) (fun h29 => ?_)
                      · skip
                        exact absurd h29 (by omega)
                      · skip
                        refine Cx.skip ?_
                        exact Xx.mkK (⟨rfl, rfl, rfl⟩) (Sub.cons (s := 0) rfl (Sub.cons (s := 1) rfl (Sub.cons (s := 2) rfl (Sub.cons (s := 3) rfl (Sub.cons (s := 5) rfl (Sub.cons (s := 6) rfl (Sub.cons (s := 7) rfl (Sub.cons (s := 8) rfl (Sub.cons (s := 9) rfl (Sub.cons (s := 10) rfl (Sub.cons (s := 16) rfl (Sub.cons (s := 17) rfl (Sub.cons (s := 18) rfl (Sub.cons (s := 19) rfl (Sub.cons (s := 27) rfl (Sub.cons (s := 28) rfl (Sub.cons (s := 34) rfl (Sub.cons (s := 42) rfl (Sub.cons (s := 43) rfl (Sub.cons (s := 44) rfl (Sub.cons (s := 45) rfl (Sub.cons (s := 46) rfl (Sub.cons (s := 47) rfl (Sub.cons (s := 48) rfl (Sub.cons (s := 49) rfl (Sub.cons (s := 50) rfl (Sub.cons (s := 51) rfl (Sub.cons (s := 52) rfl (Sub.cons (s := 53) rfl (Sub.nil _))))))))))))))))))))))))))))))
                  · skip
                    have k6 : ¬ a.kind = 6 := h27
                    refine Lx.gF rfl rfl rfl rfl ?_
                    refine Lx.gF rfl rfl rfl rfl ?_
                    refine Lx.gF rfl rfl rfl rfl ?_
                    refine Lx.gF rfl rfl rfl rfl ?_
                    refine Lx.gF rfl rfl rfl rfl ?_
                    refine Lx.gF rfl rfl rfl rfl ?_
                    refine Lx.gU rfl rfl rfl rfl ?_
                    refine Lx.gU rfl rfl rfl rfl ?_
                    refine Lx.gU rfl rfl rfl rfl ?_
                    refine Lx.gU rfl rfl rfl rfl ?_
                    refine Lx.gU rfl rfl rfl rfl ?_
                    refine Lx.gF rfl rfl rfl rfl ?_
                    refine Lx.y (pickF rfl rfl) rfl ?_
                    refine Lx.nil ?_
                    refine Xx.tn (k26 _ _ _ _ ?_)
                    refine Cx.condF rfl ?_
                    refine Cx.skip ?_
                    exact Xx.mkK (⟨rfl, rfl, rfl⟩) (Sub.cons (s := 0) rfl (Sub.cons (s := 1) rfl (Sub.cons (s := 2) rfl (Sub.cons (s := 3) rfl (Sub.cons (s := 5) rfl (Sub.cons (s := 6) rfl (Sub.cons (s := 7) rfl (Sub.cons (s := 8) rfl (Sub.cons (s := 9) rfl (Sub.cons (s := 10) rfl (Sub.cons (s := 16) rfl (Sub.cons (s := 17) rfl (Sub.cons (s := 18) rfl (Sub.cons (s := 19) rfl (Sub.cons (s := 27) rfl (Sub.cons (s := 28) rfl (Sub.cons (s := 34) rfl (Sub.cons (s := 42) rfl (Sub.cons (s := 43) rfl (Sub.cons (s := 44) rfl (Sub.cons (s := 45) rfl (Sub.cons (s := 46) rfl (Sub.cons (s := 47) rfl (Sub.cons (s := 48) rfl (Sub.cons (s := 49) rfl (Sub.cons (s := 50) rfl (Sub.cons (s := 51) rfl (Sub.cons (s := 52) rfl (Sub.cons (s := 53) rfl (Sub.nil _))))))))))))))))))))))))))))))
                · rintro ρ' B' H' ⟨rfl, rfl, rfl⟩
                  refine Cx.seq (fun K30 k30 => ?_)
                  refine Cx.seq (fun K31 k31 => ?_)
                  refine Cx.drawn (by kernel_rfl) ?_
                  refine Dx.p (i := 0) rfl (by kernel_rfl) (fa' fo42_0 rfl) rfl ?_
                  refine Dx.r (i := 1) rfl (by kernel_rfl) (ld Tryd.underlying3 rfl rfl rfl) rfl ?_
                  refine Dx.p (i := 2) rfl (by kernel_rfl) (eqI rfl rfl) rfl ?_
                  refine Dx.p (i := 3) rfl (by kernel_rfl) (mv rfl) rfl ?_
                  refine Xx.ifD (t := 83) rfl (fun h32 => ?_) (fun h32 => ?_)
                  · skip
                    have k6 : a.kind = 6 := h32
                    have hna := ham6 k6
                    have hnb := hbm6 (by omega)
                    obtain ⟨bn, on, ln, en, fn, hAn, hBn, hln⟩ := hns.at1 (k := i) (by omega)
                    subst hAn
                    rw [get_map (by omega)] at hln
                    obtain ⟨bn2, on2, ln2, en2, fn2, hAn2, hBn2, hln2⟩ := hns2.at1 (k := i) (by omega)
                    subst hAn2
                    rw [get_map (by omega)] at hln2
                    refine Dx.pT (i := 4) rfl rfl rfl rfl (by kernel_rfl) (fa' fo42_5 rfl) rfl ?_
                    refine Dx.rT (i := 5) rfl rfl rfl rfl (by kernel_rfl) (ld Tryd.underlying33 rfl rfl rfl) rfl ?_
                    refine Dx.pT (i := 6) rfl rfl rfl rfl (by kernel_rfl) (mv rfl) rfl ?_
                    refine Dx.pT (i := 7) rfl rfl rfl rfl (by kernel_rfl) (ia Tryd.underlying33 sz9 rfl rfl (by first | exact Int.toNat_natCast _ | rfl) (by omega) (by omega)) rfl ?_
                    refine Dx.rT (i := 8) rfl rfl rfl rfl (by kernel_rfl) (ldB Tryd.underlying9 rfl rfl hBn hln) rfl ?_
                    refine Dx.pT (i := 9) rfl rfl rfl rfl (by kernel_rfl) (fa' fo42_5 rfl) rfl ?_
                    refine Dx.rT (i := 10) rfl rfl rfl rfl (by kernel_rfl) (ld Tryd.underlying33 rfl rfl rfl) rfl ?_
                    refine Dx.pT (i := 11) rfl rfl rfl rfl (by kernel_rfl) (mv rfl) rfl ?_
                    refine Dx.pT (i := 12) rfl rfl rfl rfl (by kernel_rfl) (ia Tryd.underlying33 sz9 rfl rfl (by first | exact Int.toNat_natCast _ | rfl) (by omega) (by omega)) rfl ?_
                    refine Dx.rT (i := 13) rfl rfl rfl rfl (by kernel_rfl) (ldB Tryd.underlying9 rfl rfl hBn2 hln2) rfl ?_
                    refine Dx.pT (i := 14) rfl rfl rfl rfl (by kernel_rfl) (neS rfl rfl) rfl ?_
                    refine Dx.p (i := 15) rfl (by kernel_rfl) (pickT rfl rfl) rfl ?_
                    refine Dx.done (by kernel_rfl) ?_
                    refine Xx.tn (k31 _ _ _ _ ?_)
                    refine Cx.condN rfl (fun h33 => ?_) (fun h33 => ?_)
                    · skip
                      have hne := h33
                      have hr : bless (a.names.getD i []) (b.names.getD i []) = decide (cmpF (d + 1) a b = .lt) := by
                        rw [hstep]
                        unfold prtO
                        rw [if_pos k6]
                        cases hc : cmpL (a.names.getD i []) (b.names.getD i []) with
                        | lt => rw [cmpL_lt.1 hc]; rfl
                        | eq => exact absurd (cmpL_eq.1 hc) hne
                        | gt =>
                          cases hb9 : bless (a.names.getD i []) (b.names.getD i []) with
                          | false => rfl
                          | true => rw [cmpL_lt.2 hb9] at hc; cases hc
                      refine Cx.seq (fun K34 k34 => ?_)
                      refine Cx.drawn (by kernel_rfl) ?_
                      refine Dx.p (i := 0) rfl (by kernel_rfl) (fa' fo42_5 rfl) rfl ?_
                      refine Dx.r (i := 1) rfl (by kernel_rfl) (ld Tryd.underlying33 rfl rfl rfl) rfl ?_
                      refine Dx.p (i := 2) rfl (by kernel_rfl) (mv rfl) rfl ?_
                      refine Dx.p (i := 3) rfl (by kernel_rfl) (ia Tryd.underlying33 sz9 rfl rfl (by first | exact Int.toNat_natCast _ | rfl) (by omega) (by omega)) rfl ?_
                      refine Dx.r (i := 4) rfl (by kernel_rfl) (ldB Tryd.underlying9 rfl rfl hBn hln) rfl ?_
                      refine Dx.p (i := 5) rfl (by kernel_rfl) (fa' fo42_5 rfl) rfl ?_
                      refine Dx.r (i := 6) rfl (by kernel_rfl) (ld Tryd.underlying33 rfl rfl rfl) rfl ?_
                      refine Dx.p (i := 7) rfl (by kernel_rfl) (mv rfl) rfl ?_
                      refine Dx.p (i := 8) rfl (by kernel_rfl) (ia Tryd.underlying33 sz9 rfl rfl (by first | exact Int.toNat_natCast _ | rfl) (by omega) (by omega)) rfl ?_
                      refine Dx.r (i := 9) rfl (by kernel_rfl) (ldB Tryd.underlying9 rfl rfl hBn2 hln2) rfl ?_
                      refine Dx.p (i := 10) rfl (by kernel_rfl) (lssS rfl rfl) rfl ?_
                      refine Dx.p (i := 11) rfl (by kernel_rfl) (asg rfl) rfl ?_
                      refine Dx.done (by kernel_rfl) ?_
                      refine Xx.tn (k34 _ _ _ _ ?_)
                      refine Cx.ret ?_
                      refine Xx.tr ?_
                      refine Xx.br ?_
                      refine Xx.tr ?_
                      refine Xx.tr ?_
                      refine Xx.br ?_
                      refine Xx.tr ?_
                      exact Xx.dropB b2 (Xx.dropB b3 (Xx.rB1 rfl rfl ⟨congrArg Value.bool hr, rfl⟩ (Frag.le_refl _) rfl))
                    · skip
                      have hpo : prtO (cmpF d) a b i = cmpF d a.parts[i] b.parts[i] := by unfold prtO; rw [if_pos k6, cmpL_eq.2 h33, getDp hia, getDp hib]; rfl
                      refine Cx.skip ?_
                      refine Xx.tn (k30 _ _ _ _ ?_)
                      refine Cx.seq (fun K35 k35 => ?_)
                      refine Cx.seq (fun K36 k36 => ?_)
                      refine Cx.drawn (by kernel_rfl) ?_
                      refine Dx.p (i := 0) rfl (by kernel_rfl) (fa' fo42_4 rfl) rfl ?_
                      refine Dx.r (i := 1) rfl (by kernel_rfl) (ld Tryd.underlying40 rfl rfl rfl) rfl ?_
                      refine Dx.p (i := 2) rfl (by kernel_rfl) (mv rfl) rfl ?_
                      refine Dx.p (i := 3) rfl (by kernel_rfl) (ia Tryd.underlying40 sz42 rfl rfl (by first | exact Int.toNat_natCast _ | rfl) (by omega) (by omega)) rfl ?_
                      refine Dx.r (i := 4) rfl (by kernel_rfl) (ldA Tryd.underlying42 rfl sz42 rfl (Cells.base (n := 6) hBq hxs) rfl) rfl ?_
                      refine Dx.p (i := 5) rfl (by kernel_rfl) (fa' fo42_4 rfl) rfl ?_
                      refine Dx.r (i := 6) rfl (by kernel_rfl) (ld Tryd.underlying40 rfl rfl rfl) rfl ?_
                      refine Dx.p (i := 7) rfl (by kernel_rfl) (mv rfl) rfl ?_
                      refine Dx.p (i := 8) rfl (by kernel_rfl) (ia Tryd.underlying40 sz42 rfl rfl (by first | exact Int.toNat_natCast _ | rfl) (by omega) (by omega)) rfl ?_
                      refine Dx.r (i := 9) rfl (by kernel_rfl) (ldA Tryd.underlying42 rfl sz42 rfl (Cells.base (n := 6) hBq2 hxs2) rfl) rfl ?_
                      refine Dx.one (i := 10) (by kernel_rfl) ?_
                      refine Dstep.o (i := 10) rfl (Ox.cb rfl rfl rfl (ih _ _ _ _ _ _ hv2 hv22 (hap i hia) (hbp i hib))) rfl (fun v B' H' hΦ hB => ?_)
                      obtain ⟨rfl, rfl, rfl⟩ := hΦ; clear hB
                      refine ⟨JOk.edge (JOk.yes (JOk.edge (JOk.yes (JOk.top) (ld Tryd.underlying40 rfl rfl rfl)) (by kernel_rfl)) (ld Tryd.underlying40 rfl rfl rfl)) (by kernel_rfl), ?_⟩
                      refine Dx.done (by kernel_rfl) ?_
                      refine Xx.tn (k36 _ _ _ _ ?_)
                      refine Cx.condB rfl (fun h37 => ?_) (fun h37 => ?_)
                      · skip
                        have c1 := of_decide_eq_true h37
                        have hr : true = decide (cmpF (d + 1) a b = .lt) := by rw [hstep, hpo, c1]; rfl
                        refine Cx.seq (fun K38 k38 => ?_)
                        refine Cx.region ?_
                        refine Lx.y (asg rfl) rfl ?_
                        refine Lx.nil ?_
                        refine Xx.tn (k38 _ _ _ _ ?_)
                        refine Cx.ret ?_
                        refine Xx.tr ?_
                        refine Xx.br ?_
                        refine Xx.tr ?_
                        refine Xx.tr ?_
                        refine Xx.br ?_
                        refine Xx.tr ?_
                        exact Xx.dropB b2 (Xx.dropB b3 (Xx.rB1 rfl rfl ⟨congrArg Value.bool hr, rfl⟩ (Frag.le_refl _) rfl))
                      · skip
                        have c1 := of_decide_eq_false h37
                        refine Cx.skip ?_
                        refine Xx.tn (k35 _ _ _ _ ?_)
                        refine Cx.seq (fun K39 k39 => ?_)
                        refine Cx.drawn (by kernel_rfl) ?_
                        refine Dx.p (i := 0) rfl (by kernel_rfl) (fa' fo42_4 rfl) rfl ?_
                        refine Dx.r (i := 1) rfl (by kernel_rfl) (ld Tryd.underlying40 rfl rfl rfl) rfl ?_
                        refine Dx.p (i := 2) rfl (by kernel_rfl) (mv rfl) rfl ?_
                        refine Dx.p (i := 3) rfl (by kernel_rfl) (ia Tryd.underlying40 sz42 rfl rfl (by first | exact Int.toNat_natCast _ | rfl) (by omega) (by omega)) rfl ?_
                        refine Dx.r (i := 4) rfl (by kernel_rfl) (ldA Tryd.underlying42 rfl sz42 rfl (Cells.base (n := 6) hBq2 hxs2) rfl) rfl ?_
                        refine Dx.p (i := 5) rfl (by kernel_rfl) (fa' fo42_4 rfl) rfl ?_
                        refine Dx.r (i := 6) rfl (by kernel_rfl) (ld Tryd.underlying40 rfl rfl rfl) rfl ?_
                        refine Dx.p (i := 7) rfl (by kernel_rfl) (mv rfl) rfl ?_
                        refine Dx.p (i := 8) rfl (by kernel_rfl) (ia Tryd.underlying40 sz42 rfl rfl (by first | exact Int.toNat_natCast _ | rfl) (by omega) (by omega)) rfl ?_
                        refine Dx.r (i := 9) rfl (by kernel_rfl) (ldA Tryd.underlying42 rfl sz42 rfl (Cells.base (n := 6) hBq hxs) rfl) rfl ?_
                        refine Dx.one (i := 10) (by kernel_rfl) ?_
                        refine Dstep.o (i := 10) rfl (Ox.cb rfl rfl rfl (ih _ _ _ _ _ _ hv22 hv2 (hbp i hib) (hap i hia))) rfl (fun v B' H' hΦ hB => ?_)
                        obtain ⟨rfl, rfl, rfl⟩ := hΦ; clear hB
                        refine ⟨JOk.edge (JOk.yes (JOk.edge (JOk.yes (JOk.top) (ld Tryd.underlying40 rfl rfl rfl)) (by kernel_rfl)) (ld Tryd.underlying40 rfl rfl rfl)) (by kernel_rfl), ?_⟩
                        refine Dx.done (by kernel_rfl) ?_
                        refine Xx.tn (k39 _ _ _ _ ?_)
                        refine Cx.condB rfl (fun h40 => ?_) (fun h40 => ?_)
                        · skip
                          have c2 := of_decide_eq_true h40
                          rw [cmpF_swap d a.parts[i] b.parts[i]] at c2
                          have hr : false = decide (cmpF (d + 1) a b = .lt) := by rw [hstep, hpo, swap_lt.1 c2]; rfl
                          refine Cx.seq (fun K41 k41 => ?_)
                          refine Cx.region ?_
                          refine Lx.y (asg rfl) rfl ?_
                          refine Lx.nil ?_
                          refine Xx.tn (k41 _ _ _ _ ?_)
                          refine Cx.ret ?_
                          refine Xx.br ?_
                          refine Xx.tr ?_
                          refine Xx.tr ?_
                          refine Xx.br ?_
                          refine Xx.tr ?_
                          exact Xx.dropB b2 (Xx.dropB b3 (Xx.rB1 rfl rfl ⟨congrArg Value.bool hr, rfl⟩ (Frag.le_refl _) rfl))
                        · skip
                          have c2 := of_decide_eq_false h40
                          have c3 : cmpF d a.parts[i] b.parts[i] = .eq := by
                            rw [cmpF_swap d a.parts[i] b.parts[i]] at c2
                            cases hc : cmpF d a.parts[i] b.parts[i] with
                            | eq => rfl
                            | lt => exact absurd hc c1
                            | gt => exact absurd (by rw [hc]; rfl) c2
                          refine Cx.skip ?_
                          refine Xx.bn ?_
                          refine Xx.tn (k25 _ _ _ _ ?_)
                          refine Cx.region ?_
                          refine Lx.y (mv rfl) rfl ?_
                          refine Lx.y (add rfl rfl (by first | exact wrap64 (by omega) (by omega) | rfl)) rfl ?_
                          refine Lx.y (asg rfl) rfl ?_
                          refine Lx.nil ?_
                          exact Xx.againK ⟨i + 1, ⟨by omega, by omega, by rw [hstep, hpo, c3]; rfl⟩, rfl, rfl, rfl, rfl⟩ (by omega) (Sub.cons (s := 5) rfl (Sub.cons (s := 0) rfl (Sub.cons (s := 1) rfl (Sub.cons (s := 2) rfl (Sub.cons (s := 3) rfl (Sub.cons (s := 6) rfl (Sub.cons (s := 7) rfl (Sub.cons (s := 8) rfl (Sub.cons (s := 9) rfl (Sub.cons (s := 10) rfl (Sub.cons (s := 16) rfl (Sub.cons (s := 17) rfl (Sub.cons (s := 18) rfl (Sub.cons (s := 19) rfl (Sub.cons (s := 27) rfl (Sub.cons (s := 28) rfl (Sub.cons (s := 34) rfl (Sub.nil _))))))))))))))))))
                  · skip
                    have k6 : ¬ a.kind = 6 := h32
                    have hpo : prtO (cmpF d) a b i = cmpF d a.parts[i] b.parts[i] := by unfold prtO; rw [if_neg k6, getDp hia, getDp hib]; rfl
                    refine Dx.pF (i := 4) rfl (fun _ h => by cases h) rfl rfl rfl (by kernel_rfl) rfl ?_
                    refine Dx.pF (i := 5) rfl (fun _ h => by cases h) rfl rfl rfl (by kernel_rfl) rfl ?_
                    refine Dx.pF (i := 6) rfl (fun _ h => by cases h) rfl rfl rfl (by kernel_rfl) rfl ?_
                    refine Dx.pF (i := 7) rfl (fun _ h => by cases h) rfl rfl rfl (by kernel_rfl) rfl ?_
                    refine Dx.pF (i := 8) rfl (fun _ h => by cases h) rfl rfl rfl (by kernel_rfl) rfl ?_
                    refine Dx.pF (i := 9) rfl (fun _ h => by cases h) rfl rfl rfl (by kernel_rfl) rfl ?_
                    refine Dx.pF (i := 10) rfl (fun _ h => by cases h) rfl rfl rfl (by kernel_rfl) rfl ?_
                    refine Dx.pF (i := 11) rfl (fun _ h => by cases h) rfl rfl rfl (by kernel_rfl) rfl ?_
                    refine Dx.pF (i := 12) rfl (fun _ h => by cases h) rfl rfl rfl (by kernel_rfl) rfl ?_
                    refine Dx.pF (i := 13) rfl (fun _ h => by cases h) rfl rfl rfl (by kernel_rfl) rfl ?_
                    refine Dx.pF (i := 14) rfl (fun _ h => by cases h) rfl rfl rfl (by kernel_rfl) rfl ?_
                    refine Dx.p (i := 15) rfl (by kernel_rfl) (pickF rfl rfl) rfl ?_
                    refine Dx.done (by kernel_rfl) ?_
                    refine Xx.tn (k31 _ _ _ _ ?_)
                    refine Cx.condF rfl ?_
                    refine Cx.skip ?_
                    refine Xx.tn (k30 _ _ _ _ ?_)
                    refine Cx.seq (fun K42 k42 => ?_)
                    refine Cx.seq (fun K43 k43 => ?_)
                    refine Cx.drawn (by kernel_rfl) ?_
                    refine Dx.p (i := 0) rfl (by kernel_rfl) (fa' fo42_4 rfl) rfl ?_
                    refine Dx.r (i := 1) rfl (by kernel_rfl) (ld Tryd.underlying40 rfl rfl rfl) rfl ?_
                    refine Dx.p (i := 2) rfl (by kernel_rfl) (mv rfl) rfl ?_
                    refine Dx.p (i := 3) rfl (by kernel_rfl) (ia Tryd.underlying40 sz42 rfl rfl (by first | exact Int.toNat_natCast _ | rfl) (by omega) (by omega)) rfl ?_
                    refine Dx.r (i := 4) rfl (by kernel_rfl) (ldA Tryd.underlying42 rfl sz42 rfl (Cells.base (n := 6) hBq hxs) rfl) rfl ?_
                    refine Dx.p (i := 5) rfl (by kernel_rfl) (fa' fo42_4 rfl) rfl ?_
                    refine Dx.r (i := 6) rfl (by kernel_rfl) (ld Tryd.underlying40 rfl rfl rfl) rfl ?_
                    refine Dx.p (i := 7) rfl (by kernel_rfl) (mv rfl) rfl ?_
                    refine Dx.p (i := 8) rfl (by kernel_rfl) (ia Tryd.underlying40 sz42 rfl rfl (by first | exact Int.toNat_natCast _ | rfl) (by omega) (by omega)) rfl ?_
                    refine Dx.r (i := 9) rfl (by kernel_rfl) (ldA Tryd.underlying42 rfl sz42 rfl (Cells.base (n := 6) hBq2 hxs2) rfl) rfl ?_
                    refine Dx.one (i := 10) (by kernel_rfl) ?_
                    refine Dstep.o (i := 10) rfl (Ox.cb rfl rfl rfl (ih _ _ _ _ _ _ hv2 hv22 (hap i hia) (hbp i hib))) rfl (fun v B' H' hΦ hB => ?_)
                    obtain ⟨rfl, rfl, rfl⟩ := hΦ; clear hB
                    refine ⟨JOk.edge (JOk.yes (JOk.edge (JOk.yes (JOk.top) (ld Tryd.underlying40 rfl rfl rfl)) (by kernel_rfl)) (ld Tryd.underlying40 rfl rfl rfl)) (by kernel_rfl), ?_⟩
                    refine Dx.done (by kernel_rfl) ?_
                    refine Xx.tn (k43 _ _ _ _ ?_)
                    refine Cx.condB rfl (fun h44 => ?_) (fun h44 => ?_)
                    · skip
                      have c1 := of_decide_eq_true h44
                      have hr : true = decide (cmpF (d + 1) a b = .lt) := by rw [hstep, hpo, c1]; rfl
                      refine Cx.seq (fun K45 k45 => ?_)
                      refine Cx.region ?_
                      refine Lx.y (asg rfl) rfl ?_
                      refine Lx.nil ?_
                      refine Xx.tn (k45 _ _ _ _ ?_)
                      refine Cx.ret ?_
                      refine Xx.tr ?_
                      refine Xx.br ?_
                      refine Xx.tr ?_
                      refine Xx.tr ?_
                      refine Xx.br ?_
                      refine Xx.tr ?_
                      exact Xx.dropB b2 (Xx.dropB b3 (Xx.rB1 rfl rfl ⟨congrArg Value.bool hr, rfl⟩ (Frag.le_refl _) rfl))
                    · skip
                      have c1 := of_decide_eq_false h44
                      refine Cx.skip ?_
                      refine Xx.tn (k42 _ _ _ _ ?_)
                      refine Cx.seq (fun K46 k46 => ?_)
                      refine Cx.drawn (by kernel_rfl) ?_
                      refine Dx.p (i := 0) rfl (by kernel_rfl) (fa' fo42_4 rfl) rfl ?_
                      refine Dx.r (i := 1) rfl (by kernel_rfl) (ld Tryd.underlying40 rfl rfl rfl) rfl ?_
                      refine Dx.p (i := 2) rfl (by kernel_rfl) (mv rfl) rfl ?_
                      refine Dx.p (i := 3) rfl (by kernel_rfl) (ia Tryd.underlying40 sz42 rfl rfl (by first | exact Int.toNat_natCast _ | rfl) (by omega) (by omega)) rfl ?_
                      refine Dx.r (i := 4) rfl (by kernel_rfl) (ldA Tryd.underlying42 rfl sz42 rfl (Cells.base (n := 6) hBq2 hxs2) rfl) rfl ?_
                      refine Dx.p (i := 5) rfl (by kernel_rfl) (fa' fo42_4 rfl) rfl ?_
                      refine Dx.r (i := 6) rfl (by kernel_rfl) (ld Tryd.underlying40 rfl rfl rfl) rfl ?_
                      refine Dx.p (i := 7) rfl (by kernel_rfl) (mv rfl) rfl ?_
                      refine Dx.p (i := 8) rfl (by kernel_rfl) (ia Tryd.underlying40 sz42 rfl rfl (by first | exact Int.toNat_natCast _ | rfl) (by omega) (by omega)) rfl ?_
                      refine Dx.r (i := 9) rfl (by kernel_rfl) (ldA Tryd.underlying42 rfl sz42 rfl (Cells.base (n := 6) hBq hxs) rfl) rfl ?_
                      refine Dx.one (i := 10) (by kernel_rfl) ?_
                      refine Dstep.o (i := 10) rfl (Ox.cb rfl rfl rfl (ih _ _ _ _ _ _ hv22 hv2 (hbp i hib) (hap i hia))) rfl (fun v B' H' hΦ hB => ?_)
                      obtain ⟨rfl, rfl, rfl⟩ := hΦ; clear hB
                      refine ⟨JOk.edge (JOk.yes (JOk.edge (JOk.yes (JOk.top) (ld Tryd.underlying40 rfl rfl rfl)) (by kernel_rfl)) (ld Tryd.underlying40 rfl rfl rfl)) (by kernel_rfl), ?_⟩
                      refine Dx.done (by kernel_rfl) ?_
                      refine Xx.tn (k46 _ _ _ _ ?_)
                      refine Cx.condB rfl (fun h47 => ?_) (fun h47 => ?_)
                      · skip
                        have c2 := of_decide_eq_true h47
                        rw [cmpF_swap d a.parts[i] b.parts[i]] at c2
                        have hr : false = decide (cmpF (d + 1) a b = .lt) := by rw [hstep, hpo, swap_lt.1 c2]; rfl
                        refine Cx.seq (fun K48 k48 => ?_)
                        refine Cx.region ?_
                        refine Lx.y (asg rfl) rfl ?_
                        refine Lx.nil ?_
                        refine Xx.tn (k48 _ _ _ _ ?_)
                        refine Cx.ret ?_
                        refine Xx.br ?_
                        refine Xx.tr ?_
                        refine Xx.tr ?_
                        refine Xx.br ?_
                        refine Xx.tr ?_
                        exact Xx.dropB b2 (Xx.dropB b3 (Xx.rB1 rfl rfl ⟨congrArg Value.bool hr, rfl⟩ (Frag.le_refl _) rfl))
                      · skip
                        have c2 := of_decide_eq_false h47
                        have c3 : cmpF d a.parts[i] b.parts[i] = .eq := by
                          rw [cmpF_swap d a.parts[i] b.parts[i]] at c2
                          cases hc : cmpF d a.parts[i] b.parts[i] with
                          | eq => rfl
                          | lt => exact absurd hc c1
                          | gt => exact absurd (by rw [hc]; rfl) c2
                        refine Cx.skip ?_
                        refine Xx.bn ?_
                        refine Xx.tn (k25 _ _ _ _ ?_)
                        refine Cx.region ?_
                        refine Lx.y (mv rfl) rfl ?_
                        refine Lx.y (add rfl rfl (by first | exact wrap64 (by omega) (by omega) | rfl)) rfl ?_
                        refine Lx.y (asg rfl) rfl ?_
                        refine Lx.nil ?_
                        exact Xx.againK ⟨i + 1, ⟨by omega, by omega, by rw [hstep, hpo, c3]; rfl⟩, rfl, rfl, rfl, rfl⟩ (by omega) (Sub.cons (s := 5) rfl (Sub.cons (s := 0) rfl (Sub.cons (s := 1) rfl (Sub.cons (s := 2) rfl (Sub.cons (s := 3) rfl (Sub.cons (s := 6) rfl (Sub.cons (s := 7) rfl (Sub.cons (s := 8) rfl (Sub.cons (s := 9) rfl (Sub.cons (s := 10) rfl (Sub.cons (s := 16) rfl (Sub.cons (s := 17) rfl (Sub.cons (s := 18) rfl (Sub.cons (s := 19) rfl (Sub.cons (s := 27) rfl (Sub.cons (s := 28) rfl (Sub.cons (s := 34) rfl (Sub.nil _))))))))))))))))))
              · skip
                have hj2 := h24
                refine Cx.exit ?_
                refine Xx.te ?_
                refine Xx.te ?_
                refine Xx.bh ?_
                refine Xx.tn (k19 _ _ _ _ ?_)
                refine Cx.seq (fun K49 k49 => ?_)
                have hr : decide (((a.parts.length : Nat) : Int) < ((b.parts.length : Nat) : Int)) = decide (cmpF (d + 1) a b = .lt) := decide_eq_decide.2 (by rw [hlex, lexO_end hi1 hi2 (by omega)]; omega)
                refine Cx.region ?_
                refine Lx.y (fa' fo42_4 rfl) rfl ?_
                refine Lx.y (ld Tryd.underlying40 rfl rfl rfl) rfl ?_
                refine Lx.y (lenV (ty' := 0) Tryd.underlying40 rfl) rfl ?_
                refine Lx.y (fa' fo42_4 rfl) rfl ?_
                refine Lx.y (ld Tryd.underlying40 rfl rfl rfl) rfl ?_
                refine Lx.y (lenV (ty' := 0) Tryd.underlying40 rfl) rfl ?_
                refine Lx.y (lss rfl rfl) rfl ?_
                refine Lx.y (asg rfl) rfl ?_
                refine Lx.nil ?_
                refine Xx.tn (k49 _ _ _ _ ?_)
                refine Cx.ret ?_
                exact Xx.dropB b2 (Xx.dropB b3 (Xx.rB1 rfl rfl ⟨congrArg Value.bool hr, rfl⟩ (Frag.le_refl _) rfl))
            · skip
              have hj1 := h23
              refine Lx.gF rfl rfl rfl rfl ?_
              refine Lx.gF rfl rfl rfl rfl ?_
              refine Lx.gF rfl rfl rfl rfl ?_
              refine Lx.gF rfl rfl rfl rfl ?_
              refine Lx.gF rfl rfl rfl rfl ?_
              refine Lx.y (pickF rfl rfl) rfl ?_
              refine Lx.nil ?_
              refine Xx.tn (k22 _ _ _ _ ?_)
              refine Cx.condF rfl ?_
              refine Cx.exit ?_
              refine Xx.te ?_
              refine Xx.te ?_
              refine Xx.bh ?_
              refine Xx.tn (k19 _ _ _ _ ?_)
              refine Cx.seq (fun K50 k50 => ?_)
              have hr : decide (((a.parts.length : Nat) : Int) < ((b.parts.length : Nat) : Int)) = decide (cmpF (d + 1) a b = .lt) := decide_eq_decide.2 (by rw [hlex, lexO_end hi1 hi2 (by omega)]; omega)
              refine Cx.region ?_
              refine Lx.y (fa' fo42_4 rfl) rfl ?_
              refine Lx.y (ld Tryd.underlying40 rfl rfl rfl) rfl ?_
              refine Lx.y (lenV (ty' := 0) Tryd.underlying40 rfl) rfl ?_
              refine Lx.y (fa' fo42_4 rfl) rfl ?_
              refine Lx.y (ld Tryd.underlying40 rfl rfl rfl) rfl ?_
              refine Lx.y (lenV (ty' := 0) Tryd.underlying40 rfl) rfl ?_
              refine Lx.y (lss rfl rfl) rfl ?_
              refine Lx.y (asg rfl) rfl ?_
              refine Lx.nil ?_
              refine Xx.tn (k50 _ _ _ _ ?_)
              refine Cx.ret ?_
              exact Xx.dropB b2 (Xx.dropB b3 (Xx.rB1 rfl rfl ⟨congrArg Value.bool hr, rfl⟩ (Frag.le_refl _) rfl))

theorem Before_ct : ∀ (d : Nat) (a b : V) (deep : Int) (ca cb : List Value) (B : Frag), ValR B d a ca → ValR B d b cb → checkF d a deep = 0 → checkF d b deep = 0 → CtP Tryd.prog 20 [.agg ca.toArray, .agg cb.toArray] B (.bool (decide (cmpF d a b = .lt))) := by
  intro d
  induction d with
  | zero => intro a b deep ca cb B h; exact h.elim
  | succ d ih => intro a b deep ca cb B ha hb h1 h2; exact Before_step d ih a b deep ca cb B ha hb h1 h2

set_option maxHeartbeats 1000000 in
theorem Same_ct (d : Nat) (a b : V) (deep : Int) (ca cb : List Value) (B : Frag) (ha : ValR B d a ca) (hb : ValR B d b cb) (h1 : checkF d a deep = 0) (h2 : checkF d b deep = 0) : CtP Tryd.prog 19 [.agg ca.toArray, .agg cb.toArray] B (.bool (decide (cmpF d a b = .eq))) := by
  obtain ⟨Ap, cp, An, cn, rfl⟩ := ValR.shape ha
  obtain ⟨Ap2, cp2, An2, cn2, rfl⟩ := ValR.shape hb
  refine CtB.of_body Tryd.func19 rfl (nt := 15) rfl (by kernel_rfl) rfl ?_
  intro N0 w0 R
  refine Cx.seq (fun K1 k1 => ?_)
  refine Cx.region ?_
  refine Lx.new (boxA rfl) rfl (fun b2 => ?_)
  refine Lx.new (boxA rfl) rfl (fun b3 => ?_)
  refine Lx.y (asg rfl) rfl ?_
  refine Lx.nil ?_
  refine Xx.tn (k1 _ _ _ _ ?_)
  refine Cx.seq (fun K2 k2 => ?_)
  refine Cx.region ?_
  refine Lx.y (ldA Tryd.underlying42 rfl sz42 rfl (Cells.own (n := 6) PickB.eq rfl) rfl) rfl ?_
  refine Lx.y (ldA Tryd.underlying42 rfl sz42 rfl (Cells.own (n := 6) PickB.eq rfl) rfl) rfl ?_
  refine Lx.cp rfl rfl rfl (Before_ct d _ _ _ _ _ _ ha hb h1 h2) rfl ?_
  refine Lx.y (not' rfl) rfl ?_
  refine Lx.y (mv rfl) rfl ?_
  refine Xx.ifB (t := 9) rfl (fun h3 => ?_) (fun h3 => ?_)
  · skip
    have c1 := of_decide_eq_false ((Bool.not_eq_true' _).mp h3)
    have hr : (!decide (cmpF d b a = .lt)) = decide (cmpF d a b = .eq) := by
      rw [cmpF_swap d a b]
      cases hc : cmpF d a b with
      | eq => rfl
      | lt => exact absurd hc c1
      | gt => rfl
    refine Lx.gT rfl rfl rfl ?_
    refine Lx.y (ldA Tryd.underlying42 rfl sz42 rfl (Cells.own (n := 6) PickB.eq rfl) rfl) rfl ?_
    refine Lx.gT rfl rfl rfl ?_
    refine Lx.y (ldA Tryd.underlying42 rfl sz42 rfl (Cells.own (n := 6) PickB.eq rfl) rfl) rfl ?_
    refine Lx.gT rfl rfl rfl ?_
    refine Lx.cp rfl rfl rfl (Before_ct d _ _ _ _ _ _ hb ha h2 h1) rfl ?_
    refine Lx.gT rfl rfl rfl ?_
    refine Lx.y (not' rfl) rfl ?_
    refine Lx.y (pickT rfl rfl) rfl ?_
    refine Lx.y (asg rfl) rfl ?_
    refine Lx.nil ?_
    refine Xx.tn (k2 _ _ _ _ ?_)
    refine Cx.ret ?_
    exact Xx.dropB b2 (Xx.dropB b3 (Xx.rB1 rfl rfl ⟨congrArg Value.bool hr, rfl⟩ (Frag.le_refl _) rfl))
  · skip
    have c1 := of_decide_eq_true ((Bool.not_eq_false' _).mp h3)
    have hr : false = decide (cmpF d a b = .eq) := by rw [c1]; rfl
    refine Lx.gF rfl rfl rfl rfl ?_
    refine Lx.gF rfl rfl rfl rfl ?_
    refine Lx.gF rfl rfl rfl rfl ?_
    refine Lx.gF rfl rfl rfl rfl ?_
    refine Lx.y (pickF rfl rfl) rfl ?_
    refine Lx.y (asg rfl) rfl ?_
    refine Lx.nil ?_
    refine Xx.tn (k2 _ _ _ _ ?_)
    refine Cx.ret ?_
    exact Xx.dropB b2 (Xx.dropB b3 (Xx.rB1 rfl rfl ⟨congrArg Value.bool hr, rfl⟩ (Frag.le_refl _) rfl))

set_option maxHeartbeats 1000000 in
theorem Pair_ct (d : Nat) (v : V) (n : BitVec 64) (cs : List Value) (B : Frag) (h : ValR B d v cs) (hM : MaxLenIn B) (hb : (bytesF d v).length ≤ 1048576) : CtP Tryd.prog 24 [.agg cs.toArray, u64 n] B (str (keyF d v ++ numL n)) := by
  have hkl := keyF_len _ _ _ _ h
  obtain ⟨Ap, cp, An, cn, rfl⟩ := ValR.shape h
  refine CtB.of_body Tryd.func24 rfl (nt := 10) rfl (by kernel_rfl) rfl ?_
  intro N0 w0 R
  refine Cx.seq (fun K1 k1 => ?_)
  refine Cx.region ?_
  refine Lx.new (boxA rfl) rfl (fun b2 => ?_)
  refine Lx.y (asg rfl) rfl ?_
  refine Lx.nil ?_
  refine Xx.tn (k1 _ _ _ _ ?_)
  refine Cx.seq (fun K2 k2 => ?_)
  refine Cx.region ?_
  refine Lx.y (ldA Tryd.underlying35 rfl sz35 rfl (Cells.own (n := 6) PickB.eq rfl) rfl) rfl ?_
  refine Lx.cp rfl rfl rfl (Of_ct d v _ _ h hM hb) rfl ?_
  refine Lx.y (mv rfl) rfl ?_
  refine Lx.cp rfl rfl rfl (Number_ct _ _) rfl ?_
  refine Lx.y (catS rfl rfl (by first | omega | (simp <;> omega))) rfl ?_
  refine Lx.y (asg rfl) rfl ?_
  refine Lx.nil ?_
  refine Xx.tn (k2 _ _ _ _ ?_)
  refine Cx.ret ?_
  exact Xx.dropB b2 (Xx.rB1 rfl rfl ⟨rfl, rfl⟩ (Frag.le_refl _) rfl)

set_option maxHeartbeats 1000000 in
theorem Equal_ct (d : Nat) (v : V) (cs : List Value) (B : Frag) (h : ValR B d v cs) (hM : MaxLenIn B) (hb : (bytesF d v).length ≤ 1024) : CtB Tryd.prog 25 [.agg cs.toArray] B (fun v2 B' => B' = B ∧ ∃ r, v2 = spV (keyF d v) r ∧ nextP (keyF d v) r) := by
  have hkl := keyF_len _ _ _ _ h
  obtain ⟨Ap, cp, An, cn, rfl⟩ := ValR.shape h
  refine CtB.of_body Tryd.func25 rfl (nt := 9) rfl (by kernel_rfl) rfl ?_
  intro N0 w0 R
  refine Cx.seq (fun K1 k1 => ?_)
  refine Cx.region ?_
  refine Lx.new (boxA rfl) rfl (fun b1 => ?_)
  refine Lx.new (allocO ti26) rfl (fun b2 => ?_)
  refine Lx.nil ?_
  refine Xx.tn (k1 _ _ _ _ ?_)
  refine Cx.seq (fun K2 k2 => ?_)
  refine Cx.drawn (by kernel_rfl) ?_
  refine Dx.r (i := 0) rfl (by kernel_rfl) (ldA Tryd.underlying35 rfl sz35 rfl (Cells.own (n := 6) PickB.eq rfl) rfl) rfl ?_
  refine Dx.r (i := 2) rfl (by kernel_rfl) (ldA Tryd.underlying35 rfl sz35 rfl (Cells.own (n := 6) PickB.eq rfl) rfl) rfl ?_
  refine Dx.one (i := 1) (by kernel_rfl) ?_
  refine Dstep.o (i := 1) rfl (Ox.cb rfl rfl rfl (Of_ct d v _ _ h hM (by omega))) rfl (fun v B' H' hΦ hB => ?_)
  obtain ⟨rfl, rfl, rfl⟩ := hΦ; clear hB
  refine ⟨JOk.yes (JOk.edge (JOk.top) (by kernel_rfl)) (ldA Tryd.underlying35 rfl sz35 rfl (Cells.own (n := 6) PickB.eq rfl) rfl), ?_⟩
  refine Dx.one (i := 3) (by kernel_rfl) ?_
  refine Dstep.o (i := 3) rfl (Ox.cb rfl rfl rfl (Of_ct d v _ _ h hM (by omega))) rfl (fun v B' H' hΦ hB => ?_)
  obtain ⟨rfl, rfl, rfl⟩ := hΦ; clear hB
  refine ⟨JOk.edge (JOk.yes (JOk.top) (ldA Tryd.underlying35 rfl sz35 rfl (Cells.own (n := 6) PickB.eq rfl) rfl)) (by kernel_rfl), ?_⟩
  refine Dx.one (i := 4) (by kernel_rfl) ?_
  refine Dstep.o (i := 4) rfl (Ox.cb rfl rfl rfl (Next_ct _ _ (by omega))) rfl (fun v B' H' hΦ hB => ?_)
  obtain ⟨rfl, hΦ⟩ := hΦ
  obtain ⟨hBB, r, rfl, hr⟩ := hΦ
  obtain rfl := hBB.symm
  refine ⟨JOk.yes (JOk.yes (JOk.top) (ldA Tryd.underlying35 rfl sz35 rfl (Cells.own (n := 6) PickB.eq rfl) rfl)) (ldA Tryd.underlying35 rfl sz35 rfl (Cells.own (n := 6) PickB.eq rfl) rfl), ?_⟩
  refine Dx.p (i := 5) rfl (by kernel_rfl) (bld ti26 pl26 rfl rfl) rfl ?_
  refine Dx.one (i := 6) (by kernel_rfl) ?_
  refine Dstep.o0 (i := 6) rfl (stA (d := .bool) sz26 rfl rfl rfl rfl (by show 0 + 2 ≤ 2; omega) rfl) (fun v B' H' hΦ hB => ?_)
  obtain ⟨rfl, rfl⟩ := hΦ; clear hB v
  refine ⟨JOk.edge (JOk.edge (JOk.top) (by kernel_rfl)) (by kernel_rfl), ?_⟩
  refine Dx.done (by kernel_rfl) ?_
  refine Xx.tn (k2 _ _ _ _ ?_)
  refine Cx.ret ?_
  exact Xx.dropB b1 (Xx.rBa rfl Tryd.underlying26 rfl sz26 rfl rfl ⟨rfl, r, rfl, hr⟩ (Frag.le_refl _))
end KeG
end Go.Proofs.YtcoiejmlpinpbaaDoor
