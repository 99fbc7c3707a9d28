/-
  The reference: bytes, which values may be.
-/
import Derived.Test.YtcoiejmlpinpbaaProg
import Derived.Test.YtcoiejmlpinpbaaSlj
import Derived.Test.YtcoiejmlpinpbaaKeG
namespace Go.Proofs.Ytcoiejmlpinpbaa
open Go.SL Go.RowKit
set_option linter.unusedVariables false
set_option linter.unusedSimpArgs false
set_option maxRecDepth 100000
open Ke5 Ke6 Ke7 Ke8 Ke9 KeA KeB KeE KeF KeG
namespace KeH
theorem sz9 : (Try.prog.info? 9).map (·.size) = some 1 := by kernel_rfl
theorem sz53 : (Try.prog.info? 53).map (·.size) = some 6 := by kernel_rfl
theorem ti5 : TI Try.prog 5 [.int .u8 0] 1 1 := TI.of (by kernel_rfl) rfl rfl
theorem fo53_0 : FO Try.prog 53 0 0 1 false := FO.of Try.underlying53 rfl rfl (by kernel_rfl) Try.underlying3 rfl rfl
theorem fo53_1 : FO Try.prog 53 1 1 1 false := FO.of Try.underlying53 rfl rfl (by kernel_rfl) Try.underlying4 rfl rfl
theorem fo53_2 : FO Try.prog 53 2 2 1 false := FO.of Try.underlying53 rfl rfl (by kernel_rfl) Try.underlying2 rfl rfl
theorem fo53_3 : FO Try.prog 53 3 3 1 false := FO.of Try.underlying53 rfl rfl (by kernel_rfl) Try.underlying9 rfl rfl
theorem fo53_4 : FO Try.prog 53 4 4 1 false := FO.of Try.underlying53 rfl rfl (by kernel_rfl) Try.underlying51 rfl rfl
theorem fo53_5 : FO Try.prog 53 5 5 1 false := FO.of Try.underlying53 rfl rfl (by kernel_rfl) Try.underlying22 rfl rfl

theorem shape_ct : ∀ (d : Nat) (v : V) (cs : List Value) (deep : Int) (B : Frag), ValR B d v cs → 0 ≤ deep → deep ≤ 100 → CtP Try.prog 49 [.agg cs.toArray, i64 deep] B (i64 (checkF d v deep)) := by
  intro d
  induction d with
  | zero => intro v cs deep B h; exact h.elim
  | succ d ih => intro v cs deep B h h0 h1; exact shape_step d ih v cs deep B h h0 h1
def pbx (f : V → List UInt8) (v : V) (i : Nat) : List UInt8 := if v.kind = 5 ∨ v.kind = 6 then preB f v i else [toB v.kind]
theorem pbx_many {f : V → List UInt8} {v : V} (h : v.kind = 5 ∨ v.kind = 6) (i : Nat) : pbx f v i = preB f v i := if_pos h
theorem pbx_few {f : V → List UInt8} {v : V} (h : ¬ (v.kind = 5 ∨ v.kind = 6)) (i : Nat) : pbx f v i = [toB v.kind] := if_neg h

set_option maxHeartbeats 1000000 in
theorem RBytes_step (d : Nat) (ih : ∀ (v : V) (cs : List Value) (deep : Int) (B : Frag), ValR B d v cs → checkF d v deep = 0 → (bytesF d v).length ≤ 1152921504606846976 → CtP Try.prog 29 [.agg cs.toArray] B (str (bytesF d v))) (v : V) (cs : List Value) (deep : Int) (B : Frag) (h : ValR B (d + 1) v cs) (hok : checkF (d + 1) v deep = 0) (hb : (bytesF (d + 1) v).length ≤ 1152921504606846976) : CtP Try.prog 29 [.agg cs.toArray] B (str (bytesF (d + 1) v)) := by
  obtain ⟨hnm6, hnm0⟩ := names_many hok
  obtain ⟨_, _, _, hbare, _, _, hokp⟩ := chk_ok hok
  obtain ⟨Ap, cp, An, cn, rfl, ⟨hsl, hn1, hn2, hcn, hcp⟩, hpl, hnl, hns, hnx, hps⟩ := h
  refine CtB.of_body Try.func29 rfl (nt := 78) rfl (by kernel_rfl) rfl ?_
  intro N0 w0 R
  refine Cx.seq (fun K1 k1 => ?_)
  refine Cx.region ?_
  refine Lx.new (boxA rfl) rfl (fun b1 => ?_)
  refine Lx.y (asg rfl) rfl ?_
  refine Lx.nil ?_
  refine Xx.tn (k1 _ _ _ _ ?_)
  refine Cx.seq (fun K2 k2 => ?_)
  refine Cx.region ?_
  refine Lx.y (fa' fo53_0 rfl) rfl ?_
  refine Lx.y (ld Try.underlying3 rfl rfl rfl) rfl ?_
  refine Lx.y (cvI rfl Try.underlying3 Try.underlying5 (wrap_u8 _)) rfl ?_
  refine Lx.bsl (bsl1 Try.underlying94 ti5 rfl rfl rfl (by decide)) rfl (fun b9 => ?_)
  refine Lx.y (b2sR Try.underlying94 Try.underlying5 Try.underlying9 rfl (u8s_cons u8s_nil) rfl) rfl ?_
  refine Lx.y (asg rfl) rfl ?_
  refine Xx.dropB b9 ?_
  refine Lx.nil ?_
  refine Xx.tn (k2 _ _ _ _ ?_)
  refine Cx.cutK (ds' := []) (Sub.cons (s := 0) rfl (Sub.cons (s := 1) rfl (Sub.cons (s := 5) rfl (Sub.cons (s := 6) rfl (Sub.cons (s := 7) rfl (Sub.cons (s := 8) rfl (Sub.cons (s := 9) rfl (Sub.nil _)))))))) (fun ρ' B' H' => ρ' = [(3, str (pbx (bytesF d) v 0))] ∧ B = B' ∧ bytesF (d + 1) v = pbx (bytesF d) v v.parts.length ∧ row b1 53 (vcs v Ap cp An cn) * R = H') ?_ ?_
  · skip
    refine Cx.seq (fun K3 k3 => ?_)
    refine Cx.region ?_
    refine Lx.y (fa' fo53_0 rfl) rfl ?_
    refine Lx.y (ld Try.underlying3 rfl rfl rfl) rfl ?_
    refine Lx.nil ?_
    refine Xx.tn (k3 _ _ _ _ ?_)
    refine Cx.block ?_
    refine Cx.seq (fun K4 k4 => ?_)
    refine Cx.region ?_
    refine Lx.y (eqI rfl rfl) rfl ?_
    refine Lx.y (asg rfl) rfl ?_
    refine Lx.nil ?_
    refine Xx.tn (k4 _ _ _ _ ?_)
    refine Cx.condD rfl (fun h5 => ?_) (fun h5 => ?_)
    · skip
      have z1 := h5
      have hlb : (if v.b = true then [(1 : UInt8)] else [0]).length ≤ 1 := by split <;> simp
      refine Cx.seq (fun K6 k6 => ?_)
      refine Cx.region ?_
      refine Lx.y (mv rfl) rfl ?_
      refine Lx.y (fa' fo53_1 rfl) rfl ?_
      refine Lx.y (ld Try.underlying4 rfl rfl rfl) rfl ?_
      refine Lx.cp rfl rfl rfl (RBool_ct _ _) rfl ?_
      refine Lx.y (catS rfl rfl (by first | omega | (simp <;> omega))) rfl ?_
      refine Lx.y (asg rfl) rfl ?_
      refine Lx.nil ?_
      refine Xx.tn (k6 _ _ _ _ ?_)
      refine Cx.ret ?_
      refine Xx.br ?_
      refine Xx.tr ?_
      refine Xx.dropB b1 (Xx.rB1 rfl rfl ⟨congrArg str ?_, rfl⟩ (Frag.le_refl _) rfl)
      first | exact hbf.symm | (unfold bytesF; rw [if_pos z1]) | (unfold bytesF; rw [if_neg z1, if_pos z2]; done) | (unfold bytesF; rw [if_neg z1, if_neg z2, if_pos z3]; done)
    · skip
      have z1 := h5
      refine Cx.seq (fun K7 k7 => ?_)
      refine Cx.region ?_
      refine Lx.y (eqI rfl rfl) rfl ?_
      refine Lx.y (asg rfl) rfl ?_
      refine Lx.nil ?_
      refine Xx.tn (k7 _ _ _ _ ?_)
      refine Cx.condD rfl (fun h8 => ?_) (fun h8 => ?_)
      · skip
        have z2 := h8
        have hun : (intL v.n).length ≤ 11 := uvF_len 10 _
        refine Cx.seq (fun K9 k9 => ?_)
        refine Cx.region ?_
        refine Lx.y (mv rfl) rfl ?_
        refine Lx.y (fa' fo53_2 rfl) rfl ?_
        refine Lx.y (ld Try.underlying2 rfl rfl rfl) rfl ?_
        refine Lx.cp rfl rfl rfl (RInt_ct _ _ hn1 hn2) rfl ?_
        refine Lx.y (catS rfl rfl (by first | omega | (simp <;> omega))) rfl ?_
        refine Lx.y (asg rfl) rfl ?_
        refine Lx.nil ?_
        refine Xx.tn (k9 _ _ _ _ ?_)
        refine Cx.ret ?_
        refine Xx.br ?_
        refine Xx.tr ?_
        refine Xx.dropB b1 (Xx.rB1 rfl rfl ⟨congrArg str ?_, rfl⟩ (Frag.le_refl _) rfl)
        first | exact hbf.symm | (unfold bytesF; rw [if_pos z1]) | (unfold bytesF; rw [if_neg z1, if_pos z2]; done) | (unfold bytesF; rw [if_neg z1, if_neg z2, if_pos z3]; done)
      · skip
        have z2 := h8
        refine Cx.cutK (ds' := []) (Sub.cons (s := 0) rfl (Sub.cons (s := 1) rfl (Sub.cons (s := 2) rfl (Sub.cons (s := 3) rfl (Sub.cons (s := 5) rfl (Sub.cons (s := 6) rfl (Sub.cons (s := 7) rfl (Sub.cons (s := 8) rfl (Sub.cons (s := 9) rfl (Sub.cons (s := 10) rfl (Sub.cons (s := 11) rfl (Sub.cons (s := 12) rfl (Sub.cons (s := 13) rfl (Sub.cons (s := 19) rfl (Sub.cons (s := 20) rfl (Sub.nil _)))))))))))))))) (fun ρ' B' H' => ρ' = [(26, .bool (decide (v.kind = 3 ∨ v.kind = 4)))] ∧ B = B' ∧ row b1 53 (vcs v Ap cp An cn) * R = H') ?_ ?_
        · skip
          refine Cx.seq (fun K10 k10 => ?_)
          refine Cx.region ?_
          refine Lx.y (eqI rfl rfl) rfl ?_
          refine Lx.y (asg rfl) rfl ?_
          refine Lx.nil ?_
          refine Xx.tn (k10 _ _ _ _ ?_)
          refine Cx.condD rfl (fun h11 => ?_) (fun h11 => ?_)
          · skip
            have z3 := h11
            refine Cx.skip ?_
            exact Xx.mkK (⟨rfl, rfl, rfl⟩) (Sub.consE (s := 26) rfl (by first | exact congrArg Value.bool (decide_eq_true (by omega)).symm | exact congrArg Value.bool (decide_eq_decide.2 (by omega))) (Sub.cons (s := 0) rfl (Sub.cons (s := 1) rfl (Sub.cons (s := 2) rfl (Sub.cons (s := 3) rfl (Sub.cons (s := 5) rfl (Sub.cons (s := 6) rfl (Sub.cons (s := 7) rfl (Sub.cons (s := 8) rfl (Sub.cons (s := 9) rfl (Sub.cons (s := 10) rfl (Sub.cons (s := 11) rfl (Sub.cons (s := 12) rfl (Sub.cons (s := 13) rfl (Sub.cons (s := 19) rfl (Sub.cons (s := 20) rfl (Sub.nil _)))))))))))))))))
          · skip
            have z3 := h11
            refine Cx.region ?_
            refine Lx.y (eqI rfl rfl) rfl ?_
            refine Lx.y (asg rfl) rfl ?_
            refine Lx.nil ?_
            exact Xx.mkK (⟨rfl, rfl, rfl⟩) (Sub.consE (s := 26) rfl (by first | exact congrArg Value.bool (decide_eq_true (by omega)).symm | exact congrArg Value.bool (decide_eq_decide.2 (by omega))) (Sub.cons (s := 0) rfl (Sub.cons (s := 1) rfl (Sub.cons (s := 2) rfl (Sub.cons (s := 3) rfl (Sub.cons (s := 5) rfl (Sub.cons (s := 6) rfl (Sub.cons (s := 7) rfl (Sub.cons (s := 8) rfl (Sub.cons (s := 9) rfl (Sub.cons (s := 10) rfl (Sub.cons (s := 11) rfl (Sub.cons (s := 12) rfl (Sub.cons (s := 13) rfl (Sub.cons (s := 19) rfl (Sub.cons (s := 20) rfl (Sub.nil _)))))))))))))))))
        · rintro ρ' B' H' ⟨rfl, rfl, rfl⟩
          refine Cx.condD rfl (fun h12 => ?_) (fun h12 => ?_)
          · skip
            have z3 := h12
            refine Cx.seq (fun K13 k13 => ?_)
            have hus : (txtL v.s).length ≤ 11 + v.s.length := by unfold txtL; have : (uvL (BitVec.ofInt 64 (v.s.length : Nat))).length ≤ 11 := uvF_len 10 _; simp only [List.length_append]; omega
            refine Cx.region ?_
            refine Lx.y (mv rfl) rfl ?_
            refine Lx.y (fa' fo53_3 rfl) rfl ?_
            refine Lx.y (ld Try.underlying9 rfl rfl rfl) rfl ?_
            refine Lx.cp rfl rfl rfl (RText_ct _ _ (by first | exact hsl | exact hnl2)) rfl ?_
            refine Lx.y (catS rfl rfl (by first | omega | (simp <;> omega))) rfl ?_
            refine Lx.y (asg rfl) rfl ?_
            refine Lx.nil ?_
            refine Xx.tn (k13 _ _ _ _ ?_)
            refine Cx.ret ?_
            refine Xx.br ?_
            refine Xx.tr ?_
            refine Xx.dropB b1 (Xx.rB1 rfl rfl ⟨congrArg str ?_, rfl⟩ (Frag.le_refl _) rfl)
            first | exact hbf.symm | (unfold bytesF; rw [if_pos z1]) | (unfold bytesF; rw [if_neg z1, if_pos z2]; done) | (unfold bytesF; rw [if_neg z1, if_neg z2, if_pos z3]; done)
          · skip
            have z3 := h12
            refine Cx.cutK (ds' := []) (Sub.cons (s := 0) rfl (Sub.cons (s := 1) rfl (Sub.cons (s := 2) rfl (Sub.cons (s := 3) rfl (Sub.cons (s := 5) rfl (Sub.cons (s := 6) rfl (Sub.cons (s := 7) rfl (Sub.cons (s := 8) rfl (Sub.cons (s := 9) rfl (Sub.cons (s := 10) rfl (Sub.cons (s := 11) rfl (Sub.cons (s := 12) rfl (Sub.cons (s := 13) rfl (Sub.cons (s := 19) rfl (Sub.cons (s := 20) rfl (Sub.cons (s := 26) rfl (Sub.nil _))))))))))))))))) (fun ρ' B' H' => ρ' = [(34, .bool (decide (v.kind = 5 ∨ v.kind = 6)))] ∧ B = B' ∧ row b1 53 (vcs v Ap cp An cn) * R = H') ?_ ?_
            · skip
              refine Cx.seq (fun K14 k14 => ?_)
              refine Cx.region ?_
              refine Lx.y (eqI rfl rfl) rfl ?_
              refine Lx.y (asg rfl) rfl ?_
              refine Lx.nil ?_
              refine Xx.tn (k14 _ _ _ _ ?_)
              refine Cx.condD rfl (fun h15 => ?_) (fun h15 => ?_)
              · skip
                have z4 := h15
                refine Cx.skip ?_
                exact Xx.mkK (⟨rfl, rfl, rfl⟩) (Sub.consE (s := 34) rfl (by first | exact congrArg Value.bool (decide_eq_true (by omega)).symm | exact congrArg Value.bool (decide_eq_decide.2 (by omega))) (Sub.cons (s := 0) rfl (Sub.cons (s := 1) rfl (Sub.cons (s := 2) rfl (Sub.cons (s := 3) rfl (Sub.cons (s := 5) rfl (Sub.cons (s := 6) rfl (Sub.cons (s := 7) rfl (Sub.cons (s := 8) rfl (Sub.cons (s := 9) rfl (Sub.cons (s := 10) rfl (Sub.cons (s := 11) rfl (Sub.cons (s := 12) rfl (Sub.cons (s := 13) rfl (Sub.cons (s := 19) rfl (Sub.cons (s := 20) rfl (Sub.cons (s := 26) rfl (Sub.nil _))))))))))))))))))
              · skip
                have z4 := h15
                refine Cx.region ?_
                refine Lx.y (eqI rfl rfl) rfl ?_
                refine Lx.y (asg rfl) rfl ?_
                refine Lx.nil ?_
                exact Xx.mkK (⟨rfl, rfl, rfl⟩) (Sub.consE (s := 34) rfl (by first | exact congrArg Value.bool (decide_eq_true (by omega)).symm | exact congrArg Value.bool (decide_eq_decide.2 (by omega))) (Sub.cons (s := 0) rfl (Sub.cons (s := 1) rfl (Sub.cons (s := 2) rfl (Sub.cons (s := 3) rfl (Sub.cons (s := 5) rfl (Sub.cons (s := 6) rfl (Sub.cons (s := 7) rfl (Sub.cons (s := 8) rfl (Sub.cons (s := 9) rfl (Sub.cons (s := 10) rfl (Sub.cons (s := 11) rfl (Sub.cons (s := 12) rfl (Sub.cons (s := 13) rfl (Sub.cons (s := 19) rfl (Sub.cons (s := 20) rfl (Sub.cons (s := 26) rfl (Sub.nil _))))))))))))))))))
            · rintro ρ' B' H' ⟨rfl, rfl, rfl⟩
              refine Cx.condD rfl (fun h16 => ?_) (fun h16 => ?_)
              · skip
                have z4 := h16
                have hup : (uvL (BitVec.ofInt 64 (v.parts.length : Nat))).length ≤ 11 := uvF_len 10 _
                have hup2 : (uvL (BitVec.ofNat 64 v.parts.length)).length ≤ 11 := uvF_len 10 _
                refine Cx.region ?_
                refine Lx.y (mv rfl) rfl ?_
                refine Lx.y (fa' fo53_4 rfl) rfl ?_
                refine Lx.y (ld Try.underlying51 rfl rfl rfl) rfl ?_
                refine Lx.y (lenV (ty' := 0) Try.underlying51 rfl) rfl ?_
                refine Lx.y (cvW64 rfl Try.underlying3 Try.underlying98) rfl ?_
                refine Lx.cp rfl rfl rfl (RUint_ct _ _) rfl ?_
                refine Lx.y (catS rfl rfl (by first | omega | (simp <;> omega))) rfl ?_
                refine Lx.y (asg rfl) rfl ?_
                refine Lx.nil ?_
                refine Xx.bn ?_
                exact Xx.mkK (⟨rfl, rfl, by rw [pbx_many z4]; unfold bytesF; rw [if_neg z1, if_neg z2, if_neg z3, if_pos z4], rfl⟩) (Sub.consE (s := 3) rfl (by rw [pbx_many z4]; simp [preB]) (Sub.cons (s := 0) rfl (Sub.cons (s := 1) rfl (Sub.cons (s := 5) rfl (Sub.cons (s := 6) rfl (Sub.cons (s := 7) rfl (Sub.cons (s := 8) rfl (Sub.cons (s := 9) rfl (Sub.nil _)))))))))
              · skip
                have z4 := h16
                refine Cx.skip ?_
                refine Xx.bn ?_
                exact Xx.mkK (⟨rfl, rfl, by rw [pbx_few z4]; unfold bytesF; rw [if_neg z1, if_neg z2, if_neg z3, if_neg z4], rfl⟩) (Sub.consE (s := 3) rfl (by rw [pbx_few z4]) (Sub.cons (s := 0) rfl (Sub.cons (s := 1) rfl (Sub.cons (s := 5) rfl (Sub.cons (s := 6) rfl (Sub.cons (s := 7) rfl (Sub.cons (s := 8) rfl (Sub.cons (s := 9) rfl (Sub.nil _)))))))))
  · rintro ρ' B' H' ⟨rfl, rfl, hbf, rfl⟩
    refine Cx.seq (fun K17 k17 => ?_)
    refine Cx.seq (fun K18 k18 => ?_)
    refine Cx.region ?_
    refine Lx.y (asg rfl) rfl ?_
    refine Lx.nil ?_
    refine Xx.tn (k18 _ _ _ _ ?_)
    refine Cx.block ?_
    refine Cx.loopK (Sub.cons (s := 0) rfl (Sub.cons (s := 1) rfl (Sub.cons (s := 5) rfl (Sub.cons (s := 6) rfl (Sub.cons (s := 7) rfl (Sub.cons (s := 8) rfl (Sub.cons (s := 9) rfl (Sub.nil _)))))))) (fun m ρ' B' H' => ∃ (i : Nat), (i ≤ v.parts.length) ∧ m = v.parts.length - i ∧ ρ' = [(3, str (pbx (bytesF d) v i)), (4, i64 i)] ∧ B = B' ∧ row b1 53 (vcs v Ap cp An cn) * R = H') ⟨0, Nat.zero_le _, rfl, rfl, rfl, rfl⟩ (Sub.cons (s := 3) rfl (Sub.cons (s := 4) rfl (Sub.cons (s := 0) rfl (Sub.cons (s := 1) rfl (Sub.cons (s := 5) rfl (Sub.cons (s := 6) rfl (Sub.cons (s := 7) rfl (Sub.cons (s := 8) rfl (Sub.cons (s := 9) rfl (Sub.nil _)))))))))) ?_
    rintro m ρ' B' H' ⟨i, hi, rfl, rfl, rfl, rfl⟩
    refine Cx.seq (fun K19 k19 => ?_)
    refine Cx.seq (fun K20 k20 => ?_)
    refine Cx.region ?_
    refine Lx.y (mv rfl) rfl ?_
    refine Lx.y (fa' fo53_4 rfl) rfl ?_
    refine Lx.y (ld Try.underlying51 rfl rfl rfl) rfl ?_
    refine Lx.y (lenV (ty' := 0) Try.underlying51 rfl) rfl ?_
    refine Lx.y (lss rfl rfl) rfl ?_
    refine Lx.nil ?_
    refine Xx.tn (k20 _ _ _ _ ?_)
    refine Cx.condD rfl (fun h21 => ?_) (fun h21 => ?_)
    · skip
      have hil : i < v.parts.length := by have := h21; omega
      have hk : v.kind = 5 ∨ v.kind = 6 := Classical.byContradiction fun z => by have := hbare.2.2.2.1; omega
      have hm2 := preB_mono (bytesF d) v (show i + 1 ≤ v.parts.length by omega)
      rw [hbf, pbx_many hk] at hb
      rw [preB_succ, List.length_append] at hm2
      have hpx : (pbx (bytesF d) v i).length = (preB (bytesF d) v i).length := by rw [pbx_many hk]
      obtain ⟨bq, oq, lq, eq, fq, xs, rfl, hBq, hxs, hv2⟩ := hps i hil
      obtain ⟨Ap2, cp2, An2, cn2, rfl⟩ := ValR.shape hv2
      refine Cx.skip ?_
      refine Xx.tn (k19 _ _ _ _ ?_)
      refine Cx.seq (fun K22 k22 => ?_)
      refine Cx.block ?_
      refine Cx.seq (fun K23 k23 => ?_)
      refine Cx.seq (fun K24 k24 => ?_)
      refine Cx.region ?_
      refine Lx.y (fa' fo53_0 rfl) rfl ?_
      refine Lx.y (ld Try.underlying3 rfl rfl rfl) rfl ?_
      refine Lx.y (eqI rfl rfl) rfl ?_
      refine Lx.y (mv rfl) rfl ?_
      refine Xx.ifD (t := 54) rfl (fun h25 => ?_) (fun h25 => ?_)
      · skip
        have k6 := h25
        refine Lx.gT rfl rfl rfl ?_
        refine Lx.y (mv rfl) rfl ?_
        refine Lx.gT rfl rfl rfl ?_
        refine Lx.y (fa' fo53_5 rfl) rfl ?_
        refine Lx.gT rfl rfl rfl ?_
        refine Lx.y (ld Try.underlying22 rfl rfl rfl) rfl ?_
        refine Lx.gT rfl rfl rfl ?_
        refine Lx.y (lenV (ty' := 0) Try.underlying22 rfl) rfl ?_
        refine Lx.gT rfl rfl rfl ?_
        refine Lx.y (lss rfl rfl) rfl ?_
        refine Lx.y (pickT rfl rfl) rfl ?_
        refine Lx.nil ?_
        refine Xx.tn (k24 _ _ _ _ ?_)
        refine Cx.condD rfl (fun h26 => ?_) (fun h26 => ?_)
        · skip
          have hin : i < v.names.length := by have := h26; omega
          have hpt : partB (bytesF d) v i = txtL (v.names.getD i []) ++ bytesF d v.parts[i] := by unfold partB; rw [if_pos hin, getDp hil]
          rw [hpt, List.length_append] at hm2
          obtain ⟨bn, on, ln, en, fn, rfl, hBn, hln⟩ := hns.at1 (k := i) hin
          rw [get_map hin] at hln
          have hnl2 : (v.names.getD i []).length ≤ 4611686018427387904 := hnx _ (get_mem hin)
          generalize v.names.getD i [] = nm at *
          refine Cx.region ?_
          refine Lx.y (mv rfl) rfl ?_
          refine Lx.y (fa' fo53_5 rfl) rfl ?_
          refine Lx.y (ld Try.underlying22 rfl rfl rfl) rfl ?_
          refine Lx.y (mv rfl) rfl ?_
          refine Lx.y (ia Try.underlying22 sz9 rfl rfl (by first | exact Int.toNat_natCast _ | rfl) (by omega) (by omega)) rfl ?_
          refine Lx.y (ldB Try.underlying9 rfl rfl hBn hln) rfl ?_
          refine Lx.cp rfl rfl rfl (RText_ct _ _ (by first | exact hsl | exact hnl2)) rfl ?_
          refine Lx.y (catS rfl rfl (by first | omega | (simp <;> omega))) rfl ?_
          refine Lx.y (asg rfl) rfl ?_
          refine Lx.nil ?_
          refine Xx.tn (k23 _ _ _ _ ?_)
          refine Cx.region ?_
          refine Lx.y (mv rfl) rfl ?_
          refine Lx.y (fa' fo53_4 rfl) rfl ?_
          refine Lx.y (ld Try.underlying51 rfl rfl rfl) rfl ?_
          refine Lx.y (mv rfl) rfl ?_
          refine Lx.y (ia Try.underlying51 sz53 rfl rfl (by first | exact Int.toNat_natCast _ | rfl) (by omega) (by omega)) rfl ?_
          refine Lx.y (ldA Try.underlying53 rfl sz53 rfl (Cells.base (n := 6) hBq hxs) rfl) rfl ?_
          refine Lx.cp rfl rfl rfl (ih _ _ _ _ hv2 (hokp i hil) (by omega)) rfl ?_
          refine Lx.y (catS rfl rfl (by first | omega | (simp <;> omega))) rfl ?_
          refine Lx.y (asg rfl) rfl ?_
          refine Lx.nil ?_
          refine Xx.bn ?_
          refine Xx.tn (k22 _ _ _ _ ?_)
          refine Cx.region ?_
          refine Lx.y (mv rfl) rfl ?_
          refine Lx.y (add rfl rfl (by first | exact wrap64 (by omega) (by omega) | rfl)) rfl ?_
          refine Lx.y (asg rfl) rfl ?_
          refine Lx.nil ?_
          exact Xx.againK ⟨i + 1, by omega, rfl, rfl, rfl, rfl⟩ (by omega) (Sub.consE (s := 3) rfl (by rw [pbx_many hk, pbx_many hk, preB_succ, hpt]; simp) (Sub.cons (s := 4) rfl (Sub.cons (s := 0) rfl (Sub.cons (s := 1) rfl (Sub.cons (s := 5) rfl (Sub.cons (s := 6) rfl (Sub.cons (s := 7) rfl (Sub.cons (s := 8) rfl (Sub.cons (s := 9) rfl (Sub.nil _))))))))))
        · skip
          exact absurd h26 (by have := hnm6 k6; omega)
      · skip
        have k6 : ¬ v.kind = 6 := h25
        have hin : ¬ i < v.names.length := by have := hnm0 k6; omega
        have hpt : partB (bytesF d) v i = bytesF d v.parts[i] := by unfold partB; rw [if_neg hin, getDp hil]; rfl
        rw [hpt] at hm2
        refine Lx.gF rfl rfl rfl rfl ?_
        refine Lx.gF rfl rfl rfl rfl ?_
        refine Lx.gF rfl rfl rfl rfl ?_
        refine Lx.gF rfl rfl rfl rfl ?_
        refine Lx.gF rfl rfl rfl rfl ?_
        refine Lx.y (pickF rfl rfl) rfl ?_
        refine Lx.nil ?_
        refine Xx.tn (k24 _ _ _ _ ?_)
        refine Cx.condF rfl ?_
        refine Cx.skip ?_
        refine Xx.tn (k23 _ _ _ _ ?_)
        refine Cx.region ?_
        refine Lx.y (mv rfl) rfl ?_
        refine Lx.y (fa' fo53_4 rfl) rfl ?_
        refine Lx.y (ld Try.underlying51 rfl rfl rfl) rfl ?_
        refine Lx.y (mv rfl) rfl ?_
        refine Lx.y (ia Try.underlying51 sz53 rfl rfl (by first | exact Int.toNat_natCast _ | rfl) (by omega) (by omega)) rfl ?_
        refine Lx.y (ldA Try.underlying53 rfl sz53 rfl (Cells.base (n := 6) hBq hxs) rfl) rfl ?_
        refine Lx.cp rfl rfl rfl (ih _ _ _ _ hv2 (hokp i hil) (by omega)) rfl ?_
        refine Lx.y (catS rfl rfl (by first | omega | (simp <;> omega))) rfl ?_
        refine Lx.y (asg rfl) rfl ?_
        refine Lx.nil ?_
        refine Xx.bn ?_
        refine Xx.tn (k22 _ _ _ _ ?_)
        refine Cx.region ?_
        refine Lx.y (mv rfl) rfl ?_
        refine Lx.y (add rfl rfl (by first | exact wrap64 (by omega) (by omega) | rfl)) rfl ?_
        refine Lx.y (asg rfl) rfl ?_
        refine Lx.nil ?_
        exact Xx.againK ⟨i + 1, by omega, rfl, rfl, rfl, rfl⟩ (by omega) (Sub.consE (s := 3) rfl (by rw [pbx_many hk, pbx_many hk, preB_succ, hpt]) (Sub.cons (s := 4) rfl (Sub.cons (s := 0) rfl (Sub.cons (s := 1) rfl (Sub.cons (s := 5) rfl (Sub.cons (s := 6) rfl (Sub.cons (s := 7) rfl (Sub.cons (s := 8) rfl (Sub.cons (s := 9) rfl (Sub.nil _))))))))))
    · skip
      obtain rfl : i = v.parts.length := by have := h21; omega
      refine Cx.exit ?_
      refine Xx.te ?_
      refine Xx.te ?_
      refine Xx.bh ?_
      refine Xx.tn (k17 _ _ _ _ ?_)
      refine Cx.seq (fun K27 k27 => ?_)
      refine Cx.region ?_
      refine Lx.y (mv rfl) rfl ?_
      refine Lx.y (asg rfl) rfl ?_
      refine Lx.nil ?_
      refine Xx.tn (k27 _ _ _ _ ?_)
      refine Cx.ret ?_
      refine Xx.dropB b1 (Xx.rB1 rfl rfl ⟨congrArg str ?_, rfl⟩ (Frag.le_refl _) rfl)
      first | exact hbf.symm | (unfold bytesF; rw [if_pos z1]) | (unfold bytesF; rw [if_neg z1, if_pos z2]; done) | (unfold bytesF; rw [if_neg z1, if_neg z2, if_pos z3]; done)

theorem RBytes_ct : ∀ (d : Nat) (v : V) (cs : List Value) (deep : Int) (B : Frag), ValR B d v cs → checkF d v deep = 0 → (bytesF d v).length ≤ 1152921504606846976 → CtP Try.prog 29 [.agg cs.toArray] B (str (bytesF d v)) := by
  intro d
  induction d with
  | zero => intro v cs deep B h; exact h.elim
  | succ d ih => intro v cs deep B h h1 hb; exact RBytes_step d ih v cs deep B h h1 hb

set_option maxHeartbeats 1000000 in
theorem RCheck_ct (d : Nat) (v : V) (cs : List Value) (B : Frag) (h : ValR B d v cs) (hb : checkF d v 1 = 0 → (bytesF d v).length ≤ 1152921504606846976) : CtP Try.prog 25 [.agg cs.toArray] B (i64 (CheckF d v)) := by
  obtain ⟨Ap, cp, An, cn, rfl⟩ := ValR.shape h
  refine CtB.of_body Try.func25 rfl (nt := 13) rfl (by kernel_rfl) rfl ?_
  intro N0 w0 R
  refine Cx.seq (fun K1 k1 => ?_)
  refine Cx.region ?_
  refine Lx.new (boxA rfl) rfl (fun b1 => ?_)
  refine Lx.y (asg rfl) rfl ?_
  refine Lx.nil ?_
  refine Xx.tn (k1 _ _ _ _ ?_)
  refine Cx.seq (fun K2 k2 => ?_)
  refine Cx.seq (fun K3 k3 => ?_)
  refine Cx.region ?_
  refine Lx.y (ldA Try.underlying53 rfl sz53 rfl (Cells.own (n := 6) PickB.eq rfl) rfl) rfl ?_
  refine Lx.cp rfl rfl rfl (shape_ct d v _ 1 _ h (by decide) (by decide)) rfl ?_
  refine Lx.y (asg rfl) rfl ?_
  refine Lx.nil ?_
  refine Xx.tn (k3 _ _ _ _ ?_)
  refine Cx.seq (fun K4 k4 => ?_)
  refine Cx.region ?_
  refine Lx.y (mv rfl) rfl ?_
  refine Lx.y (neI rfl rfl) rfl ?_
  refine Lx.nil ?_
  refine Xx.tn (k4 _ _ _ _ ?_)
  refine Cx.condN rfl (fun h5 => ?_) (fun h5 => ?_)
  · skip
    have z1 := h5
    refine Cx.seq (fun K6 k6 => ?_)
    refine Cx.region ?_
    refine Lx.y (mv rfl) rfl ?_
    refine Lx.y (asg rfl) rfl ?_
    refine Lx.nil ?_
    refine Xx.tn (k6 _ _ _ _ ?_)
    refine Cx.ret ?_
    refine Xx.tr ?_
    refine Xx.dropB b1 (Xx.rB1 rfl rfl ⟨congrArg (fun z : Int => i64 z) ?_, rfl⟩ (Frag.le_refl _) rfl)
    first | (unfold CheckF; rw [if_neg z1]) | (unfold CheckF; rw [if_pos z1, if_pos (by omega)]) | (unfold CheckF; rw [if_pos z1, if_neg (by omega)])
  · skip
    have z1 : checkF d v 1 = 0 := h5
    refine Cx.skip ?_
    refine Xx.tn (k2 _ _ _ _ ?_)
    refine Cx.seq (fun K7 k7 => ?_)
    refine Cx.seq (fun K8 k8 => ?_)
    refine Cx.region ?_
    refine Lx.y (ldA Try.underlying53 rfl sz53 rfl (Cells.own (n := 6) PickB.eq rfl) rfl) rfl ?_
    refine Lx.cp rfl rfl rfl (RBytes_ct d v _ _ _ h z1 (hb z1)) rfl ?_
    refine Lx.y (lenS Try.underlying9 rfl) rfl ?_
    refine Lx.y (gtr rfl rfl) rfl ?_
    refine Lx.nil ?_
    refine Xx.tn (k8 _ _ _ _ ?_)
    refine Cx.condD rfl (fun h9 => ?_) (fun h9 => ?_)
    · skip
      have z2 := h9
      refine Cx.seq (fun K10 k10 => ?_)
      refine Cx.region ?_
      refine Lx.y (asg rfl) rfl ?_
      refine Lx.nil ?_
      refine Xx.tn (k10 _ _ _ _ ?_)
      refine Cx.ret ?_
      refine Xx.tr ?_
      refine Xx.dropB b1 (Xx.rB1 rfl rfl ⟨congrArg (fun z : Int => i64 z) ?_, rfl⟩ (Frag.le_refl _) rfl)
      first | (unfold CheckF; rw [if_neg z1]) | (unfold CheckF; rw [if_pos z1, if_pos (by omega)]) | (unfold CheckF; rw [if_pos z1, if_neg (by omega)])
    · skip
      have z2 := h9
      refine Cx.skip ?_
      refine Xx.tn (k7 _ _ _ _ ?_)
      refine Cx.seq (fun K11 k11 => ?_)
      refine Cx.region ?_
      refine Lx.y (asg rfl) rfl ?_
      refine Lx.nil ?_
      refine Xx.tn (k11 _ _ _ _ ?_)
      refine Cx.ret ?_
      refine Xx.dropB b1 (Xx.rB1 rfl rfl ⟨congrArg (fun z : Int => i64 z) ?_, rfl⟩ (Frag.le_refl _) rfl)
      first | (unfold CheckF; rw [if_neg z1]) | (unfold CheckF; rw [if_pos z1, if_pos (by omega)]) | (unfold CheckF; rw [if_pos z1, if_neg (by omega)])
end KeH
end Go.Proofs.Ytcoiejmlpinpbaa
