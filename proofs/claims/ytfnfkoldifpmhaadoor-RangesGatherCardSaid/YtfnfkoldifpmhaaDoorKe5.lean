/-
  Values: names, which fields are bare, which names may be.
-/
import Derived.Test.YtfnfkoldifpmhaaDoorProg
import Derived.Test.YtfnfkoldifpmhaaDoorSlj
import Derived.Test.YtfnfkoldifpmhaaDoorKe4
namespace Go.Proofs.YtfnfkoldifpmhaaDoor
open Go.SL Go.RowKit
set_option linter.unusedVariables false
set_option linter.unusedSimpArgs false
set_option maxRecDepth 100000
open Ke1 Ke3 Ke4
namespace Ke5


abbrev LP (c : UInt8) : Prop := 97 ≤ c.toNat ∧ c.toNat ≤ 122 ∨ 65 ≤ c.toNat ∧ c.toNat ≤ 90 ∨ c.toNat = 95
def okAt (s : List UInt8) (i : Nat) : Prop := LP (s.getD i 0) ∨ i ≠ 0 ∧ 48 ≤ (s.getD i 0).toNat ∧ (s.getD i 0).toNat ≤ 57
def NameP (s : List UInt8) : Prop := (∀ i, i < s.length → okAt s i) ∧ 1 ≤ s.length ∧ s.length ≤ 16
noncomputable def nameB (s : List UInt8) : Bool := @decide (NameP s) (Classical.propDecidable _)
theorem nameB_yes {s : List UInt8} (h : NameP s) : nameB s = true := by unfold nameB; exact @decide_eq_true _ (Classical.propDecidable _) h
theorem nameB_no {s : List UInt8} (h : ¬ NameP s) : nameB s = false := by unfold nameB; exact @decide_eq_false _ (Classical.propDecidable _) h
theorem nameB_len {s : List UInt8} (h : ∀ i, i < s.length → okAt s i) (h1 : (1 : Int) ≤ (s.length : Nat)) : decide (((s.length : Nat) : Int) ≤ 16) = nameB s := by
  by_cases h2 : s.length ≤ 16
  · rw [nameB_yes ⟨h, by omega, h2⟩]; exact decide_eq_true (by omega)
  · rw [nameB_no (fun z => h2 z.2.2)]; exact decide_eq_false (by omega)

set_option maxHeartbeats 1000000 in
theorem Name_ct (s : List UInt8) (B : Frag) (hs : s.length ≤ 4611686018427387904) : CtP Tryd.prog 71 [str s] B (.bool (nameB s)) := by
  refine CtB.of_body Tryd.func71 rfl (nt := 55) rfl (by kernel_rfl) rfl ?_
  intro N0 w0 R
  refine Cx.seq (fun K1 k1 => ?_)
  refine Cx.region ?_
  refine Lx.y (asg rfl) rfl ?_
  refine Lx.nil ?_
  refine Xx.tn (k1 _ _ _ _ ?_)
  refine Cx.seq (fun K2 k2 => ?_)
  refine Cx.seq (fun K3 k3 => ?_)
  refine Cx.region ?_
  refine Lx.y (mv rfl) rfl ?_
  refine Lx.y (lenS Tryd.underlying9 rfl) rfl ?_
  refine Lx.y (mv rfl) rfl ?_
  refine Lx.nil ?_
  refine Xx.tn (k3 _ _ _ _ ?_)
  refine Cx.block ?_
  refine Cx.loopK (Sub.cons (s := 0) rfl (Sub.cons (s := 6) rfl (Sub.cons (s := 7) rfl (Sub.nil _)))) (fun m ρ' B' H' => ∃ (i : Nat), (i ≤ s.length ∧ ∀ k, k < i → okAt s k) ∧ m = s.length - i ∧ ρ' = [(8, i64 i)] ∧ B = B' ∧ R = H') ⟨0, ⟨by omega, fun k h => absurd h (by omega)⟩, rfl, rfl, rfl, rfl⟩ (Sub.cons (s := 8) rfl (Sub.cons (s := 0) rfl (Sub.cons (s := 6) rfl (Sub.cons (s := 7) rfl (Sub.nil _))))) ?_
  rintro m ρ' B' H' ⟨i, ⟨hi, hall⟩, rfl, rfl, rfl, rfl⟩
  refine Cx.seq (fun K4 k4 => ?_)
  refine Cx.region ?_
  refine Lx.y (lss rfl rfl) rfl ?_
  refine Lx.nil ?_
  refine Xx.tn (k4 _ _ _ _ ?_)
  refine Cx.seq (fun K5 k5 => ?_)
  refine Cx.condD rfl (fun h6 => ?_) (fun h6 => ?_)
  · skip
    refine Cx.skip ?_
    refine Xx.tn (k5 _ _ _ _ ?_)
    refine Cx.seq (fun K7 k7 => ?_)
    refine Cx.block ?_
    refine Cx.seq (fun K8 k8 => ?_)
    refine Cx.region ?_
    refine Lx.y (mv rfl) rfl ?_
    refine Lx.y (asg rfl) rfl ?_
    refine Lx.nil ?_
    refine Xx.tn (k8 _ _ _ _ ?_)
    refine Cx.seq (fun K9 k9 => ?_)
    refine Cx.region ?_
    refine Lx.y (mv rfl) rfl ?_
    refine Lx.y (mv rfl) rfl ?_
    refine Lx.y (ixS Tryd.underlying9 rfl rfl (by first | exact Int.toNat_natCast _ | rfl) (by omega) (by omega)) rfl ?_
    refine Lx.y (asg rfl) rfl ?_
    refine Lx.nil ?_
    refine Xx.tn (k9 _ _ _ _ ?_)
    refine Cx.cutK (ds' := []) (Sub.cons (s := 0) rfl (Sub.cons (s := 3) rfl (Sub.cons (s := 4) rfl (Sub.cons (s := 6) rfl (Sub.cons (s := 7) rfl (Sub.cons (s := 8) rfl (Sub.cons (s := 9) rfl (Sub.cons (s := 10) rfl (Sub.cons (s := 11) rfl (Sub.cons (s := 12) rfl (Sub.cons (s := 13) rfl (Sub.nil _)))))))))))) (fun ρ' B' H' => ρ' = [(5, .bool (decide (LP (s.getD i 0))))] ∧ B = B' ∧ R = H') ?_ ?_
    · skip
      refine Cx.region ?_
      refine Lx.y (mv rfl) rfl ?_
      refine Lx.y (geq rfl rfl) rfl ?_
      refine Lx.y (mv rfl) rfl ?_
      refine Xx.ifD (t := 16) rfl (fun h10 => ?_) (fun h10 => ?_)
      · skip
        refine Lx.gT rfl rfl rfl ?_
        refine Lx.y (mv rfl) rfl ?_
        refine Lx.gT rfl rfl rfl ?_
        refine Lx.y (leq rfl rfl) rfl ?_
        refine Lx.y (pickT rfl rfl) rfl ?_
        refine Lx.y (mv rfl) rfl ?_
        refine Xx.ifD (t := 20) rfl (fun h11 => ?_) (fun h11 => ?_)
        · skip
          refine Lx.gF rfl rfl rfl rfl ?_
          refine Lx.gF rfl rfl rfl rfl ?_
          refine Lx.gF rfl rfl rfl rfl ?_
          refine Lx.gU rfl rfl rfl rfl ?_
          refine Lx.gU rfl rfl rfl rfl ?_
          refine Lx.gF rfl rfl rfl rfl ?_
          refine Lx.y (pickT rfl rfl) rfl ?_
          refine Lx.y (mv rfl) rfl ?_
          refine Lx.gF rfl rfl rfl rfl ?_
          refine Lx.gF rfl rfl rfl rfl ?_
          refine Lx.y (pickT rfl rfl) rfl ?_
          refine Lx.y (asg rfl) rfl ?_
          refine Lx.nil ?_
          exact Xx.mkK (⟨rfl, rfl, rfl⟩) (Sub.consE (s := 5) rfl (by first | exact congrArg Value.bool (decide_eq_true (by omega)).symm | exact congrArg Value.bool (decide_eq_false (by omega)).symm | exact congrArg Value.bool (decide_eq_decide.2 (by omega))) (Sub.cons (s := 0) rfl (Sub.cons (s := 3) rfl (Sub.cons (s := 4) rfl (Sub.cons (s := 6) rfl (Sub.cons (s := 7) rfl (Sub.cons (s := 8) rfl (Sub.cons (s := 9) rfl (Sub.cons (s := 10) rfl (Sub.cons (s := 11) rfl (Sub.cons (s := 12) rfl (Sub.cons (s := 13) rfl (Sub.nil _)))))))))))))
        · skip
          refine Lx.gT rfl rfl rfl ?_
          refine Lx.y (mv rfl) rfl ?_
          refine Lx.gT rfl rfl rfl ?_
          refine Lx.y (geq rfl rfl) rfl ?_
          refine Lx.gT rfl rfl rfl ?_
          refine Lx.y (mv rfl) rfl ?_
          refine Xx.ifD (t := 23) rfl (fun h12 => ?_) (fun h12 => ?_)
          · skip
            refine Lx.gT rfl rfl rfl ?_
            refine Lx.y (mv rfl) rfl ?_
            refine Lx.gT rfl rfl rfl ?_
            refine Lx.y (leq rfl rfl) rfl ?_
            refine Lx.gT rfl rfl rfl ?_
            refine Lx.y (pickT rfl rfl) rfl ?_
            refine Lx.y (pickF rfl rfl) rfl ?_
            refine Lx.y (mv rfl) rfl ?_
            refine Xx.ifD (t := 28) rfl (fun h13 => ?_) (fun h13 => ?_)
            · skip
              refine Lx.gF rfl rfl rfl rfl ?_
              refine Lx.gF rfl rfl rfl rfl ?_
              refine Lx.y (pickT rfl rfl) rfl ?_
              refine Lx.y (asg rfl) rfl ?_
              refine Lx.nil ?_
              exact Xx.mkK (⟨rfl, rfl, rfl⟩) (Sub.consE (s := 5) rfl (by first | exact congrArg Value.bool (decide_eq_true (by omega)).symm | exact congrArg Value.bool (decide_eq_false (by omega)).symm | exact congrArg Value.bool (decide_eq_decide.2 (by omega))) (Sub.cons (s := 0) rfl (Sub.cons (s := 3) rfl (Sub.cons (s := 4) rfl (Sub.cons (s := 6) rfl (Sub.cons (s := 7) rfl (Sub.cons (s := 8) rfl (Sub.cons (s := 9) rfl (Sub.cons (s := 10) rfl (Sub.cons (s := 11) rfl (Sub.cons (s := 12) rfl (Sub.cons (s := 13) rfl (Sub.nil _)))))))))))))
            · skip
              refine Lx.gT rfl rfl rfl ?_
              refine Lx.y (mv rfl) rfl ?_
              refine Lx.gT rfl rfl rfl ?_
              refine Lx.y (eqI rfl rfl) rfl ?_
              refine Lx.y (pickF rfl rfl) rfl ?_
              refine Lx.y (asg rfl) rfl ?_
              refine Lx.nil ?_
              exact Xx.mkK (⟨rfl, rfl, rfl⟩) (Sub.consE (s := 5) rfl (by first | exact congrArg Value.bool (decide_eq_true (by omega)).symm | exact congrArg Value.bool (decide_eq_false (by omega)).symm | exact congrArg Value.bool (decide_eq_decide.2 (by omega))) (Sub.cons (s := 0) rfl (Sub.cons (s := 3) rfl (Sub.cons (s := 4) rfl (Sub.cons (s := 6) rfl (Sub.cons (s := 7) rfl (Sub.cons (s := 8) rfl (Sub.cons (s := 9) rfl (Sub.cons (s := 10) rfl (Sub.cons (s := 11) rfl (Sub.cons (s := 12) rfl (Sub.cons (s := 13) rfl (Sub.nil _)))))))))))))
          · skip
            refine Lx.gF rfl rfl rfl rfl ?_
            refine Lx.gF rfl rfl rfl rfl ?_
            refine Lx.gT rfl rfl rfl ?_
            refine Lx.y (pickF rfl rfl) rfl ?_
            refine Lx.y (pickF rfl rfl) rfl ?_
            refine Lx.y (mv rfl) rfl ?_
            refine Lx.gT rfl rfl rfl ?_
            refine Lx.y (mv rfl) rfl ?_
            refine Lx.gT rfl rfl rfl ?_
            refine Lx.y (eqI rfl rfl) rfl ?_
            refine Lx.y (pickF rfl rfl) rfl ?_
            refine Lx.y (asg rfl) rfl ?_
            refine Lx.nil ?_
            exact Xx.mkK (⟨rfl, rfl, rfl⟩) (Sub.consE (s := 5) rfl (by first | exact congrArg Value.bool (decide_eq_true (by omega)).symm | exact congrArg Value.bool (decide_eq_false (by omega)).symm | exact congrArg Value.bool (decide_eq_decide.2 (by omega))) (Sub.cons (s := 0) rfl (Sub.cons (s := 3) rfl (Sub.cons (s := 4) rfl (Sub.cons (s := 6) rfl (Sub.cons (s := 7) rfl (Sub.cons (s := 8) rfl (Sub.cons (s := 9) rfl (Sub.cons (s := 10) rfl (Sub.cons (s := 11) rfl (Sub.cons (s := 12) rfl (Sub.cons (s := 13) rfl (Sub.nil _)))))))))))))
      · skip
        refine Lx.gF rfl rfl rfl rfl ?_
        refine Lx.gF rfl rfl rfl rfl ?_
        refine Lx.y (pickF rfl rfl) rfl ?_
        refine Lx.y (mv rfl) rfl ?_
        refine Lx.gT rfl rfl rfl ?_
        refine Lx.y (mv rfl) rfl ?_
        refine Lx.gT rfl rfl rfl ?_
        refine Lx.y (geq rfl rfl) rfl ?_
        refine Lx.gT rfl rfl rfl ?_
        refine Lx.y (mv rfl) rfl ?_
        refine Xx.ifD (t := 23) rfl (fun h14 => ?_) (fun h14 => ?_)
        · skip
          refine Lx.gT rfl rfl rfl ?_
          refine Lx.y (mv rfl) rfl ?_
          refine Lx.gT rfl rfl rfl ?_
          refine Lx.y (leq rfl rfl) rfl ?_
          refine Lx.gT rfl rfl rfl ?_
          refine Lx.y (pickT rfl rfl) rfl ?_
          refine Lx.y (pickF rfl rfl) rfl ?_
          refine Lx.y (mv rfl) rfl ?_
          refine Xx.ifD (t := 28) rfl (fun h15 => ?_) (fun h15 => ?_)
          · skip
            refine Lx.gF rfl rfl rfl rfl ?_
            refine Lx.gF rfl rfl rfl rfl ?_
            refine Lx.y (pickT rfl rfl) rfl ?_
            refine Lx.y (asg rfl) rfl ?_
            refine Lx.nil ?_
            exact Xx.mkK (⟨rfl, rfl, rfl⟩) (Sub.consE (s := 5) rfl (by first | exact congrArg Value.bool (decide_eq_true (by omega)).symm | exact congrArg Value.bool (decide_eq_false (by omega)).symm | exact congrArg Value.bool (decide_eq_decide.2 (by omega))) (Sub.cons (s := 0) rfl (Sub.cons (s := 3) rfl (Sub.cons (s := 4) rfl (Sub.cons (s := 6) rfl (Sub.cons (s := 7) rfl (Sub.cons (s := 8) rfl (Sub.cons (s := 9) rfl (Sub.cons (s := 10) rfl (Sub.cons (s := 11) rfl (Sub.cons (s := 12) rfl (Sub.cons (s := 13) rfl (Sub.nil _)))))))))))))
          · skip
            refine Lx.gT rfl rfl rfl ?_
            refine Lx.y (mv rfl) rfl ?_
            refine Lx.gT rfl rfl rfl ?_
            refine Lx.y (eqI rfl rfl) rfl ?_
            refine Lx.y (pickF rfl rfl) rfl ?_
            refine Lx.y (asg rfl) rfl ?_
            refine Lx.nil ?_
            exact Xx.mkK (⟨rfl, rfl, rfl⟩) (Sub.consE (s := 5) rfl (by first | exact congrArg Value.bool (decide_eq_true (by omega)).symm | exact congrArg Value.bool (decide_eq_false (by omega)).symm | exact congrArg Value.bool (decide_eq_decide.2 (by omega))) (Sub.cons (s := 0) rfl (Sub.cons (s := 3) rfl (Sub.cons (s := 4) rfl (Sub.cons (s := 6) rfl (Sub.cons (s := 7) rfl (Sub.cons (s := 8) rfl (Sub.cons (s := 9) rfl (Sub.cons (s := 10) rfl (Sub.cons (s := 11) rfl (Sub.cons (s := 12) rfl (Sub.cons (s := 13) rfl (Sub.nil _)))))))))))))
        · skip
          refine Lx.gF rfl rfl rfl rfl ?_
          refine Lx.gF rfl rfl rfl rfl ?_
          refine Lx.gT rfl rfl rfl ?_
          refine Lx.y (pickF rfl rfl) rfl ?_
          refine Lx.y (pickF rfl rfl) rfl ?_
          refine Lx.y (mv rfl) rfl ?_
          refine Lx.gT rfl rfl rfl ?_
          refine Lx.y (mv rfl) rfl ?_
          refine Lx.gT rfl rfl rfl ?_
          refine Lx.y (eqI rfl rfl) rfl ?_
          refine Lx.y (pickF rfl rfl) rfl ?_
          refine Lx.y (asg rfl) rfl ?_
          refine Lx.nil ?_
          exact Xx.mkK (⟨rfl, rfl, rfl⟩) (Sub.consE (s := 5) rfl (by first | exact congrArg Value.bool (decide_eq_true (by omega)).symm | exact congrArg Value.bool (decide_eq_false (by omega)).symm | exact congrArg Value.bool (decide_eq_decide.2 (by omega))) (Sub.cons (s := 0) rfl (Sub.cons (s := 3) rfl (Sub.cons (s := 4) rfl (Sub.cons (s := 6) rfl (Sub.cons (s := 7) rfl (Sub.cons (s := 8) rfl (Sub.cons (s := 9) rfl (Sub.cons (s := 10) rfl (Sub.cons (s := 11) rfl (Sub.cons (s := 12) rfl (Sub.cons (s := 13) rfl (Sub.nil _)))))))))))))
    · rintro ρ' B' H' ⟨rfl, rfl, rfl⟩
      have hil : i < s.length := by omega
      refine Cx.seq (fun K16 k16 => ?_)
      refine Cx.region ?_
      refine Lx.y (mv rfl) rfl ?_
      refine Lx.y (not' rfl) rfl ?_
      refine Lx.y (mv rfl) rfl ?_
      refine Xx.ifB (t := 34) rfl (fun h17 => ?_) (fun h17 => ?_)
      · skip
        have hl : ¬ LP (s.getD i 0) := of_decide_eq_false ((Bool.not_eq_true' _).mp h17)
        refine Lx.gT rfl rfl rfl ?_
        refine Lx.y (mv rfl) rfl ?_
        refine Lx.gT rfl rfl rfl ?_
        refine Lx.y (eqI rfl rfl) rfl ?_
        refine Lx.gT rfl rfl rfl ?_
        refine Lx.y (mv rfl) rfl ?_
        refine Xx.ifD (t := 37) rfl (fun h18 => ?_) (fun h18 => ?_)
        · skip
          refine Lx.gF rfl rfl rfl rfl ?_
          refine Lx.gF rfl rfl rfl rfl ?_
          refine Lx.gT rfl rfl rfl ?_
          refine Lx.y (pickT rfl rfl) rfl ?_
          refine Lx.gT rfl rfl rfl ?_
          refine Lx.y (mv rfl) rfl ?_
          refine Lx.gF rfl rfl rfl rfl ?_
          refine Lx.gF rfl rfl rfl rfl ?_
          refine Lx.gT rfl rfl rfl ?_
          refine Lx.y (pickT rfl rfl) rfl ?_
          refine Lx.y (pickT rfl rfl) rfl ?_
          refine Lx.nil ?_
          refine Xx.tn (k16 _ _ _ _ ?_)
          refine Cx.condT rfl ?_
          refine Cx.seq (fun K19 k19 => ?_)
          refine Cx.region ?_
          refine Lx.y (asg rfl) rfl ?_
          refine Lx.nil ?_
          refine Xx.tn (k19 _ _ _ _ ?_)
          refine Cx.ret ?_
          refine Xx.br ?_
          refine Xx.tr ?_
          refine Xx.tr ?_
          refine Xx.br ?_
          refine Xx.tr ?_
          first | exact Xx.rB1 rfl rfl ⟨congrArg Value.bool (nameB_no (fun h => by have := h.1 i hil; unfold okAt at this; omega)).symm, rfl⟩ (Frag.le_refl _) rfl | exact Xx.rB1 rfl rfl ⟨congrArg Value.bool (nameB_len hall hge), rfl⟩ (Frag.le_refl _) rfl | exact Xx.rB1 rfl rfl ⟨congrArg Value.bool (nameB_no (fun h => by have := h.2.1; omega)).symm, rfl⟩ (Frag.le_refl _) rfl
        · skip
          refine Lx.gT rfl rfl rfl ?_
          refine Lx.y (mv rfl) rfl ?_
          refine Lx.gT rfl rfl rfl ?_
          refine Lx.y (lss rfl rfl) rfl ?_
          refine Lx.gT rfl rfl rfl ?_
          refine Lx.y (pickF rfl rfl) rfl ?_
          refine Lx.gT rfl rfl rfl ?_
          refine Lx.y (mv rfl) rfl ?_
          refine Xx.ifD (t := 41) rfl (fun h20 => ?_) (fun h20 => ?_)
          · skip
            refine Lx.gF rfl rfl rfl rfl ?_
            refine Lx.gF rfl rfl rfl rfl ?_
            refine Lx.gT rfl rfl rfl ?_
            refine Lx.y (pickT rfl rfl) rfl ?_
            refine Lx.y (pickT rfl rfl) rfl ?_
            refine Lx.nil ?_
            refine Xx.tn (k16 _ _ _ _ ?_)
            refine Cx.condT rfl ?_
            refine Cx.seq (fun K21 k21 => ?_)
            refine Cx.region ?_
            refine Lx.y (asg rfl) rfl ?_
            refine Lx.nil ?_
            refine Xx.tn (k21 _ _ _ _ ?_)
            refine Cx.ret ?_
            refine Xx.br ?_
            refine Xx.tr ?_
            refine Xx.tr ?_
            refine Xx.br ?_
            refine Xx.tr ?_
            first | exact Xx.rB1 rfl rfl ⟨congrArg Value.bool (nameB_no (fun h => by have := h.1 i hil; unfold okAt at this; omega)).symm, rfl⟩ (Frag.le_refl _) rfl | exact Xx.rB1 rfl rfl ⟨congrArg Value.bool (nameB_len hall hge), rfl⟩ (Frag.le_refl _) rfl | exact Xx.rB1 rfl rfl ⟨congrArg Value.bool (nameB_no (fun h => by have := h.2.1; omega)).symm, rfl⟩ (Frag.le_refl _) rfl
          · skip
            refine Lx.gT rfl rfl rfl ?_
            refine Lx.y (mv rfl) rfl ?_
            refine Lx.gT rfl rfl rfl ?_
            refine Lx.y (gtr rfl rfl) rfl ?_
            refine Lx.gT rfl rfl rfl ?_
            refine Lx.y (pickF rfl rfl) rfl ?_
            refine Lx.y (pickT rfl rfl) rfl ?_
            refine Lx.nil ?_
            refine Xx.tn (k16 _ _ _ _ ?_)
            refine Cx.condD rfl (fun h22 => ?_) (fun h22 => ?_)
            · skip
              refine Cx.seq (fun K23 k23 => ?_)
              refine Cx.region ?_
              refine Lx.y (asg rfl) rfl ?_
              refine Lx.nil ?_
              refine Xx.tn (k23 _ _ _ _ ?_)
              refine Cx.ret ?_
              refine Xx.br ?_
              refine Xx.tr ?_
              refine Xx.tr ?_
              refine Xx.br ?_
              refine Xx.tr ?_
              first | exact Xx.rB1 rfl rfl ⟨congrArg Value.bool (nameB_no (fun h => by have := h.1 i hil; unfold okAt at this; omega)).symm, rfl⟩ (Frag.le_refl _) rfl | exact Xx.rB1 rfl rfl ⟨congrArg Value.bool (nameB_len hall hge), rfl⟩ (Frag.le_refl _) rfl | exact Xx.rB1 rfl rfl ⟨congrArg Value.bool (nameB_no (fun h => by have := h.2.1; omega)).symm, rfl⟩ (Frag.le_refl _) rfl
            · skip
              refine Cx.skip ?_
              refine Xx.bn ?_
              refine Xx.tn (k7 _ _ _ _ ?_)
              refine Cx.region ?_
              refine Lx.y (add rfl rfl (by first | exact wrap64 (by omega) (by omega) | rfl)) rfl ?_
              refine Lx.y (mv rfl) rfl ?_
              refine Lx.nil ?_
              exact Xx.againK ⟨i + 1, ⟨by omega, fun k hk => by
  by_cases e : k = i
  · subst e; unfold okAt; omega
  · exact hall k (by omega)⟩, rfl, rfl, rfl, rfl⟩ (by omega) (Sub.cons (s := 8) rfl (Sub.cons (s := 0) rfl (Sub.cons (s := 6) rfl (Sub.cons (s := 7) rfl (Sub.nil _)))))
      · skip
        have hl : LP (s.getD i 0) := of_decide_eq_true ((Bool.not_eq_false' _).mp h17)
        refine Lx.gF rfl rfl rfl rfl ?_
        refine Lx.gF rfl rfl rfl rfl ?_
        refine Lx.gF rfl rfl rfl rfl ?_
        refine Lx.gU rfl rfl rfl rfl ?_
        refine Lx.gU rfl rfl rfl rfl ?_
        refine Lx.gF rfl rfl rfl rfl ?_
        refine Lx.gF rfl rfl rfl rfl ?_
        refine Lx.gU rfl rfl rfl rfl ?_
        refine Lx.gU rfl rfl rfl rfl ?_
        refine Lx.gF rfl rfl rfl rfl ?_
        refine Lx.y (pickF rfl rfl) rfl ?_
        refine Lx.nil ?_
        refine Xx.tn (k16 _ _ _ _ ?_)
        refine Cx.condF rfl ?_
        refine Cx.skip ?_
        refine Xx.bn ?_
        refine Xx.tn (k7 _ _ _ _ ?_)
        refine Cx.region ?_
        refine Lx.y (add rfl rfl (by first | exact wrap64 (by omega) (by omega) | rfl)) rfl ?_
        refine Lx.y (mv rfl) rfl ?_
        refine Lx.nil ?_
        exact Xx.againK ⟨i + 1, ⟨by omega, fun k hk => by
  by_cases e : k = i
  · subst e; unfold okAt; omega
  · exact hall k (by omega)⟩, rfl, rfl, rfl, rfl⟩ (by omega) (Sub.cons (s := 8) rfl (Sub.cons (s := 0) rfl (Sub.cons (s := 6) rfl (Sub.cons (s := 7) rfl (Sub.nil _)))))
  · skip
    obtain rfl : i = s.length := by omega
    refine Cx.exit ?_
    refine Xx.te ?_
    refine Xx.te ?_
    refine Xx.bh ?_
    refine Xx.tn (k2 _ _ _ _ ?_)
    refine Cx.seq (fun K24 k24 => ?_)
    refine Cx.region ?_
    refine Lx.y (mv rfl) rfl ?_
    refine Lx.y (lenS Tryd.underlying9 rfl) rfl ?_
    refine Lx.y (geq rfl rfl) rfl ?_
    refine Lx.y (mv rfl) rfl ?_
    refine Xx.ifD (t := 50) rfl (fun h25 => ?_) (fun h25 => ?_)
    · skip
      have hge := h25
      refine Lx.gT rfl rfl rfl ?_
      refine Lx.y (mv rfl) rfl ?_
      refine Lx.gT rfl rfl rfl ?_
      refine Lx.y (lenS Tryd.underlying9 rfl) rfl ?_
      refine Lx.gT rfl rfl rfl ?_
      refine Lx.y (leq rfl rfl) rfl ?_
      refine Lx.y (pickT rfl rfl) rfl ?_
      refine Lx.y (asg rfl) rfl ?_
      refine Lx.nil ?_
      refine Xx.tn (k24 _ _ _ _ ?_)
      refine Cx.ret ?_
      first | exact Xx.rB1 rfl rfl ⟨congrArg Value.bool (nameB_no (fun h => by have := h.1 i hil; unfold okAt at this; omega)).symm, rfl⟩ (Frag.le_refl _) rfl | exact Xx.rB1 rfl rfl ⟨congrArg Value.bool (nameB_len hall hge), rfl⟩ (Frag.le_refl _) rfl | exact Xx.rB1 rfl rfl ⟨congrArg Value.bool (nameB_no (fun h => by have := h.2.1; omega)).symm, rfl⟩ (Frag.le_refl _) rfl
    · skip
      refine Lx.gF rfl rfl rfl rfl ?_
      refine Lx.gF rfl rfl rfl rfl ?_
      refine Lx.gF rfl rfl rfl rfl ?_
      refine Lx.y (pickF rfl rfl) rfl ?_
      refine Lx.y (asg rfl) rfl ?_
      refine Lx.nil ?_
      refine Xx.tn (k24 _ _ _ _ ?_)
      refine Cx.ret ?_
      first | exact Xx.rB1 rfl rfl ⟨congrArg Value.bool (nameB_no (fun h => by have := h.1 i hil; unfold okAt at this; omega)).symm, rfl⟩ (Frag.le_refl _) rfl | exact Xx.rB1 rfl rfl ⟨congrArg Value.bool (nameB_len hall hge), rfl⟩ (Frag.le_refl _) rfl | exact Xx.rB1 rfl rfl ⟨congrArg Value.bool (nameB_no (fun h => by have := h.2.1; omega)).symm, rfl⟩ (Frag.le_refl _) rfl
end Ke5
end Go.Proofs.YtfnfkoldifpmhaaDoor
