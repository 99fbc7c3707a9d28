/-
  Texts of this seat, one behind the other: VhG, VhH, VhI, VhJ, VhK, VhL, VhM, VhN, VhO, DkA.
-/
import Derived.Test.YthlfffbcligocaaGreatProg
import Derived.Test.YthlfffbcligocaaGreatMf3
set_option linter.unusedSimpArgs false
set_option linter.unusedVariables false
namespace Go.Proofs.YthlfffbcligocaaGreat
open Go.SL Go.RowKit
set_option maxRecDepth 100000
namespace VhG
theorem ti5 : TI Tryz.prog 5 [.int .u8 0] 1 1 := TI.of (by kernel_rfl) rfl rfl
abbrev LP (c : UInt8) : Prop := 97 ≤ c.toNat ∧ c.toNat ≤ 122 ∨ 65 ≤ c.toNat ∧ c.toNat ≤ 90 ∨ c.toNat = 95
def okAt (s : List UInt8) (i : Nat) : Prop := LP (s.getD i 0) ∨ i ≠ 0 ∧ 48 ≤ (s.getD i 0).toNat ∧ (s.getD i 0).toNat ≤ 57
def NameP (s : List UInt8) : Prop := (∀ i, i < s.length → okAt s i) ∧ 1 ≤ s.length ∧ s.length ≤ 16
noncomputable def nameB (s : List UInt8) : Bool := @decide (NameP s) (Classical.propDecidable _)
theorem nameB_yes {s : List UInt8} (h : NameP s) : nameB s = true := by unfold nameB; exact @decide_eq_true _ (Classical.propDecidable _) h
theorem nameB_no {s : List UInt8} (h : ¬ NameP s) : nameB s = false := by unfold nameB; exact @decide_eq_false _ (Classical.propDecidable _) h
theorem nameB_len {s : List UInt8} (h : ∀ i, i < s.length → okAt s i) (h1 : (1 : Int) ≤ (s.length : Nat)) : decide (((s.length : Nat) : Int) ≤ 16) = nameB s := by
  by_cases h2 : s.length ≤ 16
  · rw [nameB_yes ⟨h, by omega, h2⟩]; exact decide_eq_true (by omega)
  · rw [nameB_no (fun z => h2 z.2.2)]; exact decide_eq_false (by omega)
set_option maxHeartbeats 1000000 in
theorem Name_ct (s : List UInt8) (B : Frag) (hs : s.length ≤ 4611686018427387904) : CtP Tryz.prog 94 [str s] B (.bool (nameB s)) := by
 refine CtB.of_body Tryz.func94 rfl (nt := 55) rfl (by kernel_rfl) rfl ?_
 intro N0 w0 R
 refine Cq (fun K1 k1 => ?_)
 refine Cr <| Lx.y (asg rfl) rfl <| Lx.nil <| ?_
 refine Xx.tn (k1 _ _ _ _ ?_)
 refine Cq (fun K2 k2 => ?_)
 refine Cq (fun K3 k3 => ?_)
 refine Cr <| Lx.y (mv rfl) rfl <| Lx.y (lenS U9 rfl) rfl <| Lx.y (mv rfl) rfl <| Lx.nil <| ?_
 refine Xx.tn (k3 _ _ _ _ ?_)
 refine Cx.block ?_
 refine Cx.loopK (Sc 0 rfl (Sc 6 rfl (Sc 7 rfl (Sub.nil _)))) (fun m ρ' B' H' => ∃ (i : Nat), (i ≤ s.length ∧ ∀ k, k < i → okAt s k) ∧ m = s.length - i ∧ ρ' = [(8, i64 i)] ∧ B = B' ∧ R = H') ⟨0, ⟨by omega, fun k h => absurd h (by omega)⟩, rfl, rfl, rfl, rfl⟩ (Sc 8 rfl (Sc 0 rfl (Sc 6 rfl (Sc 7 rfl (Sub.nil _))))) ?_
 rintro m ρ' B' H' ⟨i, ⟨hi, hall⟩, rfl, rfl, rfl, rfl⟩
 refine Cq (fun K4 k4 => ?_)
 refine Cr <| Lx.y (lss rfl rfl) rfl <| Lx.nil <| ?_
 refine Xx.tn (k4 _ _ _ _ ?_)
 refine Cq (fun K5 k5 => ?_)
 refine Cx.condD rfl (fun h6 => ?_) (fun h6 => ?_)
 ·
  refine Cx.skip ?_
  refine Xx.tn (k5 _ _ _ _ ?_)
  refine Cq (fun K7 k7 => ?_)
  refine Cx.block ?_
  refine Cq (fun K8 k8 => ?_)
  refine Cr <| Lx.y (mv rfl) rfl <| Lx.y (asg rfl) rfl <| Lx.nil <| ?_
  refine Xx.tn (k8 _ _ _ _ ?_)
  refine Cq (fun K9 k9 => ?_)
  refine Cr <| Lx.y (mv rfl) rfl <| Lx.y (mv rfl) rfl <| Lx.y (ixS U9 rfl rfl (by first | exact Int.toNat_natCast _ | rfl) (by omega) (by omega)) rfl <| Lx.y (asg rfl) rfl <| Lx.nil <| ?_
  refine Xx.tn (k9 _ _ _ _ ?_)
  refine Cx.cutK (ds' := []) (Sc 0 rfl (Sc 3 rfl (Sc 4 rfl (Sc 6 rfl (Sc 7 rfl (Sc 8 rfl (Sc 9 rfl (Sc 10 rfl (Sc 11 rfl (Sc 12 rfl (Sc 13 rfl (Sub.nil _)))))))))))) (fun ρ' B' H' => ρ' = [(5, .bool (decide (LP (s.getD i 0))))] ∧ B = B' ∧ R = H') ?_ ?_
  ·
   refine Cr <| Lx.y (mv rfl) rfl <| Lx.y (geq rfl rfl) rfl <| Lx.y (mv rfl) rfl <| ?_
   refine Xx.ifD (t := 16) rfl (fun h10 => ?_) (fun h10 => ?_)
   ·
    refine Lx.gT rfl rfl rfl <| Lx.y (mv rfl) rfl <| Lx.gT rfl rfl rfl <| Lx.y (leq rfl rfl) rfl <| Lx.y (pickT rfl rfl) rfl <| Lx.y (mv rfl) rfl <| ?_
    refine Xx.ifD (t := 20) rfl (fun h11 => ?_) (fun h11 => ?_)
    ·
     refine Lx.gF rfl rfl rfl rfl <| Lx.gF rfl rfl rfl rfl <| Lx.gF rfl rfl rfl rfl <| Lx.gU rfl rfl rfl rfl <| Lx.gU rfl rfl rfl rfl <| Lx.gF rfl rfl rfl rfl <| Lx.y (pickT rfl rfl) rfl <| Lx.y (mv rfl) rfl <| Lx.gF rfl rfl rfl rfl <| Lx.gF rfl rfl rfl rfl <| Lx.y (pickT rfl rfl) rfl <| Lx.y (asg rfl) rfl <| ?_
     refine Lx.nil ?_
     exact Xx.mkK (⟨rfl, rfl, rfl⟩) (Sub.consE (s := 5) rfl (by first | exact congrArg Value.bool (decide_eq_true (by omega)).symm | exact congrArg Value.bool (decide_eq_false (by omega)).symm | exact congrArg Value.bool (decide_eq_decide.2 (by omega))) (Sc 0 rfl (Sc 3 rfl (Sc 4 rfl (Sc 6 rfl (Sc 7 rfl (Sc 8 rfl (Sc 9 rfl (Sc 10 rfl (Sc 11 rfl (Sc 12 rfl (Sc 13 rfl (Sub.nil _)))))))))))))
    ·
     refine Lx.gT rfl rfl rfl <| Lx.y (mv rfl) rfl <| Lx.gT rfl rfl rfl <| Lx.y (geq rfl rfl) rfl <| Lx.gT rfl rfl rfl <| Lx.y (mv rfl) rfl <| ?_
     refine Xx.ifD (t := 23) rfl (fun h12 => ?_) (fun h12 => ?_)
     ·
      refine Lx.gT rfl rfl rfl <| Lx.y (mv rfl) rfl <| Lx.gT rfl rfl rfl <| Lx.y (leq rfl rfl) rfl <| Lx.gT rfl rfl rfl <| Lx.y (pickT rfl rfl) rfl <| Lx.y (pickF rfl rfl) rfl <| Lx.y (mv rfl) rfl <| ?_
      refine Xx.ifD (t := 28) rfl (fun h13 => ?_) (fun h13 => ?_)
      ·
       refine Lx.gF rfl rfl rfl rfl <| Lx.gF rfl rfl rfl rfl <| Lx.y (pickT rfl rfl) rfl <| Lx.y (asg rfl) rfl <| Lx.nil <| ?_
       exact Xx.mkK (⟨rfl, rfl, rfl⟩) (Sub.consE (s := 5) rfl (by first | exact congrArg Value.bool (decide_eq_true (by omega)).symm | exact congrArg Value.bool (decide_eq_false (by omega)).symm | exact congrArg Value.bool (decide_eq_decide.2 (by omega))) (Sc 0 rfl (Sc 3 rfl (Sc 4 rfl (Sc 6 rfl (Sc 7 rfl (Sc 8 rfl (Sc 9 rfl (Sc 10 rfl (Sc 11 rfl (Sc 12 rfl (Sc 13 rfl (Sub.nil _)))))))))))))
      ·
       refine Lx.gT rfl rfl rfl <| Lx.y (mv rfl) rfl <| Lx.gT rfl rfl rfl <| Lx.y (eqI rfl rfl) rfl <| Lx.y (pickF rfl rfl) rfl <| Lx.y (asg rfl) rfl <| Lx.nil <| ?_
       exact Xx.mkK (⟨rfl, rfl, rfl⟩) (Sub.consE (s := 5) rfl (by first | exact congrArg Value.bool (decide_eq_true (by omega)).symm | exact congrArg Value.bool (decide_eq_false (by omega)).symm | exact congrArg Value.bool (decide_eq_decide.2 (by omega))) (Sc 0 rfl (Sc 3 rfl (Sc 4 rfl (Sc 6 rfl (Sc 7 rfl (Sc 8 rfl (Sc 9 rfl (Sc 10 rfl (Sc 11 rfl (Sc 12 rfl (Sc 13 rfl (Sub.nil _)))))))))))))
     ·
      refine Lx.gF rfl rfl rfl rfl <| Lx.gF rfl rfl rfl rfl <| Lx.gT rfl rfl rfl <| Lx.y (pickF rfl rfl) rfl <| Lx.y (pickF rfl rfl) rfl <| Lx.y (mv rfl) rfl <| Lx.gT rfl rfl rfl <| Lx.y (mv rfl) rfl <| Lx.gT rfl rfl rfl <| Lx.y (eqI rfl rfl) rfl <| Lx.y (pickF rfl rfl) rfl <| Lx.y (asg rfl) rfl <| ?_
      refine Lx.nil ?_
      exact Xx.mkK (⟨rfl, rfl, rfl⟩) (Sub.consE (s := 5) rfl (by first | exact congrArg Value.bool (decide_eq_true (by omega)).symm | exact congrArg Value.bool (decide_eq_false (by omega)).symm | exact congrArg Value.bool (decide_eq_decide.2 (by omega))) (Sc 0 rfl (Sc 3 rfl (Sc 4 rfl (Sc 6 rfl (Sc 7 rfl (Sc 8 rfl (Sc 9 rfl (Sc 10 rfl (Sc 11 rfl (Sc 12 rfl (Sc 13 rfl (Sub.nil _)))))))))))))
   ·
    refine Lx.gF rfl rfl rfl rfl <| Lx.gF rfl rfl rfl rfl <| Lx.y (pickF rfl rfl) rfl <| Lx.y (mv rfl) rfl <| Lx.gT rfl rfl rfl <| Lx.y (mv rfl) rfl <| Lx.gT rfl rfl rfl <| Lx.y (geq rfl rfl) rfl <| Lx.gT rfl rfl rfl <| Lx.y (mv rfl) rfl <| ?_
    refine Xx.ifD (t := 23) rfl (fun h14 => ?_) (fun h14 => ?_)
    ·
     refine Lx.gT rfl rfl rfl <| Lx.y (mv rfl) rfl <| Lx.gT rfl rfl rfl <| Lx.y (leq rfl rfl) rfl <| Lx.gT rfl rfl rfl <| Lx.y (pickT rfl rfl) rfl <| Lx.y (pickF rfl rfl) rfl <| Lx.y (mv rfl) rfl <| ?_
     refine Xx.ifD (t := 28) rfl (fun h15 => ?_) (fun h15 => ?_)
     ·
      refine Lx.gF rfl rfl rfl rfl <| Lx.gF rfl rfl rfl rfl <| Lx.y (pickT rfl rfl) rfl <| Lx.y (asg rfl) rfl <| Lx.nil <| ?_
      exact Xx.mkK (⟨rfl, rfl, rfl⟩) (Sub.consE (s := 5) rfl (by first | exact congrArg Value.bool (decide_eq_true (by omega)).symm | exact congrArg Value.bool (decide_eq_false (by omega)).symm | exact congrArg Value.bool (decide_eq_decide.2 (by omega))) (Sc 0 rfl (Sc 3 rfl (Sc 4 rfl (Sc 6 rfl (Sc 7 rfl (Sc 8 rfl (Sc 9 rfl (Sc 10 rfl (Sc 11 rfl (Sc 12 rfl (Sc 13 rfl (Sub.nil _)))))))))))))
     ·
      refine Lx.gT rfl rfl rfl <| Lx.y (mv rfl) rfl <| Lx.gT rfl rfl rfl <| Lx.y (eqI rfl rfl) rfl <| Lx.y (pickF rfl rfl) rfl <| Lx.y (asg rfl) rfl <| Lx.nil <| ?_
      exact Xx.mkK (⟨rfl, rfl, rfl⟩) (Sub.consE (s := 5) rfl (by first | exact congrArg Value.bool (decide_eq_true (by omega)).symm | exact congrArg Value.bool (decide_eq_false (by omega)).symm | exact congrArg Value.bool (decide_eq_decide.2 (by omega))) (Sc 0 rfl (Sc 3 rfl (Sc 4 rfl (Sc 6 rfl (Sc 7 rfl (Sc 8 rfl (Sc 9 rfl (Sc 10 rfl (Sc 11 rfl (Sc 12 rfl (Sc 13 rfl (Sub.nil _)))))))))))))
    ·
     refine Lx.gF rfl rfl rfl rfl <| Lx.gF rfl rfl rfl rfl <| Lx.gT rfl rfl rfl <| Lx.y (pickF rfl rfl) rfl <| Lx.y (pickF rfl rfl) rfl <| Lx.y (mv rfl) rfl <| Lx.gT rfl rfl rfl <| Lx.y (mv rfl) rfl <| Lx.gT rfl rfl rfl <| Lx.y (eqI rfl rfl) rfl <| Lx.y (pickF rfl rfl) rfl <| Lx.y (asg rfl) rfl <| ?_
     refine Lx.nil ?_
     exact Xx.mkK (⟨rfl, rfl, rfl⟩) (Sub.consE (s := 5) rfl (by first | exact congrArg Value.bool (decide_eq_true (by omega)).symm | exact congrArg Value.bool (decide_eq_false (by omega)).symm | exact congrArg Value.bool (decide_eq_decide.2 (by omega))) (Sc 0 rfl (Sc 3 rfl (Sc 4 rfl (Sc 6 rfl (Sc 7 rfl (Sc 8 rfl (Sc 9 rfl (Sc 10 rfl (Sc 11 rfl (Sc 12 rfl (Sc 13 rfl (Sub.nil _)))))))))))))
  ·rintro ρ' B' H' ⟨rfl, rfl, rfl⟩
   have hil : i < s.length := by omega
   refine Cq (fun K16 k16 => ?_)
   refine Cr <| Lx.y (mv rfl) rfl <| Lx.y (not' rfl) rfl <| Lx.y (mv rfl) rfl <| ?_
   refine Xx.ifB (t := 34) rfl (fun h17 => ?_) (fun h17 => ?_)
   ·
    have hl : ¬ LP (s.getD i 0) := of_decide_eq_false ((Bool.not_eq_true' _).mp h17)
    refine Lx.gT rfl rfl rfl <| Lx.y (mv rfl) rfl <| Lx.gT rfl rfl rfl <| Lx.y (eqI rfl rfl) rfl <| Lx.gT rfl rfl rfl <| Lx.y (mv rfl) rfl <| ?_
    refine Xx.ifD (t := 37) rfl (fun h18 => ?_) (fun h18 => ?_)
    ·
     refine Lx.gF rfl rfl rfl rfl <| Lx.gF rfl rfl rfl rfl <| Lx.gT rfl rfl rfl <| Lx.y (pickT rfl rfl) rfl <| Lx.gT rfl rfl rfl <| Lx.y (mv rfl) rfl <| Lx.gF rfl rfl rfl rfl <| Lx.gF rfl rfl rfl rfl <| Lx.gT rfl rfl rfl <| Lx.y (pickT rfl rfl) rfl <| Lx.y (pickT rfl rfl) rfl <| Lx.nil <| ?_
     refine Xx.tn (k16 _ _ _ _ ?_)
     refine Cx.condT rfl ?_
     refine Cq (fun K19 k19 => ?_)
     refine Cr <| Lx.y (asg rfl) rfl <| Lx.nil <| ?_
     refine Xx.tn (k19 _ _ _ _ ?_)
     refine Cx.ret ?_
     refine Xx.br ?_
     refine Xx.tr <| Xx.tr <| ?_
     refine Xx.br ?_
     refine Xx.tr ?_
     first | exact Xx.rB1 rfl rfl ⟨congrArg Value.bool (nameB_no (fun h => by have := h.1 i hil; unfold okAt at this; omega)).symm, rfl⟩ (Fl _) rfl | exact Xx.rB1 rfl rfl ⟨congrArg Value.bool (nameB_len hall hge), rfl⟩ (Fl _) rfl | exact Xx.rB1 rfl rfl ⟨congrArg Value.bool (nameB_no (fun h => by have := h.2.1; omega)).symm, rfl⟩ (Fl _) rfl
    ·
     refine Lx.gT rfl rfl rfl <| Lx.y (mv rfl) rfl <| Lx.gT rfl rfl rfl <| Lx.y (lss rfl rfl) rfl <| Lx.gT rfl rfl rfl <| Lx.y (pickF rfl rfl) rfl <| Lx.gT rfl rfl rfl <| Lx.y (mv rfl) rfl <| ?_
     refine Xx.ifD (t := 41) rfl (fun h20 => ?_) (fun h20 => ?_)
     ·
      refine Lx.gF rfl rfl rfl rfl <| Lx.gF rfl rfl rfl rfl <| Lx.gT rfl rfl rfl <| Lx.y (pickT rfl rfl) rfl <| Lx.y (pickT rfl rfl) rfl <| Lx.nil <| ?_
      refine Xx.tn (k16 _ _ _ _ ?_)
      refine Cx.condT rfl ?_
      refine Cq (fun K21 k21 => ?_)
      refine Cr <| Lx.y (asg rfl) rfl <| Lx.nil <| ?_
      refine Xx.tn (k21 _ _ _ _ ?_)
      refine Cx.ret ?_
      refine Xx.br ?_
      refine Xx.tr <| Xx.tr <| ?_
      refine Xx.br ?_
      refine Xx.tr ?_
      first | exact Xx.rB1 rfl rfl ⟨congrArg Value.bool (nameB_no (fun h => by have := h.1 i hil; unfold okAt at this; omega)).symm, rfl⟩ (Fl _) rfl | exact Xx.rB1 rfl rfl ⟨congrArg Value.bool (nameB_len hall hge), rfl⟩ (Fl _) rfl | exact Xx.rB1 rfl rfl ⟨congrArg Value.bool (nameB_no (fun h => by have := h.2.1; omega)).symm, rfl⟩ (Fl _) rfl
     ·
      refine Lx.gT rfl rfl rfl <| Lx.y (mv rfl) rfl <| Lx.gT rfl rfl rfl <| Lx.y (gtr rfl rfl) rfl <| Lx.gT rfl rfl rfl <| Lx.y (pickF rfl rfl) rfl <| Lx.y (pickT rfl rfl) rfl <| Lx.nil <| ?_
      refine Xx.tn (k16 _ _ _ _ ?_)
      refine Cx.condD rfl (fun h22 => ?_) (fun h22 => ?_)
      ·
       refine Cq (fun K23 k23 => ?_)
       refine Cr <| Lx.y (asg rfl) rfl <| Lx.nil <| ?_
       refine Xx.tn (k23 _ _ _ _ ?_)
       refine Cx.ret ?_
       refine Xx.br ?_
       refine Xx.tr <| Xx.tr <| ?_
       refine Xx.br ?_
       refine Xx.tr ?_
       first | exact Xx.rB1 rfl rfl ⟨congrArg Value.bool (nameB_no (fun h => by have := h.1 i hil; unfold okAt at this; omega)).symm, rfl⟩ (Fl _) rfl | exact Xx.rB1 rfl rfl ⟨congrArg Value.bool (nameB_len hall hge), rfl⟩ (Fl _) rfl | exact Xx.rB1 rfl rfl ⟨congrArg Value.bool (nameB_no (fun h => by have := h.2.1; omega)).symm, rfl⟩ (Fl _) rfl
      ·
       refine Cx.skip <| Xx.bn <| ?_
       refine Xx.tn (k7 _ _ _ _ ?_)
       refine Cr <| Lx.y (add rfl rfl (by first | exact wrap64 (by omega) (by omega) | rfl)) rfl <| Lx.y (mv rfl) rfl <| Lx.nil <| ?_
       exact Xx.againK ⟨i + 1, ⟨by omega, fun k hk => by
 by_cases e : k = i
 ·subst e; unfold okAt; omega
 ·exact hall k (by omega)⟩, rfl, rfl, rfl, rfl⟩ (by omega) (Sc 8 rfl (Sc 0 rfl (Sc 6 rfl (Sc 7 rfl (Sub.nil _)))))
   ·
    have hl : LP (s.getD i 0) := of_decide_eq_true ((Bool.not_eq_false' _).mp h17)
    refine Lx.gF rfl rfl rfl rfl <| Lx.gF rfl rfl rfl rfl <| Lx.gF rfl rfl rfl rfl <| Lx.gU rfl rfl rfl rfl <| Lx.gU rfl rfl rfl rfl <| Lx.gF rfl rfl rfl rfl <| Lx.gF rfl rfl rfl rfl <| Lx.gU rfl rfl rfl rfl <| Lx.gU rfl rfl rfl rfl <| Lx.gF rfl rfl rfl rfl <| Lx.y (pickF rfl rfl) rfl <| Lx.nil <| ?_
    refine Xx.tn (k16 _ _ _ _ ?_)
    refine Cx.condF rfl <| Cx.skip <| Xx.bn <| ?_
    refine Xx.tn (k7 _ _ _ _ ?_)
    refine Cr <| Lx.y (add rfl rfl (by first | exact wrap64 (by omega) (by omega) | rfl)) rfl <| Lx.y (mv rfl) rfl <| Lx.nil <| ?_
    exact Xx.againK ⟨i + 1, ⟨by omega, fun k hk => by
 by_cases e : k = i
 ·subst e; unfold okAt; omega
 ·exact hall k (by omega)⟩, rfl, rfl, rfl, rfl⟩ (by omega) (Sc 8 rfl (Sc 0 rfl (Sc 6 rfl (Sc 7 rfl (Sub.nil _)))))
 ·
  obtain rfl : i = s.length := by omega
  refine Cx.exit <| Xx.te <| Xx.te <| Xx.bh <| ?_
  refine Xx.tn (k2 _ _ _ _ ?_)
  refine Cq (fun K24 k24 => ?_)
  refine Cr <| Lx.y (mv rfl) rfl <| Lx.y (lenS U9 rfl) rfl <| Lx.y (geq rfl rfl) rfl <| Lx.y (mv rfl) rfl <| ?_
  refine Xx.ifD (t := 50) rfl (fun h25 => ?_) (fun h25 => ?_)
  ·
   have hge := h25
   refine Lx.gT rfl rfl rfl <| Lx.y (mv rfl) rfl <| Lx.gT rfl rfl rfl <| Lx.y (lenS U9 rfl) rfl <| Lx.gT rfl rfl rfl <| Lx.y (leq rfl rfl) rfl <| Lx.y (pickT rfl rfl) rfl <| Lx.y (asg rfl) rfl <| Lx.nil <| ?_
   refine Xx.tn (k24 _ _ _ _ ?_)
   refine Cx.ret ?_
   first | exact Xx.rB1 rfl rfl ⟨congrArg Value.bool (nameB_no (fun h => by have := h.1 i hil; unfold okAt at this; omega)).symm, rfl⟩ (Fl _) rfl | exact Xx.rB1 rfl rfl ⟨congrArg Value.bool (nameB_len hall hge), rfl⟩ (Fl _) rfl | exact Xx.rB1 rfl rfl ⟨congrArg Value.bool (nameB_no (fun h => by have := h.2.1; omega)).symm, rfl⟩ (Fl _) rfl
  ·
   refine Lx.gF rfl rfl rfl rfl <| Lx.gF rfl rfl rfl rfl <| Lx.gF rfl rfl rfl rfl <| Lx.y (pickF rfl rfl) rfl <| Lx.y (asg rfl) rfl <| Lx.nil <| ?_
   refine Xx.tn (k24 _ _ _ _ ?_)
   refine Cx.ret ?_
   first | exact Xx.rB1 rfl rfl ⟨congrArg Value.bool (nameB_no (fun h => by have := h.1 i hil; unfold okAt at this; omega)).symm, rfl⟩ (Fl _) rfl | exact Xx.rB1 rfl rfl ⟨congrArg Value.bool (nameB_len hall hge), rfl⟩ (Fl _) rfl | exact Xx.rB1 rfl rfl ⟨congrArg Value.bool (nameB_no (fun h => by have := h.2.1; omega)).symm, rfl⟩ (Fl _) rfl
def hiB (n : BitVec 64) : UInt8 := toB (((BitVec.ofInt 8 ((toB (n.toNat : Nat)).toNat : Nat) ||| BitVec.ofInt 8 128).toNat : Nat) : Int)
def uvF : Nat → BitVec 64 → List UInt8
  | 0, n => [toB (n.toNat : Nat)]
  | k + 1, n => if 128 ≤ n.toNat then hiB n :: uvF k (n >>> 7) else [toB (n.toNat : Nat)]
def uvL (n : BitVec 64) : List UInt8 := uvF 10 n
theorem uvF_len : ∀ (k : Nat) (n : BitVec 64), (uvF k n).length ≤ k + 1 := by
  intro k
  induction k with
  | zero => intro n; simp [uvF]
  | succ k ih => intro n; unfold uvF; split; simpa using ih _; simp
theorem uv_last {k : Nat} {n : BitVec 64} (h : ¬ 128 ≤ n.toNat) : uvF k n = [toB (n.toNat : Nat)] := by
  cases k with
  | zero => rfl
  | succ k => unfold uvF; rw [if_neg h]
set_option maxHeartbeats 1000000 in
theorem encUint_ct (n : BitVec 64) (B : Frag) : CtP Tryz.prog 70 [u64 n] B (str (uvL n)) := by
 refine CtB.of_body Tryz.func70 rfl (nt := 20) rfl (by kernel_rfl) rfl ?_
 intro N0 w0 R
 refine Cq (fun K1 k1 => ?_)
 refine Cr <| Lx.y (asg rfl) rfl <| Lx.nil <| ?_
 refine Xx.tn (k1 _ _ _ _ ?_)
 refine Cq (fun K2 k2 => ?_)
 refine Cr <| Lx.y (asg rfl) rfl <| ?_
 refine Xx.perm (H' := sbuf 5 1 none 0 0 [] * R) ?_ (by rw [sbuf_nil, one_star])
 refine Lx.nil ?_
 refine Xx.tn (k2 _ _ _ _ ?_)
 refine Cq (fun K3 k3 => ?_)
 refine Cx.block ?_
 refine Cx.loopK (Sc 2 rfl (Sub.nil _)) (fun m ρ' B' H' => ∃ (k : Nat) (x : BitVec 64) (out : List UInt8) (A : Option Addr) (c : Nat), (uvL n = out ++ uvF k x ∧ x.toNat < 128 * 128 ^ k ∧ out.length + k = 10) ∧ m = 1 + k ∧ ρ' = [(0, u64 x), (3, .slice A out.length c)] ∧ B = B' ∧ sbuf 5 1 A out.length c (u8s out) * R = H') ⟨10, n, [], none, 0, ⟨rfl, Nat.lt_of_lt_of_le n.isLt (by decide), rfl⟩, rfl, rfl, rfl, rfl⟩ (Sc 0 rfl (Sc 3 rfl (Sc 2 rfl (Sub.nil _)))) ?_
 rintro m ρ' B' H' ⟨k, x, out, A, c, ⟨hu, hx, hk⟩, rfl, rfl, rfl, rfl⟩
 refine Cq (fun K4 k4 => ?_)
 refine Cq (fun K5 k5 => ?_)
 refine Cr <| Lx.y (mv rfl) rfl <| Lx.y (geq rfl rfl) rfl <| Lx.nil <| ?_
 refine Xx.tn (k5 _ _ _ _ ?_)
 refine Cx.condD rfl (fun h6 => ?_) (fun h6 => ?_)
 ·
  obtain ⟨k, rfl⟩ : ∃ j, k = j + 1 := ⟨k - 1, by rcases k with _ | k; simp at hx; omega; omega⟩
  refine Cx.skip ?_
  refine Xx.tn (k4 _ _ _ _ ?_)
  refine Cx.block ?_
  refine Cq (fun K7 k7 => ?_)
  refine Cr <| Lx.y (mv rfl) rfl <| Lx.y (mv rfl) rfl <| Lx.y (cvI rfl U22 U5 (wrap_u8 _)) rfl <| Lx.y (bor rfl rfl (show bOr .u8 _ _ = ((hiB x).toNat : Nat) from wrap_u8 _)) rfl <| ?_
  refine Lx.bsl (bsl1 U107 ti5 rfl rfl rfl (by decide)) rfl (fun b10 => ?_)
  refine Lx.o (appR U107 U107 ti5 rfl rfl rfl rfl rfl (by omega) (by omega)) rfl (fun v B' H' hΦ hB => ?_)
  obtain ⟨A2, c2, rfl, hA2, hl2, hc2, hBB, rfl⟩ := hΦ
  obtain rfl := hBB.symm
  clear hB
  refine Lx.y (asg rfl) rfl <| Lx.nil <| ?_
  refine Xx.tn (k7 _ _ _ _ ?_)
  refine Cr <| Lx.y (mv rfl) rfl <| Lx.y (shrW64 (c := 7) rfl rfl rfl) rfl <| Lx.y (asg rfl) rfl <| Lx.nil <| Xx.bn <| ?_
  refine Xx.dropB b10 ?_
  refine Xx.perm (H' := sbuf 5 1 A2 (out ++ [hiB x]).length c2 (u8s (out ++ [hiB x])) * R) ?_ (by simp [u8s])
  exact Xx.againK ⟨k, x >>> 7, out ++ [hiB x], A2, c2, ⟨by rw [hu, uvF, if_pos (by omega)]; simp, by rw [BitVec.toNat_ushiftRight, Nat.shiftRight_eq_div_pow]; rw [Nat.pow_succ] at hx; omega, by simp; omega⟩, rfl, rfl, rfl, rfl⟩ (by omega) (Sc 0 rfl (Sub.consE (s := 3) rfl (by simp) (Sc 2 rfl (Sub.nil _))))
 ·
  have hl : uvL n = out ++ [toB (x.toNat : Nat)] := by rw [hu, uv_last (by omega)]
  refine Cx.exit <| Xx.te <| Xx.te <| Xx.bh <| ?_
  refine Xx.tn (k3 _ _ _ _ ?_)
  refine Cq (fun K8 k8 => ?_)
  refine Cr <| Lx.y (mv rfl) rfl <| Lx.y (mv rfl) rfl <| Lx.y (cvI rfl U22 U5 (wrap_u8 _)) rfl <| ?_
  refine Lx.bsl (bsl1 U107 ti5 rfl rfl rfl (by decide)) rfl (fun b17 => ?_)
  refine Lx.o (appR U107 U107 ti5 rfl rfl rfl rfl rfl (by omega) (by omega)) rfl (fun v B' H' hΦ hB => ?_)
  obtain ⟨A3, c3, rfl, hA3, hl3, hc3, hBB, rfl⟩ := hΦ
  obtain rfl := hBB.symm
  clear hB
  have e8 : u8s out ++ [Value.int .u8 ((toB (x.toNat : Nat)).toNat : Nat)] = u8s (out ++ [toB (x.toNat : Nat)]) := by simp [u8s]
  have hsrc : Src' B (sbuf 5 1 A3 (out.length + 1) c3 (u8s out ++ [Value.int .u8 ((toB (x.toNat : Nat)).toNat : Nat)])) 1 A3 (out.length + 1) (u8s (out ++ [toB (x.toNat : Nat)])) := by
   rw [e8]
   exact Src'.sbuf (.inr ⟨(hA3 (by omega)).choose, (hA3 (by omega)).choose_spec, by simp [u8s]⟩)
  refine Lx.y (b2s U107 U5 U9 rfl (l := out ++ [toB (x.toNat : Nat)]) hsrc PickS.eq) rfl <| Lx.y (asg rfl) rfl <| Lx.nil <| ?_
  refine Xx.tn (k8 _ _ _ _ ?_)
  refine Cx.ret ?_
  exact Xx.perm (Xx.drop (Xx.dropB b17 (Xx.rB1 rfl rfl ⟨by rw [hl], rfl⟩ (Fl _) rfl))) rfl
set_option maxHeartbeats 1000000 in
theorem encText_ct (s : List UInt8) (B : Frag) (hs : s.length ≤ 4611686018427387904) : CtP Tryz.prog 85 [str s] B (str (uvL (BitVec.ofInt 64 (s.length : Nat)) ++ s)) := by
 have hu : (uvL (BitVec.ofInt 64 (s.length : Nat))).length ≤ 11 := uvF_len 10 _
 refine CtB.of_body Tryz.func85 rfl (nt := 9) rfl (by kernel_rfl) rfl ?_
 intro N0 w0 R
 refine Cq (fun K1 k1 => ?_)
 refine Cr <| Lx.y (asg rfl) rfl <| Lx.nil <| ?_
 refine Xx.tn (k1 _ _ _ _ ?_)
 refine Cq (fun K2 k2 => ?_)
 refine Cr <| Lx.y (mv rfl) rfl <| Lx.y (lenS U9 rfl) rfl <| Lx.y (cvW64 rfl U3 U22) rfl <| ?_
 refine Lx.cp rfl rfl rfl (encUint_ct _ _) rfl ?_
 refine Lx.y (mv rfl) rfl <| Lx.y (catS rfl rfl (by first | omega | (simp <;> omega))) rfl <| Lx.y (asg rfl) rfl <| Lx.nil <| ?_
 refine Xx.tn (k2 _ _ _ _ ?_)
 refine Cx.ret ?_
 exact Xx.rB1 rfl rfl ⟨rfl, rfl⟩ (Fl _) rfl
end VhG
end Go.Proofs.YthlfffbcligocaaGreat
namespace Go.Proofs.YthlfffbcligocaaGreat
open Go.SL Go.RowKit
set_option maxRecDepth 100000
open VhG
namespace VhH
theorem sz3 : (Tryz.prog.info? 3).map (·.size) = some 1 := by kernel_rfl
theorem sz28 : (Tryz.prog.info? 28).map (·.size) = some 1 := by kernel_rfl
theorem ti225 : TI Tryz.prog 225 [str [], .int .i64 0, .int .i64 0] 3 32 := TI.of (by kernel_rfl) rfl rfl
theorem fo225_0 : FO Tryz.prog 225 0 0 1 false := FO.of U225 rfl rfl (by kernel_rfl) U9 rfl rfl
theorem fo225_1 : FO Tryz.prog 225 1 1 1 false := FO.of U225 rfl rfl (by kernel_rfl) U3 rfl rfl
theorem fo225_2 : FO Tryz.prog 225 2 2 1 false := FO.of U225 rfl rfl (by kernel_rfl) U28 rfl rfl
theorem pl225 : PL Tryz.prog 225 [(0, 1), (1, 1), (2, 1)] := PL.of U225 (by kernel_rfl)
structure Cu where
  s : List UInt8
  at' : Nat
  e : Int
abbrev crow (b : Nat) (c : Cu) : HP := row b 225 [str c.s, i64 (c.at' : Nat), i64 c.e]
def Cu.ok (c : Cu) : Prop := c.at' ≤ c.s.length ∧ c.s.length ≤ 4611686018427387904
def Cu.stop (c : Cu) (x : Int) : Cu := if c.e = 0 then ⟨c.s, c.at', x⟩ else c
inductive Ud where
  | ok (n k : Nat)
  | bad (e : Int)
def udec : Nat → List UInt8 → Ud
  | _, [] => .bad 4
  | i, b :: r => if (i = 9 ∧ 1 < b.toNat) ∨ (0 < i ∧ b.toNat = 0) then .bad 6 else if b.toNat < 128 then .ok b.toNat 1 else match udec (i + 1) r with
    | .ok n k => .ok (b.toNat % 128 + 128 * n) (k + 1)
    | .bad e => .bad e
def Ud.comb (a i : Nat) : Ud → Ud
  | .ok n k => .ok (a + 128 ^ i * n) (k + i)
  | .bad e => .bad e
def udTo (c : Cu) : Ud → Cu × Nat
  | .ok n k => (⟨c.s, c.at' + k, c.e⟩, n)
  | .bad x => (⟨c.s, c.at', x⟩, 0)
def Cu.uint (c : Cu) : Cu × Nat := if c.e ≠ 0 then (c, 0) else udTo c (udec 0 (c.s.drop c.at'))
def zig (n : Nat) : Int := if n % 2 = 1 then -((n / 2 : Nat) : Int) - 1 else ((n / 2 : Nat) : Int)
def Cu.cnt (c : Cu) (most : Nat) : Cu := if c.uint.1.e = 0 ∧ most < c.uint.2 then ⟨c.s, c.at', 3⟩ else c.uint.1
def Cu.count (c : Cu) (most : Nat) : Cu × Nat := if c.e ≠ 0 then (c, 0) else (c.cnt most, if (c.cnt most).e ≠ 0 then 0 else c.uint.2)
def Cu.bytes (c : Cu) (k : Nat) : Cu × List UInt8 := if c.e ≠ 0 then (c, []) else if c.s.length - c.at' < k then (⟨c.s, c.at', 4⟩, []) else (⟨c.s, c.at' + k, c.e⟩, (c.s.drop c.at').take k)
def Cu.text (c : Cu) (most : Nat) : Cu × List UInt8 := (if ((c.count most).1.bytes (c.count most).2).1.e ≠ 0 then ⟨c.s, c.at', ((c.count most).1.bytes (c.count most).2).1.e⟩ else ((c.count most).1.bytes (c.count most).2).1, ((c.count most).1.bytes (c.count most).2).2)
def Cu.bool (c : Cu) : Cu × Bool := (if (c.bytes 1).1.e = 0 ∧ 1 < ((c.bytes 1).2.getD 0 0).toNat then ⟨c.s, c.at', 6⟩ else (c.bytes 1).1, decide ((c.bytes 1).1.e = 0 ∧ ((c.bytes 1).2.getD 0 0).toNat = 1))
def Cu.fin (c : Cu) : Cu := if c.at' < c.s.length then c.stop 5 else c
theorem udec_pos : ∀ (l : List UInt8) (i n k : Nat), udec i l = .ok n k → 1 ≤ k ∧ k ≤ l.length := by
  intro l
  induction l with
  | nil => intro i n k h; simp [udec] at h
  | cons b r ih =>
    intro i n k h
    unfold udec at h
    split at h
    · cases h
    · split at h
      · injection h with h1 h2; subst h2; simp
      · split at h
        · rename_i n' k' hk
          injection h with h1 h2
          have := ih _ _ _ hk
          simp; omega
        · cases h
theorem udTo_s (c : Cu) (u : Ud) : (udTo c u).1.s = c.s := by cases u <;> rfl
theorem Cu.uint_s (c : Cu) : c.uint.1.s = c.s := by unfold Cu.uint; split; rfl; exact udTo_s _ _
theorem Cu.uint_ok {c : Cu} (h : c.ok) : c.uint.1.ok := by
  unfold Cu.uint
  split
  · exact h
  · cases hk : udec 0 (c.s.drop c.at') with
    | ok n k =>
      have := udec_pos _ _ _ _ hk
      rw [List.length_drop] at this
      exact ⟨by show c.at' + k ≤ c.s.length; have := h.1; omega, h.2⟩
    | bad e => exact h
theorem Cu.count_s (c : Cu) (m : Nat) : (c.count m).1.s = c.s := by unfold Cu.count; split; rfl; show (c.cnt m).s = _; unfold Cu.cnt; split; rfl; exact c.uint_s
theorem Cu.count_ok {c : Cu} (h : c.ok) (m : Nat) : (c.count m).1.ok := by unfold Cu.count; split; exact h; show (c.cnt m).ok; unfold Cu.cnt; split; exact h; exact Cu.uint_ok h
theorem Cu.bytes_s (c : Cu) (m : Nat) : (c.bytes m).1.s = c.s := by unfold Cu.bytes; split; rfl; split <;> rfl
theorem Cu.bytes_ok {c : Cu} (h : c.ok) (m : Nat) : (c.bytes m).1.ok := by
  unfold Cu.bytes; split; exact h; split; exact h
  exact ⟨by show c.at' + m ≤ c.s.length; have := h.1; omega, h.2⟩
theorem Cu.text_s (c : Cu) (m : Nat) : (c.text m).1.s = c.s := by unfold Cu.text; show (if _ then _ else _ : Cu).s = _; split; rfl; rw [Cu.bytes_s, Cu.count_s]
theorem Cu.text_ok {c : Cu} (h : c.ok) (m : Nat) : (c.text m).1.ok := by unfold Cu.text; show Cu.ok (if _ then _ else _); split; exact h; exact Cu.bytes_ok (Cu.count_ok h m) _
theorem bAndNot128 (b : UInt8) : bAndNot .u8 ((b.toNat : Nat) : Int) 128 = ((b.toNat % 128 : Nat) : Int) := by
  have key : ∀ x : Fin 256, bAndNot .u8 ((x.val : Nat) : Int) 128 = ((x.val % 128 : Nat) : Int) := by decide +kernel
  exact key ⟨b.toNat, b.toNat_lt⟩
theorem acc_or {acc : BitVec 64} {i m : Nat} (h1 : acc.toNat < 128 ^ i) (h2 : acc.toNat + 128 ^ i * m < 18446744073709551616) : (acc ||| (BitVec.ofInt 64 ((m : Nat) : Int)) <<< (7 * i)).toNat = acc.toNat + 128 ^ i * m := by
  have e : 128 ^ i = 2 ^ (7 * i) := by rw [Nat.pow_mul]
  rw [e] at h1 h2 ⊢
  have hp : 1 ≤ 2 ^ (7 * i) := Nat.one_le_two_pow
  have hm : m ≤ 2 ^ (7 * i) * m := Nat.le_mul_of_pos_left _ hp
  have hmt : (BitVec.ofInt 64 ((m : Nat) : Int)).toNat = m := by rw [BitVec.toNat_ofInt]; simp only [Nat.reducePow]; omega
  rw [BitVec.toNat_or, BitVec.toNat_shiftLeft, hmt, Nat.shiftLeft_eq, Nat.mul_comm m, Nat.mod_eq_of_lt (by omega), Nat.or_comm, ← Nat.two_pow_add_eq_or_of_lt h1]
  omega
set_option maxHeartbeats 1000000 in
theorem stop_ct (c : Cu) (b : Nat) (B : Frag)(x : Int) : CtC Tryz.prog 162 [.pointer (some ⟨b, 0, none⟩), i64 x] B (crow b c) (.tuple #[]) (crow b (c.stop x)) := by
 refine Ct.of_body Tryz.func162 rfl (nt := 13) rfl (by kernel_rfl) rfl ?_
 intro N0 w0 R
 refine Cq (fun K1 k1 => ?_)
 refine Cr <| Lx.y (mv rfl) rfl <| Lx.y (nilc rfl) rfl <| Lx.y (fa' fo225_2 rfl) rfl <| Lx.y (ld U28 rfl rfl rfl) rfl <| Lx.y (eqI rfl rfl) rfl <| Lx.nil <| ?_
 refine Xx.tn (k1 _ _ _ _ ?_)
 refine Cx.condD rfl (fun h2 => ?_) (fun h2 => ?_)
 ·
  have z := h2
  refine Cr <| Lx.y (mv rfl) rfl <| Lx.y (mv rfl) rfl <| Lx.y (nilc rfl) rfl <| Lx.y (fa' fo225_2 rfl) rfl <| ?_
  refine Lx.st (stO U28 sz28 rfl rfl rfl (by simp) rfl) ?_
  refine Lx.nil ?_
  first | exact Xx.end0 rfl ⟨rfl, rfl, rfl⟩ (Fl _) (by unfold Cu.stop; rw [if_pos z]) | exact Xx.end0 rfl ⟨rfl, rfl, rfl⟩ (Fl _) (by unfold Cu.stop; rw [if_neg z])
 ·
  have z := h2
  refine Cx.skip ?_
  first | exact Xx.end0 rfl ⟨rfl, rfl, rfl⟩ (Fl _) (by unfold Cu.stop; rw [if_pos z]) | exact Xx.end0 rfl ⟨rfl, rfl, rfl⟩ (Fl _) (by unfold Cu.stop; rw [if_neg z])
set_option maxHeartbeats 1000000 in
theorem Err_ct (c : Cu) (b : Nat) (B : Frag) : CtC Tryz.prog 164 [.pointer (some ⟨b, 0, none⟩)] B (crow b c) (i64 c.e) (crow b (c)) := by
  refine Ct.of_body Tryz.func164 rfl (nt := 9) rfl (by kernel_rfl) rfl ?_
  intro N0 w0 R
  refine Cq (fun K1 k1 => ?_)
  refine Cr <| Lx.y (asg rfl) rfl <| Lx.nil <| ?_
  refine Xx.tn (k1 _ _ _ _ ?_)
  refine Cq (fun K2 k2 => ?_)
  refine Cq (fun K3 k3 => ?_)
  refine Cr <| Lx.y (mv rfl) rfl <| Lx.y (Yx.ff (eqNilP U202 rfl rfl) rfl) rfl <| Lx.nil <| ?_
  refine Xx.tn (k3 _ _ _ _ ?_)
  refine Cx.condF rfl <| Cx.skip <| ?_
  refine Xx.tn (k2 _ _ _ _ ?_)
  refine Cq (fun K4 k4 => ?_)
  refine Cr <| Lx.y (mv rfl) rfl <| Lx.y (nilc rfl) rfl <| Lx.y (fa' fo225_2 rfl) rfl <| Lx.y (ld U28 rfl rfl rfl) rfl <| Lx.y (asg rfl) rfl <| Lx.nil <| ?_
  refine Xx.tn (k4 _ _ _ _ ?_)
  refine Cx.ret ?_
  exact Xx.ret1 rfl rfl ⟨rfl, rfl, rfl⟩ (Fl _) rfl
theorem Cu.uint_eq {c : Cu} (h : c.e = 0) {u : Ud} (hu : udec 0 (c.s.drop c.at') = u) : c.uint = udTo c u := by unfold Cu.uint; rw [if_neg (by simpa using h), hu]
theorem uV {c : Cu} {p : Cu × Nat} (hu : c.uint = p) : u64 (BitVec.ofNat 64 p.2) = u64 (BitVec.ofNat 64 c.uint.2) := by rw [hu]
theorem uR1 {c : Cu} {p : Cu × Nat} {b : Nat} {R : HP} (hu : c.uint = p) : crow b p.1 * R = crow b c.uint.1 * R := by rw [hu]
theorem stop_eq {c : Cu} {x : Int} (h : c.e = 0) : c.stop x = ⟨c.s, c.at', x⟩ := by unfold Cu.stop; rw [if_pos h]
theorem Cu.uint_ne {c : Cu} (h : ¬ c.e = 0) : c.uint = (c, 0) := by unfold Cu.uint; rw [if_pos h]
theorem udec_nil {i : Nat} {l : List UInt8} {a : Nat} (h : l.length ≤ a) : udec i (l.drop a) = .bad 4 := by rw [List.drop_eq_nil_of_le h]; rfl
theorem drop_at {l : List UInt8} {a : Nat} (h : a < l.length) : l.drop a = l.getD a 0 :: l.drop (a + 1) := by
  have e : l.getD a 0 = l[a] := by simp [List.getD, h]
  rw [e]; exact List.drop_eq_getElem_cons h
theorem udec_bad {i : Nat} {l : List UInt8} {a : Nat} (h : a < l.length) (hf : (i = 9 ∧ 1 < (l.getD a 0).toNat) ∨ (0 < i ∧ (l.getD a 0).toNat = 0)) : udec i (l.drop a) = .bad 6 := by
  rw [drop_at h]; unfold udec; rw [if_pos hf]
theorem udec_last {i : Nat} {l : List UInt8} {a : Nat} (h : a < l.length) (hf : ¬ ((i = 9 ∧ 1 < (l.getD a 0).toNat) ∨ (0 < i ∧ (l.getD a 0).toNat = 0))) (hl : (l.getD a 0).toNat < 128) : udec i (l.drop a) = .ok (l.getD a 0).toNat 1 := by
  rw [drop_at h]; unfold udec; rw [if_neg hf, if_pos hl]
theorem udec_more {i acc : Nat} {l : List UInt8} {a : Nat} (h : a < l.length) (hf : ¬ ((i = 9 ∧ 1 < (l.getD a 0).toNat) ∨ (0 < i ∧ (l.getD a 0).toNat = 0))) (hl : ¬ (l.getD a 0).toNat < 128) :
    Ud.comb acc i (udec i (l.drop a)) = Ud.comb (acc + 128 ^ i * ((l.getD a 0).toNat % 128)) (i + 1) (udec (i + 1) (l.drop (a + 1))) := by
  rw [drop_at h]
  conv => lhs; unfold udec
  rw [if_neg hf, if_neg hl]
  cases udec (i + 1) (l.drop (a + 1)) with
  | bad e => rfl
  | ok n k =>
    show Ud.ok _ _ = Ud.ok _ _
    congr 1
    · rw [Nat.mul_add, Nat.pow_succ, Nat.mul_assoc, Nat.add_assoc]
    · omega
theorem pow9 {i : Nat} (h : i ≤ 9) : 128 ^ i ≤ 9223372036854775808 := Nat.le_trans (Nat.pow_le_pow_right (by decide) h) (by decide)
theorem acc_bound {a i m : Nat} (hi : i ≤ 9) (ha : a < 128 ^ i) (h9 : i = 9 → m ≤ 1) : a + 128 ^ i * (m % 128) < 18446744073709551616 := by
  by_cases e : i = 9
  · subst e
    have := h9 rfl
    have h1 : 128 ^ 9 * (m % 128) ≤ 128 ^ 9 * 1 := Nat.mul_le_mul_left _ (by omega)
    have h2 : (128 : Nat) ^ 9 = 9223372036854775808 := by decide
    omega
  · have h1 : 128 ^ i * (m % 128) ≤ 128 ^ i * 127 := Nat.mul_le_mul_left _ (by omega)
    have h2 : 128 ^ i ≤ 128 ^ 8 := Nat.pow_le_pow_right (by decide) (by omega)
    have h3 : (128 : Nat) ^ 8 = 72057594037927936 := by decide
    omega
theorem ofNat_u64 {x : BitVec 64} {n : Nat} (h : x.toNat = n) : u64 x = u64 (BitVec.ofNat 64 n) := by subst h; rw [BitVec.ofNat_toNat, BitVec.setWidth_eq]
set_option maxHeartbeats 1000000 in
theorem Uint_ct (c : Cu) (b : Nat) (B : Frag) (h : c.ok) : CtC Tryz.prog 135 [.pointer (some ⟨b, 0, none⟩)] B (crow b c) (u64 (BitVec.ofNat 64 c.uint.2)) (crow b (c.uint.1)) := by
 obtain ⟨hat, hsl⟩ := h
 refine Ct.of_body Tryz.func135 rfl (nt := 77) rfl (by kernel_rfl) rfl ?_
 intro N0 w0 R
 refine Cq (fun K1 k1 => ?_)
 refine Cr <| Lx.y (asg rfl) rfl <| Lx.nil <| ?_
 refine Xx.tn (k1 _ _ _ _ ?_)
 refine Cq (fun K2 k2 => ?_)
 refine Cq (fun K3 k3 => ?_)
 refine Cr <| Lx.y (mv rfl) rfl <| Lx.y (Yx.ff (eqNilP U202 rfl rfl) rfl) rfl <| Lx.y (mv rfl) rfl <| Lx.gT rfl rfl rfl <| Lx.y (mv rfl) rfl <| Lx.gT rfl rfl rfl <| Lx.y (nilc rfl) rfl <| Lx.gT rfl rfl rfl <| Lx.y (fa' fo225_2 rfl) rfl <| Lx.gT rfl rfl rfl <| Lx.y (ld U28 rfl rfl rfl) rfl <| ?_
 refine Lx.gT rfl rfl rfl <| Lx.y (neI rfl rfl) rfl <| Lx.y (pickF rfl rfl) rfl <| Lx.nil <| ?_
 refine Xx.tn (k3 _ _ _ _ ?_)
 refine Cx.condN rfl (fun h4 => ?_) (fun h4 => ?_)
 ·
  have hu := Cu.uint_ne h4
  refine Cq (fun K5 k5 => ?_)
  refine Cr <| Lx.y (asg rfl) rfl <| Lx.nil <| ?_
  refine Xx.tn (k5 _ _ _ _ ?_)
  refine Cx.ret <| Xx.tr <| ?_
  first | exact Xx.ret1 rfl rfl ⟨uV hu, rfl, rfl⟩ (Fl _) (uR1 hu) | exact Xx.ret1 rfl rfl ⟨uV hu, rfl, rfl⟩ (Fl _) ((congrArg (fun z => crow b z * R) (stop_eq he)).trans (uR1 hu)) | exact Xx.ret1 rfl rfl ⟨ofNat_u64 (by rw [hu, hor, Nat.mod_eq_of_lt hl9]; show _ = acc.toNat + _; omega), rfl, rfl⟩ (Fl _) ((congrArg (fun z : Nat => row b 225 [str c.s, i64 (z : Nat), i64 c.e] * R) (show c.at' + (i + 1) = c.at' + (1 + i) by omega)).trans (uR1 hu))
 ·
  have he : c.e = 0 := h4
  refine Cx.skip ?_
  refine Xx.tn (k2 _ _ _ _ ?_)
  refine Cq (fun K6 k6 => ?_)
  refine Cr <| Lx.y (asg rfl) rfl <| Lx.y (asg rfl) rfl <| Lx.nil <| ?_
  refine Xx.tn (k6 _ _ _ _ ?_)
  refine Cq (fun K7 k7 => ?_)
  refine Cx.block ?_
  refine Cx.loopK (Sc 0 rfl (Sc 6 rfl (Sc 7 rfl (Sc 8 rfl (Sc 9 rfl (Sc 10 rfl (Sc 11 rfl (Sc 12 rfl (Sc 13 rfl (Sc 14 rfl (Sub.nil _))))))))))) (fun m ρ' B' H' => ∃ (i : Nat) (acc : BitVec 64), (i ≤ 9 ∧ acc.toNat < 128 ^ i ∧ udec 0 (c.s.drop c.at') = Ud.comb acc.toNat i (udec i (c.s.drop (c.at' + i)))) ∧ m = 10 - i ∧ ρ' = [(3, u64 acc), (4, i64 i)] ∧ B = B' ∧ crow b c * R = H') ⟨0, 0#64, ⟨by omega, by decide, by simp only [Nat.add_zero]; cases udec 0 (c.s.drop c.at') with | bad e => rfl | ok n k => simp [Ud.comb]⟩, rfl, rfl, rfl, rfl⟩ (Sc 3 rfl (Sc 4 rfl (Sc 0 rfl (Sc 6 rfl (Sc 7 rfl (Sc 8 rfl (Sc 9 rfl (Sc 10 rfl (Sc 11 rfl (Sc 12 rfl (Sc 13 rfl (Sc 14 rfl (Sub.nil _))))))))))))) ?_
  rintro m ρ' B' H' ⟨i, acc, ⟨hi, hacc, hud⟩, rfl, rfl, rfl, rfl⟩
  refine Cx.block ?_
  refine Cq (fun K8 k8 => ?_)
  refine Cq (fun K9 k9 => ?_)
  refine Cx.drawn (by kernel_rfl) ?_
  refine Dx.p (i := 0) rfl (by kernel_rfl) (mv rfl) rfl ?_
  refine Dx.p (i := 1) rfl (by kernel_rfl) (nilc rfl) rfl ?_
  refine Dx.p (i := 2) rfl (by kernel_rfl) (fa' fo225_1 rfl) rfl ?_
  refine Dx.r (i := 3) rfl (by kernel_rfl) (ld U3 rfl rfl rfl) rfl ?_
  refine Dx.p (i := 4) rfl (by kernel_rfl) (mv rfl) rfl ?_
  refine Dx.p (i := 5) rfl (by kernel_rfl) (add rfl rfl (by first | exact wrap64 (by omega) (by omega) | rfl)) rfl ?_
  refine Dx.p (i := 6) rfl (by kernel_rfl) (mv rfl) rfl ?_
  refine Dx.p (i := 7) rfl (by kernel_rfl) (nilc rfl) rfl ?_
  refine Dx.p (i := 8) rfl (by kernel_rfl) (fa' fo225_0 rfl) rfl ?_
  refine Dx.r (i := 9) rfl (by kernel_rfl) (ld U9 rfl rfl rfl) rfl ?_
  refine Dx.p (i := 10) rfl (by kernel_rfl) (lenS U9 rfl) rfl ?_
  refine Dx.p (i := 11) rfl (by kernel_rfl) (geq rfl rfl) rfl ?_
  refine Dx.done (by kernel_rfl) ?_
  refine Xx.tn (k9 _ _ _ _ ?_)
  refine Cx.condD rfl (fun h10 => ?_) (fun h10 => ?_)
  ·
   have hu := Cu.uint_eq he (hud.trans (by rw [udec_nil (show c.s.length ≤ c.at' + i by have := h10; omega)]))
   refine Cq (fun K11 k11 => ?_)
   refine Cr <| Lx.y (mv rfl) rfl <| ?_
   refine Lx.co rfl rfl rfl (stop_ct c b _ 4) (Pe) rfl ?_
   refine Lx.nil ?_
   refine Xx.tn (k11 _ _ _ _ ?_)
   refine Cq (fun K12 k12 => ?_)
   refine Cr <| Lx.y (asg rfl) rfl <| Lx.nil <| ?_
   refine Xx.tn (k12 _ _ _ _ ?_)
   refine Cx.ret <| Xx.tr <| ?_
   refine Xx.br ?_
   refine Xx.tr ?_
   refine Xx.br ?_
   refine Xx.tr ?_
   first | exact Xx.ret1 rfl rfl ⟨uV hu, rfl, rfl⟩ (Fl _) (uR1 hu) | exact Xx.ret1 rfl rfl ⟨uV hu, rfl, rfl⟩ (Fl _) ((congrArg (fun z => crow b z * R) (stop_eq he)).trans (uR1 hu)) | exact Xx.ret1 rfl rfl ⟨ofNat_u64 (by rw [hu, hor, Nat.mod_eq_of_lt hl9]; show _ = acc.toNat + _; omega), rfl, rfl⟩ (Fl _) ((congrArg (fun z : Nat => row b 225 [str c.s, i64 (z : Nat), i64 c.e] * R) (show c.at' + (i + 1) = c.at' + (1 + i) by omega)).trans (uR1 hu))
  ·
   have hil : c.at' + i < c.s.length := by have := h10; omega
   have hp9 := pow9 hi
   refine Cx.skip ?_
   refine Xx.tn (k8 _ _ _ _ ?_)
   refine Cq (fun K13 k13 => ?_)
   refine Cx.drawn (by kernel_rfl) ?_
   refine Dx.p (i := 0) rfl (by kernel_rfl) (mv rfl) rfl ?_
   refine Dx.p (i := 1) rfl (by kernel_rfl) (nilc rfl) rfl ?_
   refine Dx.p (i := 2) rfl (by kernel_rfl) (fa' fo225_0 rfl) rfl ?_
   refine Dx.r (i := 3) rfl (by kernel_rfl) (ld U9 rfl rfl rfl) rfl ?_
   refine Dx.p (i := 4) rfl (by kernel_rfl) (mv rfl) rfl ?_
   refine Dx.p (i := 5) rfl (by kernel_rfl) (nilc rfl) rfl ?_
   refine Dx.p (i := 6) rfl (by kernel_rfl) (fa' fo225_1 rfl) rfl ?_
   refine Dx.r (i := 7) rfl (by kernel_rfl) (ld U3 rfl rfl rfl) rfl ?_
   refine Dx.p (i := 8) rfl (by kernel_rfl) (mv rfl) rfl ?_
   refine Dx.p (i := 9) rfl (by kernel_rfl) (add rfl rfl (by first | exact wrap64 (by omega) (by omega) | rfl)) rfl ?_
   refine Dx.p (i := 10) rfl (by kernel_rfl) (ixS U9 rfl rfl (by first | exact Int.toNat_natCast _ | rfl) (by omega) (by omega)) rfl ?_
   refine Dx.p (i := 11) rfl (by kernel_rfl) (asg rfl) rfl ?_
   refine Dx.done (by kernel_rfl) ?_
   refine Xx.tn (k13 _ _ _ _ ?_)
   refine Cq (fun K14 k14 => ?_)
   refine Cq (fun K15 k15 => ?_)
   refine Cr <| Lx.y (mv rfl) rfl <| Lx.y (eqI rfl rfl) rfl <| Lx.y (mv rfl) rfl <| ?_
   refine Xx.ifD (t := 42) rfl (fun h16 => ?_) (fun h16 => ?_)
   ·
    refine Lx.gT rfl rfl rfl <| Lx.y (mv rfl) rfl <| Lx.gT rfl rfl rfl <| Lx.y (gtr rfl rfl) rfl <| Lx.y (pickT rfl rfl) rfl <| Lx.y (mv rfl) rfl <| ?_
    refine Xx.ifD (t := 46) rfl (fun h17 => ?_) (fun h17 => ?_)
    ·
     have hu := Cu.uint_eq he (hud.trans (by rw [udec_bad hil (by omega)]))
     refine Lx.gF rfl rfl rfl rfl <| Lx.gF rfl rfl rfl rfl <| Lx.gF rfl rfl rfl rfl <| Lx.gU rfl rfl rfl rfl <| Lx.gU rfl rfl rfl rfl <| Lx.gF rfl rfl rfl rfl <| Lx.y (pickT rfl rfl) rfl <| Lx.nil <| ?_
     refine Xx.tn (k15 _ _ _ _ ?_)
     refine Cx.condT rfl ?_
     refine Cq (fun K18 k18 => ?_)
     refine Cr <| Lx.y (mv rfl) rfl <| ?_
     refine Lx.co rfl rfl rfl (stop_ct c b _ 6) (Pe) rfl ?_
     refine Lx.nil ?_
     refine Xx.tn (k18 _ _ _ _ ?_)
     refine Cq (fun K19 k19 => ?_)
     refine Cr <| Lx.y (asg rfl) rfl <| Lx.nil <| ?_
     refine Xx.tn (k19 _ _ _ _ ?_)
     refine Cx.ret <| Xx.tr <| ?_
     refine Xx.br ?_
     refine Xx.tr ?_
     refine Xx.br ?_
     refine Xx.tr ?_
     first | exact Xx.ret1 rfl rfl ⟨uV hu, rfl, rfl⟩ (Fl _) (uR1 hu) | exact Xx.ret1 rfl rfl ⟨uV hu, rfl, rfl⟩ (Fl _) ((congrArg (fun z => crow b z * R) (stop_eq he)).trans (uR1 hu)) | exact Xx.ret1 rfl rfl ⟨ofNat_u64 (by rw [hu, hor, Nat.mod_eq_of_lt hl9]; show _ = acc.toNat + _; omega), rfl, rfl⟩ (Fl _) ((congrArg (fun z : Nat => row b 225 [str c.s, i64 (z : Nat), i64 c.e] * R) (show c.at' + (i + 1) = c.at' + (1 + i) by omega)).trans (uR1 hu))
    ·
     refine Lx.gT rfl rfl rfl <| Lx.y (mv rfl) rfl <| Lx.gT rfl rfl rfl <| Lx.y (gtr rfl rfl) rfl <| Lx.gT rfl rfl rfl <| Lx.y (mv rfl) rfl <| ?_
     refine Xx.ifD (t := 49) rfl (fun h20 => ?_) (fun h20 => ?_)
     ·
      refine Lx.gT rfl rfl rfl <| Lx.y (mv rfl) rfl <| Lx.gT rfl rfl rfl <| Lx.y (eqI rfl rfl) rfl <| Lx.gT rfl rfl rfl <| Lx.y (pickT rfl rfl) rfl <| Lx.y (pickF rfl rfl) rfl <| Lx.nil <| ?_
      refine Xx.tn (k15 _ _ _ _ ?_)
      refine Cx.condD rfl (fun h21 => ?_) (fun h21 => ?_)
      ·
       have hu := Cu.uint_eq he (hud.trans (by rw [udec_bad hil (by omega)]))
       refine Cq (fun K22 k22 => ?_)
       refine Cr <| Lx.y (mv rfl) rfl <| ?_
       refine Lx.co rfl rfl rfl (stop_ct c b _ 6) (Pe) rfl ?_
       refine Lx.nil ?_
       refine Xx.tn (k22 _ _ _ _ ?_)
       refine Cq (fun K23 k23 => ?_)
       refine Cr <| Lx.y (asg rfl) rfl <| Lx.nil <| ?_
       refine Xx.tn (k23 _ _ _ _ ?_)
       refine Cx.ret <| Xx.tr <| ?_
       refine Xx.br ?_
       refine Xx.tr ?_
       refine Xx.br ?_
       refine Xx.tr ?_
       first | exact Xx.ret1 rfl rfl ⟨uV hu, rfl, rfl⟩ (Fl _) (uR1 hu) | exact Xx.ret1 rfl rfl ⟨uV hu, rfl, rfl⟩ (Fl _) ((congrArg (fun z => crow b z * R) (stop_eq he)).trans (uR1 hu)) | exact Xx.ret1 rfl rfl ⟨ofNat_u64 (by rw [hu, hor, Nat.mod_eq_of_lt hl9]; show _ = acc.toNat + _; omega), rfl, rfl⟩ (Fl _) ((congrArg (fun z : Nat => row b 225 [str c.s, i64 (z : Nat), i64 c.e] * R) (show c.at' + (i + 1) = c.at' + (1 + i) by omega)).trans (uR1 hu))
      ·
       refine Cx.skip ?_
       refine Xx.tn (k14 _ _ _ _ ?_)
       refine Cq (fun K24 k24 => ?_)
       have hnf : ¬ ((i = 9 ∧ 1 < (c.s.getD (c.at' + i) 0).toNat) ∨ (0 < i ∧ (c.s.getD (c.at' + i) 0).toNat = 0)) := by omega
       have hm9 : i = 9 → (c.s.getD (c.at' + i) 0).toNat ≤ 1 := by omega
       have hsum : acc.toNat + 128 ^ i * ((c.s.getD (c.at' + i) 0).toNat % 128) < 18446744073709551616 := acc_bound hi hacc hm9
       have hor := acc_or (m := (c.s.getD (c.at' + i) 0).toNat % 128) hacc hsum
       refine Cr <| Lx.y (mv rfl) rfl <| Lx.y (mv rfl) rfl <| Lx.y (Yx.val (bandnot rfl rfl rfl) (congrArg (Value.int .u8) (bAndNot128 _))) rfl <| Lx.y (cvW64 rfl U5 U22) rfl <| Lx.y (mv rfl) rfl <| Lx.y (mul rfl rfl (by first | exact wrap64 (by omega) (by omega) | rfl)) rfl <| Lx.y (shlW64 (c := 7 * i) rfl rfl (Nat.ble_eq_true_of_le (by omega))) rfl <| Lx.y (orW64 rfl rfl) rfl <| Lx.y (asg rfl) rfl <| Lx.nil <| ?_
       refine Xx.tn (k24 _ _ _ _ ?_)
       refine Cq (fun K25 k25 => ?_)
       refine Cr <| Lx.y (mv rfl) rfl <| Lx.y (add rfl rfl (by first | exact wrap64 (by omega) (by omega) | rfl)) rfl <| Lx.y (asg rfl) rfl <| Lx.nil <| ?_
       refine Xx.tn (k25 _ _ _ _ ?_)
       refine Cq (fun K26 k26 => ?_)
       refine Cr <| Lx.y (mv rfl) rfl <| Lx.y (lss rfl rfl) rfl <| Lx.nil <| ?_
       refine Xx.tn (k26 _ _ _ _ ?_)
       refine Cx.condD rfl (fun h27 => ?_) (fun h27 => ?_)
       ·
        have hl9 : (c.s.getD (c.at' + i) 0).toNat < 128 := by have := h27; omega
        have hu := Cu.uint_eq he (hud.trans (by rw [udec_last hil hnf hl9]))
        refine Cx.exit ?_
        refine Xx.bm rfl ?_
        refine Xx.te <| Xx.bh <| ?_
        refine Xx.tn (k7 _ _ _ _ ?_)
        refine Cq (fun K28 k28 => ?_)
        refine Cr <| Lx.y (mv rfl) rfl <| Lx.y (nilc rfl) rfl <| Lx.y (fa' fo225_1 rfl) rfl <| Lx.y (ld U3 rfl rfl rfl) rfl <| Lx.y (mv rfl) rfl <| Lx.y (add rfl rfl (by first | exact wrap64 (by omega) (by omega) | rfl)) rfl <| Lx.y (nilc rfl) rfl <| Lx.y (fa' fo225_1 rfl) rfl <| ?_
        refine Lx.st (stO U3 sz3 rfl rfl rfl (by simp) rfl) ?_
        refine Lx.nil ?_
        refine Xx.tn (k28 _ _ _ _ ?_)
        refine Cq (fun K29 k29 => ?_)
        refine Cr <| Lx.y (mv rfl) rfl <| Lx.y (asg rfl) rfl <| Lx.nil <| ?_
        refine Xx.tn (k29 _ _ _ _ ?_)
        refine Cx.ret ?_
        first | exact Xx.ret1 rfl rfl ⟨uV hu, rfl, rfl⟩ (Fl _) (uR1 hu) | exact Xx.ret1 rfl rfl ⟨uV hu, rfl, rfl⟩ (Fl _) ((congrArg (fun z => crow b z * R) (stop_eq he)).trans (uR1 hu)) | exact Xx.ret1 rfl rfl ⟨ofNat_u64 (by rw [hu, hor, Nat.mod_eq_of_lt hl9]; show _ = acc.toNat + _; omega), rfl, rfl⟩ (Fl _) ((congrArg (fun z : Nat => row b 225 [str c.s, i64 (z : Nat), i64 c.e] * R) (show c.at' + (i + 1) = c.at' + (1 + i) by omega)).trans (uR1 hu))
       ·
        have hl9 : ¬ (c.s.getD (c.at' + i) 0).toNat < 128 := by have := h27; omega
        refine Cx.skip <| Xx.bn <| ?_
        exact Xx.againK ⟨i + 1, acc ||| (BitVec.ofInt 64 (((c.s.getD (c.at' + i) 0).toNat % 128 : Nat) : Int)) <<< (7 * i), ⟨by omega, by rw [hor, Nat.pow_succ]; have : 128 ^ i * ((c.s.getD (c.at' + i) 0).toNat % 128) ≤ 128 ^ i * 127 := Nat.mul_le_mul_left _ (by omega); omega, by rw [hud, udec_more hil hnf hl9, hor]; rfl⟩, rfl, rfl, rfl, rfl⟩ (by omega) (Sc 3 rfl (Sc 4 rfl (Sc 0 rfl (Sc 6 rfl (Sc 7 rfl (Sc 8 rfl (Sc 9 rfl (Sc 10 rfl (Sc 11 rfl (Sc 12 rfl (Sc 13 rfl (Sc 14 rfl (Sub.nil _)))))))))))))
     ·
      refine Lx.gF rfl rfl rfl rfl <| Lx.gF rfl rfl rfl rfl <| Lx.gT rfl rfl rfl <| Lx.y (pickF rfl rfl) rfl <| Lx.y (pickF rfl rfl) rfl <| Lx.nil <| ?_
      refine Xx.tn (k15 _ _ _ _ ?_)
      refine Cx.condF rfl <| Cx.skip <| ?_
      refine Xx.tn (k14 _ _ _ _ ?_)
      refine Cq (fun K30 k30 => ?_)
      have hnf : ¬ ((i = 9 ∧ 1 < (c.s.getD (c.at' + i) 0).toNat) ∨ (0 < i ∧ (c.s.getD (c.at' + i) 0).toNat = 0)) := by omega
      have hm9 : i = 9 → (c.s.getD (c.at' + i) 0).toNat ≤ 1 := by omega
      have hsum : acc.toNat + 128 ^ i * ((c.s.getD (c.at' + i) 0).toNat % 128) < 18446744073709551616 := acc_bound hi hacc hm9
      have hor := acc_or (m := (c.s.getD (c.at' + i) 0).toNat % 128) hacc hsum
      refine Cr <| Lx.y (mv rfl) rfl <| Lx.y (mv rfl) rfl <| Lx.y (Yx.val (bandnot rfl rfl rfl) (congrArg (Value.int .u8) (bAndNot128 _))) rfl <| Lx.y (cvW64 rfl U5 U22) rfl <| Lx.y (mv rfl) rfl <| Lx.y (mul rfl rfl (by first | exact wrap64 (by omega) (by omega) | rfl)) rfl <| Lx.y (shlW64 (c := 7 * i) rfl rfl (Nat.ble_eq_true_of_le (by omega))) rfl <| Lx.y (orW64 rfl rfl) rfl <| Lx.y (asg rfl) rfl <| Lx.nil <| ?_
      refine Xx.tn (k30 _ _ _ _ ?_)
      refine Cq (fun K31 k31 => ?_)
      refine Cr <| Lx.y (mv rfl) rfl <| Lx.y (add rfl rfl (by first | exact wrap64 (by omega) (by omega) | rfl)) rfl <| Lx.y (asg rfl) rfl <| Lx.nil <| ?_
      refine Xx.tn (k31 _ _ _ _ ?_)
      refine Cq (fun K32 k32 => ?_)
      refine Cr <| Lx.y (mv rfl) rfl <| Lx.y (lss rfl rfl) rfl <| Lx.nil <| ?_
      refine Xx.tn (k32 _ _ _ _ ?_)
      refine Cx.condD rfl (fun h33 => ?_) (fun h33 => ?_)
      ·
       have hl9 : (c.s.getD (c.at' + i) 0).toNat < 128 := by have := h33; omega
       have hu := Cu.uint_eq he (hud.trans (by rw [udec_last hil hnf hl9]))
       refine Cx.exit ?_
       refine Xx.bm rfl ?_
       refine Xx.te <| Xx.bh <| ?_
       refine Xx.tn (k7 _ _ _ _ ?_)
       refine Cq (fun K34 k34 => ?_)
       refine Cr <| Lx.y (mv rfl) rfl <| Lx.y (nilc rfl) rfl <| Lx.y (fa' fo225_1 rfl) rfl <| Lx.y (ld U3 rfl rfl rfl) rfl <| Lx.y (mv rfl) rfl <| Lx.y (add rfl rfl (by first | exact wrap64 (by omega) (by omega) | rfl)) rfl <| Lx.y (nilc rfl) rfl <| Lx.y (fa' fo225_1 rfl) rfl <| ?_
       refine Lx.st (stO U3 sz3 rfl rfl rfl (by simp) rfl) ?_
       refine Lx.nil ?_
       refine Xx.tn (k34 _ _ _ _ ?_)
       refine Cq (fun K35 k35 => ?_)
       refine Cr <| Lx.y (mv rfl) rfl <| Lx.y (asg rfl) rfl <| Lx.nil <| ?_
       refine Xx.tn (k35 _ _ _ _ ?_)
       refine Cx.ret ?_
       first | exact Xx.ret1 rfl rfl ⟨uV hu, rfl, rfl⟩ (Fl _) (uR1 hu) | exact Xx.ret1 rfl rfl ⟨uV hu, rfl, rfl⟩ (Fl _) ((congrArg (fun z => crow b z * R) (stop_eq he)).trans (uR1 hu)) | exact Xx.ret1 rfl rfl ⟨ofNat_u64 (by rw [hu, hor, Nat.mod_eq_of_lt hl9]; show _ = acc.toNat + _; omega), rfl, rfl⟩ (Fl _) ((congrArg (fun z : Nat => row b 225 [str c.s, i64 (z : Nat), i64 c.e] * R) (show c.at' + (i + 1) = c.at' + (1 + i) by omega)).trans (uR1 hu))
      ·
       have hl9 : ¬ (c.s.getD (c.at' + i) 0).toNat < 128 := by have := h33; omega
       refine Cx.skip <| Xx.bn <| ?_
       exact Xx.againK ⟨i + 1, acc ||| (BitVec.ofInt 64 (((c.s.getD (c.at' + i) 0).toNat % 128 : Nat) : Int)) <<< (7 * i), ⟨by omega, by rw [hor, Nat.pow_succ]; have : 128 ^ i * ((c.s.getD (c.at' + i) 0).toNat % 128) ≤ 128 ^ i * 127 := Nat.mul_le_mul_left _ (by omega); omega, by rw [hud, udec_more hil hnf hl9, hor]; rfl⟩, rfl, rfl, rfl, rfl⟩ (by omega) (Sc 3 rfl (Sc 4 rfl (Sc 0 rfl (Sc 6 rfl (Sc 7 rfl (Sc 8 rfl (Sc 9 rfl (Sc 10 rfl (Sc 11 rfl (Sc 12 rfl (Sc 13 rfl (Sc 14 rfl (Sub.nil _)))))))))))))
   ·
    refine Lx.gF rfl rfl rfl rfl <| Lx.gF rfl rfl rfl rfl <| Lx.y (pickF rfl rfl) rfl <| Lx.y (mv rfl) rfl <| Lx.gT rfl rfl rfl <| Lx.y (mv rfl) rfl <| Lx.gT rfl rfl rfl <| Lx.y (gtr rfl rfl) rfl <| Lx.gT rfl rfl rfl <| Lx.y (mv rfl) rfl <| ?_
    refine Xx.ifD (t := 49) rfl (fun h36 => ?_) (fun h36 => ?_)
    ·
     refine Lx.gT rfl rfl rfl <| Lx.y (mv rfl) rfl <| Lx.gT rfl rfl rfl <| Lx.y (eqI rfl rfl) rfl <| Lx.gT rfl rfl rfl <| Lx.y (pickT rfl rfl) rfl <| Lx.y (pickF rfl rfl) rfl <| Lx.nil <| ?_
     refine Xx.tn (k15 _ _ _ _ ?_)
     refine Cx.condD rfl (fun h37 => ?_) (fun h37 => ?_)
     ·
      have hu := Cu.uint_eq he (hud.trans (by rw [udec_bad hil (by omega)]))
      refine Cq (fun K38 k38 => ?_)
      refine Cr <| Lx.y (mv rfl) rfl <| ?_
      refine Lx.co rfl rfl rfl (stop_ct c b _ 6) (Pe) rfl ?_
      refine Lx.nil ?_
      refine Xx.tn (k38 _ _ _ _ ?_)
      refine Cq (fun K39 k39 => ?_)
      refine Cr <| Lx.y (asg rfl) rfl <| Lx.nil <| ?_
      refine Xx.tn (k39 _ _ _ _ ?_)
      refine Cx.ret <| Xx.tr <| ?_
      refine Xx.br ?_
      refine Xx.tr ?_
      refine Xx.br ?_
      refine Xx.tr ?_
      first | exact Xx.ret1 rfl rfl ⟨uV hu, rfl, rfl⟩ (Fl _) (uR1 hu) | exact Xx.ret1 rfl rfl ⟨uV hu, rfl, rfl⟩ (Fl _) ((congrArg (fun z => crow b z * R) (stop_eq he)).trans (uR1 hu)) | exact Xx.ret1 rfl rfl ⟨ofNat_u64 (by rw [hu, hor, Nat.mod_eq_of_lt hl9]; show _ = acc.toNat + _; omega), rfl, rfl⟩ (Fl _) ((congrArg (fun z : Nat => row b 225 [str c.s, i64 (z : Nat), i64 c.e] * R) (show c.at' + (i + 1) = c.at' + (1 + i) by omega)).trans (uR1 hu))
     ·
      refine Cx.skip ?_
      refine Xx.tn (k14 _ _ _ _ ?_)
      refine Cq (fun K40 k40 => ?_)
      have hnf : ¬ ((i = 9 ∧ 1 < (c.s.getD (c.at' + i) 0).toNat) ∨ (0 < i ∧ (c.s.getD (c.at' + i) 0).toNat = 0)) := by omega
      have hm9 : i = 9 → (c.s.getD (c.at' + i) 0).toNat ≤ 1 := by omega
      have hsum : acc.toNat + 128 ^ i * ((c.s.getD (c.at' + i) 0).toNat % 128) < 18446744073709551616 := acc_bound hi hacc hm9
      have hor := acc_or (m := (c.s.getD (c.at' + i) 0).toNat % 128) hacc hsum
      refine Cr <| Lx.y (mv rfl) rfl <| Lx.y (mv rfl) rfl <| Lx.y (Yx.val (bandnot rfl rfl rfl) (congrArg (Value.int .u8) (bAndNot128 _))) rfl <| Lx.y (cvW64 rfl U5 U22) rfl <| Lx.y (mv rfl) rfl <| Lx.y (mul rfl rfl (by first | exact wrap64 (by omega) (by omega) | rfl)) rfl <| Lx.y (shlW64 (c := 7 * i) rfl rfl (Nat.ble_eq_true_of_le (by omega))) rfl <| Lx.y (orW64 rfl rfl) rfl <| Lx.y (asg rfl) rfl <| Lx.nil <| ?_
      refine Xx.tn (k40 _ _ _ _ ?_)
      refine Cq (fun K41 k41 => ?_)
      refine Cr <| Lx.y (mv rfl) rfl <| Lx.y (add rfl rfl (by first | exact wrap64 (by omega) (by omega) | rfl)) rfl <| Lx.y (asg rfl) rfl <| Lx.nil <| ?_
      refine Xx.tn (k41 _ _ _ _ ?_)
      refine Cq (fun K42 k42 => ?_)
      refine Cr <| Lx.y (mv rfl) rfl <| Lx.y (lss rfl rfl) rfl <| Lx.nil <| ?_
      refine Xx.tn (k42 _ _ _ _ ?_)
      refine Cx.condD rfl (fun h43 => ?_) (fun h43 => ?_)
      ·
       have hl9 : (c.s.getD (c.at' + i) 0).toNat < 128 := by have := h43; omega
       have hu := Cu.uint_eq he (hud.trans (by rw [udec_last hil hnf hl9]))
       refine Cx.exit ?_
       refine Xx.bm rfl ?_
       refine Xx.te <| Xx.bh <| ?_
       refine Xx.tn (k7 _ _ _ _ ?_)
       refine Cq (fun K44 k44 => ?_)
       refine Cr <| Lx.y (mv rfl) rfl <| Lx.y (nilc rfl) rfl <| Lx.y (fa' fo225_1 rfl) rfl <| Lx.y (ld U3 rfl rfl rfl) rfl <| Lx.y (mv rfl) rfl <| Lx.y (add rfl rfl (by first | exact wrap64 (by omega) (by omega) | rfl)) rfl <| Lx.y (nilc rfl) rfl <| Lx.y (fa' fo225_1 rfl) rfl <| ?_
       refine Lx.st (stO U3 sz3 rfl rfl rfl (by simp) rfl) ?_
       refine Lx.nil ?_
       refine Xx.tn (k44 _ _ _ _ ?_)
       refine Cq (fun K45 k45 => ?_)
       refine Cr <| Lx.y (mv rfl) rfl <| Lx.y (asg rfl) rfl <| Lx.nil <| ?_
       refine Xx.tn (k45 _ _ _ _ ?_)
       refine Cx.ret ?_
       first | exact Xx.ret1 rfl rfl ⟨uV hu, rfl, rfl⟩ (Fl _) (uR1 hu) | exact Xx.ret1 rfl rfl ⟨uV hu, rfl, rfl⟩ (Fl _) ((congrArg (fun z => crow b z * R) (stop_eq he)).trans (uR1 hu)) | exact Xx.ret1 rfl rfl ⟨ofNat_u64 (by rw [hu, hor, Nat.mod_eq_of_lt hl9]; show _ = acc.toNat + _; omega), rfl, rfl⟩ (Fl _) ((congrArg (fun z : Nat => row b 225 [str c.s, i64 (z : Nat), i64 c.e] * R) (show c.at' + (i + 1) = c.at' + (1 + i) by omega)).trans (uR1 hu))
      ·
       have hl9 : ¬ (c.s.getD (c.at' + i) 0).toNat < 128 := by have := h43; omega
       refine Cx.skip <| Xx.bn <| ?_
       exact Xx.againK ⟨i + 1, acc ||| (BitVec.ofInt 64 (((c.s.getD (c.at' + i) 0).toNat % 128 : Nat) : Int)) <<< (7 * i), ⟨by omega, by rw [hor, Nat.pow_succ]; have : 128 ^ i * ((c.s.getD (c.at' + i) 0).toNat % 128) ≤ 128 ^ i * 127 := Nat.mul_le_mul_left _ (by omega); omega, by rw [hud, udec_more hil hnf hl9, hor]; rfl⟩, rfl, rfl, rfl, rfl⟩ (by omega) (Sc 3 rfl (Sc 4 rfl (Sc 0 rfl (Sc 6 rfl (Sc 7 rfl (Sc 8 rfl (Sc 9 rfl (Sc 10 rfl (Sc 11 rfl (Sc 12 rfl (Sc 13 rfl (Sc 14 rfl (Sub.nil _)))))))))))))
    ·
     refine Lx.gF rfl rfl rfl rfl <| Lx.gF rfl rfl rfl rfl <| Lx.gT rfl rfl rfl <| Lx.y (pickF rfl rfl) rfl <| Lx.y (pickF rfl rfl) rfl <| Lx.nil <| ?_
     refine Xx.tn (k15 _ _ _ _ ?_)
     refine Cx.condF rfl <| Cx.skip <| ?_
     refine Xx.tn (k14 _ _ _ _ ?_)
     refine Cq (fun K46 k46 => ?_)
     have hnf : ¬ ((i = 9 ∧ 1 < (c.s.getD (c.at' + i) 0).toNat) ∨ (0 < i ∧ (c.s.getD (c.at' + i) 0).toNat = 0)) := by omega
     have hm9 : i = 9 → (c.s.getD (c.at' + i) 0).toNat ≤ 1 := by omega
     have hsum : acc.toNat + 128 ^ i * ((c.s.getD (c.at' + i) 0).toNat % 128) < 18446744073709551616 := acc_bound hi hacc hm9
     have hor := acc_or (m := (c.s.getD (c.at' + i) 0).toNat % 128) hacc hsum
     refine Cr <| Lx.y (mv rfl) rfl <| Lx.y (mv rfl) rfl <| Lx.y (Yx.val (bandnot rfl rfl rfl) (congrArg (Value.int .u8) (bAndNot128 _))) rfl <| Lx.y (cvW64 rfl U5 U22) rfl <| Lx.y (mv rfl) rfl <| Lx.y (mul rfl rfl (by first | exact wrap64 (by omega) (by omega) | rfl)) rfl <| Lx.y (shlW64 (c := 7 * i) rfl rfl (Nat.ble_eq_true_of_le (by omega))) rfl <| Lx.y (orW64 rfl rfl) rfl <| Lx.y (asg rfl) rfl <| Lx.nil <| ?_
     refine Xx.tn (k46 _ _ _ _ ?_)
     refine Cq (fun K47 k47 => ?_)
     refine Cr <| Lx.y (mv rfl) rfl <| Lx.y (add rfl rfl (by first | exact wrap64 (by omega) (by omega) | rfl)) rfl <| Lx.y (asg rfl) rfl <| Lx.nil <| ?_
     refine Xx.tn (k47 _ _ _ _ ?_)
     refine Cq (fun K48 k48 => ?_)
     refine Cr <| Lx.y (mv rfl) rfl <| Lx.y (lss rfl rfl) rfl <| Lx.nil <| ?_
     refine Xx.tn (k48 _ _ _ _ ?_)
     refine Cx.condD rfl (fun h49 => ?_) (fun h49 => ?_)
     ·
      have hl9 : (c.s.getD (c.at' + i) 0).toNat < 128 := by have := h49; omega
      have hu := Cu.uint_eq he (hud.trans (by rw [udec_last hil hnf hl9]))
      refine Cx.exit ?_
      refine Xx.bm rfl ?_
      refine Xx.te <| Xx.bh <| ?_
      refine Xx.tn (k7 _ _ _ _ ?_)
      refine Cq (fun K50 k50 => ?_)
      refine Cr <| Lx.y (mv rfl) rfl <| Lx.y (nilc rfl) rfl <| Lx.y (fa' fo225_1 rfl) rfl <| Lx.y (ld U3 rfl rfl rfl) rfl <| Lx.y (mv rfl) rfl <| Lx.y (add rfl rfl (by first | exact wrap64 (by omega) (by omega) | rfl)) rfl <| Lx.y (nilc rfl) rfl <| Lx.y (fa' fo225_1 rfl) rfl <| ?_
      refine Lx.st (stO U3 sz3 rfl rfl rfl (by simp) rfl) ?_
      refine Lx.nil ?_
      refine Xx.tn (k50 _ _ _ _ ?_)
      refine Cq (fun K51 k51 => ?_)
      refine Cr <| Lx.y (mv rfl) rfl <| Lx.y (asg rfl) rfl <| Lx.nil <| ?_
      refine Xx.tn (k51 _ _ _ _ ?_)
      refine Cx.ret ?_
      first | exact Xx.ret1 rfl rfl ⟨uV hu, rfl, rfl⟩ (Fl _) (uR1 hu) | exact Xx.ret1 rfl rfl ⟨uV hu, rfl, rfl⟩ (Fl _) ((congrArg (fun z => crow b z * R) (stop_eq he)).trans (uR1 hu)) | exact Xx.ret1 rfl rfl ⟨ofNat_u64 (by rw [hu, hor, Nat.mod_eq_of_lt hl9]; show _ = acc.toNat + _; omega), rfl, rfl⟩ (Fl _) ((congrArg (fun z : Nat => row b 225 [str c.s, i64 (z : Nat), i64 c.e] * R) (show c.at' + (i + 1) = c.at' + (1 + i) by omega)).trans (uR1 hu))
     ·
      have hl9 : ¬ (c.s.getD (c.at' + i) 0).toNat < 128 := by have := h49; omega
      refine Cx.skip <| Xx.bn <| ?_
      exact Xx.againK ⟨i + 1, acc ||| (BitVec.ofInt 64 (((c.s.getD (c.at' + i) 0).toNat % 128 : Nat) : Int)) <<< (7 * i), ⟨by omega, by rw [hor, Nat.pow_succ]; have : 128 ^ i * ((c.s.getD (c.at' + i) 0).toNat % 128) ≤ 128 ^ i * 127 := Nat.mul_le_mul_left _ (by omega); omega, by rw [hud, udec_more hil hnf hl9, hor]; rfl⟩, rfl, rfl, rfl, rfl⟩ (by omega) (Sc 3 rfl (Sc 4 rfl (Sc 0 rfl (Sc 6 rfl (Sc 7 rfl (Sc 8 rfl (Sc 9 rfl (Sc 10 rfl (Sc 11 rfl (Sc 12 rfl (Sc 13 rfl (Sc 14 rfl (Sub.nil _)))))))))))))
theorem udec_lt : ∀ (l : List UInt8) (i n k : Nat), i ≤ 9 → udec i l = .ok n k → n * 128 ^ i < 18446744073709551616 := by
  intro l
  induction l with
  | nil => intro i n k _ h; simp [udec] at h
  | cons b r ih =>
    intro i n k hi h
    unfold udec at h
    split at h
    · cases h
    · rename_i hc
      split at h
      · rename_i hb
        injection h with h1 h2
        subst h1
        by_cases e : i = 9
        · subst e
          have h9 : (128 : Nat) ^ 9 = 9223372036854775808 := by decide
          have : b.toNat ≤ 1 := by omega
          rw [h9]; omega
        · have h1 : 128 ^ i ≤ 128 ^ 8 := Nat.pow_le_pow_right (by decide) (by omega)
          have h3 : (128 : Nat) ^ 8 = 72057594037927936 := by decide
          have h4 : b.toNat * 128 ^ i ≤ 127 * 128 ^ i := Nat.mul_le_mul_right _ (by omega)
          omega
      · rename_i hb
        split at h
        · rename_i n' k' hk
          injection h with h1 h2
          by_cases e : i = 9
          · omega
          · have h5 := ih (i + 1) n' k' (by omega) hk
            rw [Nat.pow_succ] at h5
            subst h1
            have h6 : n' * (128 ^ i * 128) = 128 * n' * 128 ^ i := by rw [Nat.mul_comm (128 ^ i) 128, ← Nat.mul_assoc, Nat.mul_comm n' 128]
            rw [h6] at h5
            have hd : 18446744073709551616 % (128 * 128 ^ i) = 0 ∨ i = 9 := by
              rcases (by omega : i = 0 ∨ i = 1 ∨ i = 2 ∨ i = 3 ∨ i = 4 ∨ i = 5 ∨ i = 6 ∨ i = 7 ∨ i = 8) with rfl | rfl | rfl | rfl | rfl | rfl | rfl | rfl | rfl <;> exact .inl (by decide)
            rcases hd with hd | hd
            · have h7 : (b.toNat % 128 + 128 * n') * 128 ^ i = (b.toNat % 128) * 128 ^ i + 128 * n' * 128 ^ i := by rw [Nat.add_mul]
              have h8 : (b.toNat % 128) * 128 ^ i ≤ 127 * 128 ^ i := Nat.mul_le_mul_right _ (by omega)
              obtain ⟨q, hq⟩ := Nat.dvd_of_mod_eq_zero hd
              rw [Nat.mul_assoc] at hq
              have h9 : 128 * n' * 128 ^ i = 128 * (128 ^ i * n') := by rw [Nat.mul_assoc, Nat.mul_comm n']
              have h10 : 128 ^ i * n' < 128 ^ i * q := by omega
              have h11 : n' < q := Nat.lt_of_mul_lt_mul_left h10
              have h12 : 128 ^ i * n' + 128 ^ i ≤ 128 ^ i * q := by rw [← Nat.mul_succ]; exact Nat.mul_le_mul_left _ h11
              have hp : 0 < 128 ^ i := Nat.pow_pos (by decide)
              omega
            · omega
        · cases h
theorem Cu.uint_lt (c : Cu) : c.uint.2 < 18446744073709551616 := by
  unfold Cu.uint
  split
  · show 0 < _; omega
  · cases hk : udec 0 (c.s.drop c.at') with
    | ok n k => have := udec_lt _ _ _ _ (by omega) hk; simpa [udTo] using this
    | bad e => show 0 < _; omega
theorem Cu.uint_err {c : Cu} (h : ¬ c.uint.1.e = 0) : c.uint.2 = 0 := by
  unfold Cu.uint at h ⊢
  split
  · rfl
  · rename_i hc
    rw [if_neg hc] at h
    cases hk : udec 0 (c.s.drop c.at') with
    | ok n k => rw [hk] at h; exact absurd (show c.e = 0 by simpa using hc) h
    | bad e => rfl
theorem toNat_most {m : Nat} (h : m ≤ 4611686018427387904) : (BitVec.ofInt 64 ((m : Nat) : Int)).toNat = m := by rw [BitVec.toNat_ofInt]; simp only [Nat.reducePow]; omega
theorem toNat_uint (c : Cu) : (BitVec.ofNat 64 c.uint.2).toNat = c.uint.2 := by rw [BitVec.toNat_ofNat, Nat.mod_eq_of_lt c.uint_lt]
theorem cnt_err {c : Cu} {m : Nat} (h : (c.cnt m).e = 0) : c.uint.2 ≤ m := by
  unfold Cu.cnt at h
  split at h
  · cases h
  · rename_i hc
    by_cases he : c.uint.1.e = 0
    · omega
    · rw [c.uint_err he]; omega
theorem dropTakeAdd (l : List UInt8) (a k : Nat) : (l.take (a + k)).drop a = (l.drop a).take k := by rw [List.drop_take]; congr 1; omega
theorem Cu.bytes_eq {c : Cu} {k : Nat} (h : c.e = 0) (hk : k ≤ c.s.length - c.at') : c.bytes k = (⟨c.s, c.at' + k, c.e⟩, (c.s.drop c.at').take k) := by unfold Cu.bytes; rw [if_neg (by simpa using h), if_neg (by omega)]
theorem Cu.bytes_short {c : Cu} {k : Nat} (h : c.e = 0) (hk : c.s.length - c.at' < k) : c.bytes k = (⟨c.s, c.at', 4⟩, []) := by unfold Cu.bytes; rw [if_neg (by simpa using h), if_pos hk]
theorem Cu.bytes_ne {c : Cu} {k : Nat} (h : ¬ c.e = 0) : c.bytes k = (c, []) := by unfold Cu.bytes; rw [if_pos h]
theorem Cu.bytes_len {c : Cu} {k : Nat} (h : (c.bytes k).1.e = 0) : (c.bytes k).2.length = k := by
  by_cases he : c.e = 0
  · by_cases hk : c.s.length - c.at' < k
    · rw [Cu.bytes_short he hk] at h; cases h
    · rw [Cu.bytes_eq he (by omega)]; simp; omega
  · rw [Cu.bytes_ne he] at h; exact absurd h he
theorem bV {c : Cu} {k : Nat} {p : Cu × List UInt8} (hu : c.bytes k = p) : str p.2 = str (c.bytes k).2 := by rw [hu]
theorem bR {c : Cu} {k : Nat} {p : Cu × List UInt8} {b : Nat} {R : HP} (hu : c.bytes k = p) : crow b p.1 * R = crow b (c.bytes k).1 * R := by rw [hu]
theorem tV {c : Cu} {m : Nat} {p : Cu × List UInt8} {l : List UInt8} (hu : c.text m = p) (hl : p.2 = l) : str l = str (c.text m).2 := by rw [hu, hl]
theorem tR {c : Cu} {m : Nat} {p : Cu × List UInt8} {b : Nat} {R : HP} {d : Cu} (hu : c.text m = p) (hd : p.1 = d) : crow b d * R = crow b (c.text m).1 * R := by rw [hu, hd]
theorem cV {c : Cu} {m n : Nat} {p : Cu × Nat} (hu : c.count m = p) (hn : p.2 = n) : i64 (n : Nat) = i64 ((c.count m).2 : Nat) := by rw [hu, hn]
theorem cR {c : Cu} {m : Nat} {p : Cu × Nat} {b : Nat} {R : HP} {d : Cu} (hu : c.count m = p) (hd : p.1 = d) : crow b d * R = crow b (c.count m).1 * R := by rw [hu, hd]
set_option maxHeartbeats 1000000 in
theorem Count_ct (c : Cu) (b : Nat) (B : Frag) (most : Nat) (h : c.ok) (hm : most ≤ 4611686018427387904) : CtC Tryz.prog 136 [.pointer (some ⟨b, 0, none⟩), i64 (most : Nat)] B (crow b c) (i64 ((c.count most).2 : Nat)) (crow b ((c.count most).1)) := by
 have hmt := toNat_most hm
 have hnt := toNat_uint c
 refine Ct.of_body Tryz.func136 rfl (nt := 50) rfl (by kernel_rfl) rfl ?_
 intro N0 w0 R
 refine Cq (fun K1 k1 => ?_)
 refine Cr <| Lx.y (asg rfl) rfl <| Lx.nil <| ?_
 refine Xx.tn (k1 _ _ _ _ ?_)
 refine Cq (fun K2 k2 => ?_)
 refine Cq (fun K3 k3 => ?_)
 refine Cr <| Lx.y (mv rfl) rfl <| Lx.y (Yx.ff (eqNilP U202 rfl rfl) rfl) rfl <| Lx.y (mv rfl) rfl <| Lx.gT rfl rfl rfl <| Lx.y (mv rfl) rfl <| Lx.gT rfl rfl rfl <| Lx.y (nilc rfl) rfl <| Lx.gT rfl rfl rfl <| Lx.y (fa' fo225_2 rfl) rfl <| Lx.gT rfl rfl rfl <| Lx.y (ld U28 rfl rfl rfl) rfl <| ?_
 refine Lx.gT rfl rfl rfl <| Lx.y (neI rfl rfl) rfl <| Lx.y (pickF rfl rfl) rfl <| Lx.nil <| ?_
 refine Xx.tn (k3 _ _ _ _ ?_)
 refine Cx.condN rfl (fun h4 => ?_) (fun h4 => ?_)
 ·
  have hu : c.count most = (c, 0) := by unfold Cu.count; rw [if_pos h4]
  refine Cq (fun K5 k5 => ?_)
  refine Cr <| Lx.y (asg rfl) rfl <| Lx.nil <| ?_
  refine Xx.tn (k5 _ _ _ _ ?_)
  refine Cx.ret <| Xx.tr <| ?_
  exact Xx.ret1 rfl rfl ⟨cV hu rfl, rfl, rfl⟩ (Fl _) (cR hu rfl)
 ·
  have he : c.e = 0 := h4
  refine Cx.skip ?_
  refine Xx.tn (k2 _ _ _ _ ?_)
  refine Cq (fun K6 k6 => ?_)
  refine Cr <| Lx.y (mv rfl) rfl <| Lx.y (nilc rfl) rfl <| Lx.y (fa' fo225_1 rfl) rfl <| Lx.y (ld U3 rfl rfl rfl) rfl <| Lx.y (asg rfl) rfl <| Lx.nil <| ?_
  refine Xx.tn (k6 _ _ _ _ ?_)
  refine Cq (fun K7 k7 => ?_)
  refine Cr <| Lx.y (mv rfl) rfl <| ?_
  refine Lx.co rfl rfl rfl (Uint_ct c b B h) (Pe) rfl ?_
  refine Lx.y (asg rfl) rfl <| Lx.nil <| ?_
  refine Xx.tn (k7 _ _ _ _ ?_)
  refine Cx.cutK (ds' := []) (Sc 0 rfl (Sc 1 rfl (Sc 4 rfl (Sc 5 rfl (Sc 6 rfl (Sc 7 rfl (Sc 8 rfl (Sc 9 rfl (Sc 10 rfl (Sc 11 rfl (Sc 12 rfl (Sc 13 rfl (Sc 14 rfl (Sc 15 rfl (Sc 16 rfl (Sc 17 rfl (Sc 18 rfl (Sc 19 rfl (Sc 20 rfl (Sc 21 rfl (Sub.nil _))))))))))))))))))))) (fun ρ' B' H' => ρ' = [(6, u64 (BitVec.ofNat 64 c.uint.2))] ∧ B = B' ∧ crow b (c.cnt most) * R = H') ?_ ?_
  ·
   refine Cq (fun K8 k8 => ?_)
   refine Cr <| Lx.y (mv rfl) rfl <| Lx.y (nilc rfl) rfl <| Lx.y (fa' fo225_2 rfl) rfl <| Lx.y (ld U28 rfl rfl rfl) rfl <| Lx.y (eqI rfl rfl) rfl <| Lx.y (mv rfl) rfl <| ?_
   refine Xx.ifD (t := 27) rfl (fun h9 => ?_) (fun h9 => ?_)
   ·
    have he1 : c.uint.1.e = 0 := h9
    refine Lx.gT rfl rfl rfl <| Lx.y (mv rfl) rfl <| Lx.gT rfl rfl rfl <| Lx.y (lss rfl rfl) rfl <| Lx.gT rfl rfl rfl <| Lx.y (mv rfl) rfl <| ?_
    refine Xx.ifD (t := 30) rfl (fun h10 => ?_) (fun h10 => ?_)
    ·
     exact absurd h10 (by omega)
    ·
     refine Lx.gT rfl rfl rfl <| Lx.y (mv rfl) rfl <| Lx.gT rfl rfl rfl <| Lx.y (mv rfl) rfl <| Lx.gT rfl rfl rfl <| Lx.y (cvW64 rfl U3 U22) rfl <| Lx.gT rfl rfl rfl <| Lx.y (gtr rfl rfl) rfl <| Lx.gT rfl rfl rfl <| Lx.y (pickF rfl rfl) rfl <| Lx.y (pickT rfl rfl) rfl <| Lx.nil <| ?_
     refine Xx.tn (k8 _ _ _ _ ?_)
     refine Cx.condD rfl (fun h11 => ?_) (fun h11 => ?_)
     ·
      have hlim := h11
      refine Cq (fun K12 k12 => ?_)
      refine Cr <| Lx.y (mv rfl) rfl <| Lx.y (mv rfl) rfl <| Lx.y (nilc rfl) rfl <| Lx.y (fa' fo225_1 rfl) rfl <| ?_
      refine Lx.st (stO U3 sz3 rfl rfl rfl (by simp) rfl) ?_
      refine Lx.nil ?_
      refine Xx.tn (k12 _ _ _ _ ?_)
      refine Cr <| Lx.y (mv rfl) rfl <| ?_
      refine Lx.co rfl rfl rfl (CtC.of (post' := crow b ⟨c.s, c.at', 3⟩) (stop_ct ⟨c.uint.1.s, c.at', c.uint.1.e⟩ b _ 3) rfl (by rw [stop_eq (c := ⟨c.uint.1.s, c.at', c.uint.1.e⟩) he1, c.uint_s])) (Pe) rfl ?_
      refine Lx.nil ?_
      exact Xx.mkK (⟨rfl, rfl, by unfold Cu.cnt; rw [if_pos ⟨he1, by omega⟩]⟩) (Sc 6 rfl (Sc 0 rfl (Sc 1 rfl (Sc 4 rfl (Sc 5 rfl (Sc 6 rfl (Sc 7 rfl (Sc 8 rfl (Sc 9 rfl (Sc 10 rfl (Sc 11 rfl (Sc 12 rfl (Sc 13 rfl (Sc 14 rfl (Sc 15 rfl (Sc 16 rfl (Sc 17 rfl (Sc 18 rfl (Sc 19 rfl (Sc 20 rfl (Sc 21 rfl (Sub.nil _))))))))))))))))))))))
     ·
      have hlim := h11
      refine Cx.skip ?_
      exact Xx.mkK (⟨rfl, rfl, by unfold Cu.cnt; rw [if_neg (fun z => hlim (by omega))]⟩) (Sc 6 rfl (Sc 0 rfl (Sc 1 rfl (Sc 4 rfl (Sc 5 rfl (Sc 6 rfl (Sc 7 rfl (Sc 8 rfl (Sc 9 rfl (Sc 10 rfl (Sc 11 rfl (Sc 12 rfl (Sc 13 rfl (Sc 14 rfl (Sc 15 rfl (Sc 16 rfl (Sc 17 rfl (Sc 18 rfl (Sc 19 rfl (Sc 20 rfl (Sc 21 rfl (Sub.nil _))))))))))))))))))))))
   ·
    have he1 : ¬ c.uint.1.e = 0 := h9
    refine Lx.gF rfl rfl rfl rfl <| Lx.gF rfl rfl rfl rfl <| Lx.gF rfl rfl rfl rfl <| Lx.gU rfl rfl rfl rfl <| Lx.gU rfl rfl rfl rfl <| Lx.gU rfl rfl rfl rfl <| Lx.gU rfl rfl rfl rfl <| Lx.gF rfl rfl rfl rfl <| Lx.y (pickF rfl rfl) rfl <| Lx.nil <| ?_
    refine Xx.tn (k8 _ _ _ _ ?_)
    refine Cx.condF rfl <| Cx.skip <| ?_
    exact Xx.mkK (⟨rfl, rfl, by unfold Cu.cnt; rw [if_neg (fun z => he1 z.1)]⟩) (Sc 6 rfl (Sc 0 rfl (Sc 1 rfl (Sc 4 rfl (Sc 5 rfl (Sc 6 rfl (Sc 7 rfl (Sc 8 rfl (Sc 9 rfl (Sc 10 rfl (Sc 11 rfl (Sc 12 rfl (Sc 13 rfl (Sc 14 rfl (Sc 15 rfl (Sc 16 rfl (Sc 17 rfl (Sc 18 rfl (Sc 19 rfl (Sc 20 rfl (Sc 21 rfl (Sub.nil _))))))))))))))))))))))
  ·rintro ρ' B' H' ⟨rfl, rfl, rfl⟩
   refine Cq (fun K13 k13 => ?_)
   refine Cq (fun K14 k14 => ?_)
   refine Cr <| Lx.y (mv rfl) rfl <| Lx.y (nilc rfl) rfl <| Lx.y (fa' fo225_2 rfl) rfl <| Lx.y (ld U28 rfl rfl rfl) rfl <| Lx.y (neI rfl rfl) rfl <| Lx.nil <| ?_
   refine Xx.tn (k14 _ _ _ _ ?_)
   refine Cx.condN rfl (fun h15 => ?_) (fun h15 => ?_)
   ·
    have hu : c.count most = (c.cnt most, 0) := by unfold Cu.count; rw [if_neg (by simpa using he), if_pos h15]
    refine Cq (fun K16 k16 => ?_)
    refine Cr <| Lx.y (asg rfl) rfl <| Lx.nil <| ?_
    refine Xx.tn (k16 _ _ _ _ ?_)
    refine Cx.ret <| Xx.tr <| ?_
    exact Xx.ret1 rfl rfl ⟨cV hu rfl, rfl, rfl⟩ (Fl _) (cR hu rfl)
   ·
    have he3 : (c.cnt most).e = 0 := h15
    have hle := cnt_err he3
    have hu : c.count most = (c.cnt most, c.uint.2) := by unfold Cu.count; rw [if_neg (by simpa using he), if_neg (by simpa using he3)]
    refine Cx.skip ?_
    refine Xx.tn (k13 _ _ _ _ ?_)
    refine Cq (fun K17 k17 => ?_)
    refine Cr <| Lx.y (mv rfl) rfl <| Lx.y (Yx.val (cvI rfl U22 U3 (by first | exact wrap64 (by omega) (by omega) | rfl)) (show i64 _ = i64 ((c.uint.2 : Nat) : Int) by rw [hnt])) rfl <| Lx.y (asg rfl) rfl <| Lx.nil <| ?_
    refine Xx.tn (k17 _ _ _ _ ?_)
    refine Cx.ret ?_
    exact Xx.ret1 rfl rfl ⟨cV hu rfl, rfl, rfl⟩ (Fl _) (cR hu rfl)
set_option maxHeartbeats 1000000 in
theorem Bytes_ct (c : Cu) (b : Nat) (B : Frag) (k : Nat) (h : c.ok) (hk : k ≤ 4611686018427387904) : CtC Tryz.prog 175 [.pointer (some ⟨b, 0, none⟩), i64 (k : Nat)] B (crow b c) (str (c.bytes k).2) (crow b ((c.bytes k).1)) := by
 obtain ⟨hat, hsl⟩ := h
 refine Ct.of_body Tryz.func175 rfl (nt := 58) rfl (by kernel_rfl) rfl ?_
 intro N0 w0 R
 refine Cq (fun K1 k1 => ?_)
 refine Cr <| Lx.y (asg rfl) rfl <| Lx.nil <| ?_
 refine Xx.tn (k1 _ _ _ _ ?_)
 refine Cq (fun K2 k2 => ?_)
 refine Cx.block ?_
 refine Cq (fun K3 k3 => ?_)
 refine Cr <| Lx.y (mv rfl) rfl <| Lx.y (Yx.ff (eqNilP U202 rfl rfl) rfl) rfl <| Lx.y (mv rfl) rfl <| Lx.gT rfl rfl rfl <| Lx.y (mv rfl) rfl <| Lx.gT rfl rfl rfl <| Lx.y (nilc rfl) rfl <| Lx.gT rfl rfl rfl <| Lx.y (fa' fo225_2 rfl) rfl <| Lx.gT rfl rfl rfl <| Lx.y (ld U28 rfl rfl rfl) rfl <| ?_
 refine Lx.gT rfl rfl rfl <| Lx.y (neI rfl rfl) rfl <| Lx.y (pickF rfl rfl) rfl <| Lx.y (asg rfl) rfl <| Lx.nil <| ?_
 refine Xx.tn (k3 _ _ _ _ ?_)
 refine Cx.condN rfl (fun h4 => ?_) (fun h4 => ?_)
 ·
  have hu := Cu.bytes_ne (k := k) h4
  refine Cq (fun K5 k5 => ?_)
  refine Cr <| Lx.y (asg rfl) rfl <| Lx.nil <| ?_
  refine Xx.tn (k5 _ _ _ _ ?_)
  refine Cx.ret ?_
  refine Xx.br ?_
  refine Xx.tr ?_
  first | exact Xx.ret1 rfl rfl ⟨bV hu, rfl, rfl⟩ (Fl _) (bR hu) | exact Xx.ret1 rfl rfl ⟨(congrArg str (dropTakeAdd _ _ _)).trans (bV hu), rfl, rfl⟩ (Fl _) (bR hu)
 ·
  have he : c.e = 0 := h4
  refine Cq (fun K6 k6 => ?_)
  refine Cr <| Lx.y (mv rfl) rfl <| Lx.y (lss rfl rfl) rfl <| Lx.y (asg rfl) rfl <| Lx.nil <| ?_
  refine Xx.tn (k6 _ _ _ _ ?_)
  refine Cx.condD rfl (fun h7 => ?_) (fun h7 => ?_)
  ·
   exact absurd h7 (by omega)
  ·
   refine Cq (fun K8 k8 => ?_)
   refine Cx.drawn (by kernel_rfl) ?_
   refine Dx.p (i := 0) rfl (by kernel_rfl) (mv rfl) rfl ?_
   refine Dx.p (i := 1) rfl (by kernel_rfl) (mv rfl) rfl ?_
   refine Dx.p (i := 2) rfl (by kernel_rfl) (nilc rfl) rfl ?_
   refine Dx.p (i := 3) rfl (by kernel_rfl) (fa' fo225_0 rfl) rfl ?_
   refine Dx.r (i := 4) rfl (by kernel_rfl) (ld U9 rfl rfl rfl) rfl ?_
   refine Dx.p (i := 5) rfl (by kernel_rfl) (lenS U9 rfl) rfl ?_
   refine Dx.p (i := 6) rfl (by kernel_rfl) (mv rfl) rfl ?_
   refine Dx.p (i := 7) rfl (by kernel_rfl) (nilc rfl) rfl ?_
   refine Dx.p (i := 8) rfl (by kernel_rfl) (fa' fo225_1 rfl) rfl ?_
   refine Dx.r (i := 9) rfl (by kernel_rfl) (ld U3 rfl rfl rfl) rfl ?_
   refine Dx.p (i := 10) rfl (by kernel_rfl) (sub rfl rfl (by first | exact wrap64 (by omega) (by omega) | rfl)) rfl ?_
   refine Dx.p (i := 11) rfl (by kernel_rfl) (gtr rfl rfl) rfl ?_
   refine Dx.p (i := 12) rfl (by kernel_rfl) (asg rfl) rfl ?_
   refine Dx.done (by kernel_rfl) ?_
   refine Xx.tn (k8 _ _ _ _ ?_)
   refine Cx.condD rfl (fun h9 => ?_) (fun h9 => ?_)
   ·
    have hu := Cu.bytes_short (k := k) he (by have := h9; omega)
    refine Cq (fun K10 k10 => ?_)
    refine Cr <| Lx.y (mv rfl) rfl <| ?_
    refine Lx.co rfl rfl rfl (CtC.of (post' := crow b ⟨c.s, c.at', 4⟩) (stop_ct c b _ 4) rfl (by rw [stop_eq he])) (Pe) rfl ?_
    refine Lx.nil ?_
    refine Xx.tn (k10 _ _ _ _ ?_)
    refine Cq (fun K11 k11 => ?_)
    refine Cr <| Lx.y (asg rfl) rfl <| Lx.nil <| ?_
    refine Xx.tn (k11 _ _ _ _ ?_)
    refine Cx.ret ?_
    refine Xx.br ?_
    refine Xx.tr ?_
    first | exact Xx.ret1 rfl rfl ⟨bV hu, rfl, rfl⟩ (Fl _) (bR hu) | exact Xx.ret1 rfl rfl ⟨(congrArg str (dropTakeAdd _ _ _)).trans (bV hu), rfl, rfl⟩ (Fl _) (bR hu)
   ·
    have hle : k ≤ c.s.length - c.at' := by have := h9; omega
    have hu := Cu.bytes_eq he hle
    refine Cx.skip <| Xx.bn <| ?_
    refine Xx.tn (k2 _ _ _ _ ?_)
    refine Cq (fun K12 k12 => ?_)
    refine Cr <| Lx.y (mv rfl) rfl <| Lx.y (nilc rfl) rfl <| Lx.y (fa' fo225_1 rfl) rfl <| Lx.y (ld U3 rfl rfl rfl) rfl <| Lx.y (mv rfl) rfl <| Lx.y (add rfl rfl (by first | exact wrap64 (by omega) (by omega) | rfl)) rfl <| Lx.y (nilc rfl) rfl <| Lx.y (fa' fo225_1 rfl) rfl <| ?_
    refine Lx.st (stO U3 sz3 rfl rfl rfl (by simp) rfl) ?_
    refine Lx.nil ?_
    refine Xx.tn (k12 _ _ _ _ ?_)
    refine Cq (fun K13 k13 => ?_)
    refine Cx.drawn (by kernel_rfl) ?_
    refine Dx.p (i := 0) rfl (by kernel_rfl) (mv rfl) rfl ?_
    refine Dx.p (i := 1) rfl (by kernel_rfl) (nilc rfl) rfl ?_
    refine Dx.p (i := 2) rfl (by kernel_rfl) (fa' fo225_0 rfl) rfl ?_
    refine Dx.r (i := 3) rfl (by kernel_rfl) (ld U9 rfl rfl rfl) rfl ?_
    refine Dx.p (i := 4) rfl (by kernel_rfl) (mv rfl) rfl ?_
    refine Dx.p (i := 5) rfl (by kernel_rfl) (nilc rfl) rfl ?_
    refine Dx.p (i := 6) rfl (by kernel_rfl) (fa' fo225_1 rfl) rfl ?_
    refine Dx.r (i := 7) rfl (by kernel_rfl) (ld U3 rfl rfl rfl) rfl ?_
    refine Dx.p (i := 8) rfl (by kernel_rfl) (mv rfl) rfl ?_
    refine Dx.p (i := 9) rfl (by kernel_rfl) (sub rfl rfl (show IntKind.i64.wrap _ = ((c.at' : Nat) : Int) by rw [wrap64 (by omega) (by omega)]; omega)) rfl ?_
    refine Dx.p (i := 10) rfl (by kernel_rfl) (mv rfl) rfl ?_
    refine Dx.p (i := 11) rfl (by kernel_rfl) (nilc rfl) rfl ?_
    refine Dx.p (i := 12) rfl (by kernel_rfl) (fa' fo225_1 rfl) rfl ?_
    refine Dx.r (i := 13) rfl (by kernel_rfl) (ld U3 rfl rfl rfl) rfl ?_
    refine Dx.p (i := 14) rfl (by kernel_rfl) (sl3S U9 rfl rfl rfl (by first | exact Int.toNat_natCast _ | rfl) (by first | exact Int.toNat_natCast _ | rfl) (by omega) (by omega) (by omega)) rfl ?_
    refine Dx.p (i := 15) rfl (by kernel_rfl) (asg rfl) rfl ?_
    refine Dx.done (by kernel_rfl) ?_
    refine Xx.tn (k13 _ _ _ _ ?_)
    refine Cx.ret ?_
    first | exact Xx.ret1 rfl rfl ⟨bV hu, rfl, rfl⟩ (Fl _) (bR hu) | exact Xx.ret1 rfl rfl ⟨(congrArg str (dropTakeAdd _ _ _)).trans (bV hu), rfl, rfl⟩ (Fl _) (bR hu)
set_option maxHeartbeats 1000000 in
theorem Text_ct (c : Cu) (b : Nat) (B : Frag) (most : Nat) (h : c.ok) (hm : most ≤ 1048576) : CtC Tryz.prog 163 [.pointer (some ⟨b, 0, none⟩), i64 (most : Nat)] B (crow b c) (str (c.text most).2) (crow b ((c.text most).1)) := by
 have hcl : (c.count most).2 ≤ 4611686018427387904 := by
  unfold Cu.count
  split
  ·show 0 ≤ _; omega
  ·show (if _ then _ else _) ≤ _
   split
   ·omega
   ·rename_i h3; have := cnt_err (by simpa using h3); omega
 refine Ct.of_body Tryz.func163 rfl (nt := 29) rfl (by kernel_rfl) rfl ?_
 intro N0 w0 R
 refine Cq (fun K1 k1 => ?_)
 refine Cr <| Lx.y (asg rfl) rfl <| Lx.nil <| ?_
 refine Xx.tn (k1 _ _ _ _ ?_)
 refine Cq (fun K2 k2 => ?_)
 refine Cq (fun K3 k3 => ?_)
 refine Cr <| Lx.y (mv rfl) rfl <| Lx.y (Yx.ff (eqNilP U202 rfl rfl) rfl) rfl <| Lx.nil <| ?_
 refine Xx.tn (k3 _ _ _ _ ?_)
 refine Cx.condF rfl <| Cx.skip <| ?_
 refine Xx.tn (k2 _ _ _ _ ?_)
 refine Cq (fun K4 k4 => ?_)
 refine Cr <| Lx.y (mv rfl) rfl <| Lx.y (nilc rfl) rfl <| Lx.y (fa' fo225_1 rfl) rfl <| Lx.y (ld U3 rfl rfl rfl) rfl <| Lx.y (asg rfl) rfl <| Lx.nil <| ?_
 refine Xx.tn (k4 _ _ _ _ ?_)
 refine Cq (fun K5 k5 => ?_)
 refine Cr <| Lx.y (mv rfl) rfl <| Lx.y (mv rfl) rfl <| Lx.y (mv rfl) rfl <| Lx.y (Yx.val (minI rfl rfl) (show _ = i64 ((most : Nat) : Int) by rw [if_neg (by omega)])) rfl <| ?_
 refine Lx.co rfl rfl rfl (Count_ct c b B most h (by omega)) (Pe) rfl ?_
 refine Lx.co rfl rfl rfl (Bytes_ct (c.count most).1 b B (c.count most).2 (Cu.count_ok h most) hcl) (Pe) rfl ?_
 refine Lx.y (asg rfl) rfl <| Lx.nil <| ?_
 refine Xx.tn (k5 _ _ _ _ ?_)
 refine Cq (fun K6 k6 => ?_)
 refine Cq (fun K7 k7 => ?_)
 refine Cr <| Lx.y (mv rfl) rfl <| Lx.y (nilc rfl) rfl <| Lx.y (fa' fo225_2 rfl) rfl <| Lx.y (ld U28 rfl rfl rfl) rfl <| Lx.y (neI rfl rfl) rfl <| Lx.nil <| ?_
 refine Xx.tn (k7 _ _ _ _ ?_)
 refine Cx.condN rfl (fun h8 => ?_) (fun h8 => ?_)
 ·
  have hu : c.text most = (⟨c.s, c.at', ((c.count most).1.bytes (c.count most).2).1.e⟩, ((c.count most).1.bytes (c.count most).2).2) := by unfold Cu.text; rw [if_pos h8]
  refine Cr <| Lx.y (mv rfl) rfl <| Lx.y (mv rfl) rfl <| Lx.y (nilc rfl) rfl <| Lx.y (fa' fo225_1 rfl) rfl <| ?_
  refine Lx.st (stO U3 sz3 rfl rfl rfl (by simp) rfl) ?_
  refine Lx.nil ?_
  refine Xx.tn (k6 _ _ _ _ ?_)
  refine Cq (fun K9 k9 => ?_)
  refine Cr <| Lx.y (mv rfl) rfl <| Lx.y (asg rfl) rfl <| Lx.nil <| ?_
  refine Xx.tn (k9 _ _ _ _ ?_)
  refine Cx.ret ?_
  first | exact Xx.ret1 rfl rfl ⟨tV hu rfl, rfl, rfl⟩ (Fl _) (tR hu rfl) | exact Xx.ret1 rfl rfl ⟨tV hu rfl, rfl, rfl⟩ (Fl _) ((congrArg (fun z : List UInt8 => row b 225 [str z, i64 (c.at' : Nat), i64 _] * R) (((c.count most).1.bytes_s _).trans (c.count_s _))).trans (tR hu rfl))
 ·
  have hu : c.text most = (((c.count most).1.bytes (c.count most).2).1, ((c.count most).1.bytes (c.count most).2).2) := by unfold Cu.text; rw [if_neg (by have := h8; simpa using this)]
  refine Cx.skip ?_
  refine Xx.tn (k6 _ _ _ _ ?_)
  refine Cq (fun K10 k10 => ?_)
  refine Cr <| Lx.y (mv rfl) rfl <| Lx.y (asg rfl) rfl <| Lx.nil <| ?_
  refine Xx.tn (k10 _ _ _ _ ?_)
  refine Cx.ret ?_
  first | exact Xx.ret1 rfl rfl ⟨tV hu rfl, rfl, rfl⟩ (Fl _) (tR hu rfl) | exact Xx.ret1 rfl rfl ⟨tV hu rfl, rfl, rfl⟩ (Fl _) ((congrArg (fun z : List UInt8 => row b 225 [str z, i64 (c.at' : Nat), i64 _] * R) (((c.count most).1.bytes_s _).trans (c.count_s _))).trans (tR hu rfl))
set_option maxHeartbeats 1000000 in
theorem End_ct (c : Cu) (b : Nat) (B : Frag) (h : c.ok) : CtC Tryz.prog 137 [.pointer (some ⟨b, 0, none⟩)] B (crow b c) (i64 c.fin.e) (crow b (c.fin)) := by
 obtain ⟨hat, hsl⟩ := h
 refine Ct.of_body Tryz.func137 rfl (nt := 21) rfl (by kernel_rfl) rfl ?_
 intro N0 w0 R
 refine Cq (fun K1 k1 => ?_)
 refine Cr <| Lx.y (asg rfl) rfl <| Lx.nil <| ?_
 refine Xx.tn (k1 _ _ _ _ ?_)
 refine Cq (fun K2 k2 => ?_)
 refine Cq (fun K3 k3 => ?_)
 refine Cr <| Lx.y (mv rfl) rfl <| Lx.y (Yx.ff (eqNilP U202 rfl rfl) rfl) rfl <| Lx.nil <| ?_
 refine Xx.tn (k3 _ _ _ _ ?_)
 refine Cx.condF rfl <| Cx.skip <| ?_
 refine Xx.tn (k2 _ _ _ _ ?_)
 refine Cx.cutK (ds' := []) (Sc 0 rfl (Sc 2 rfl (Sc 3 rfl (Sc 4 rfl (Sub.nil _))))) (fun ρ' B' H' => ρ' = [] ∧ B = B' ∧ crow b c.fin * R = H') ?_ ?_
 ·
  refine Cq (fun K4 k4 => ?_)
  refine Cx.drawn (by kernel_rfl) ?_
  refine Dx.p (i := 0) rfl (by kernel_rfl) (mv rfl) rfl ?_
  refine Dx.p (i := 1) rfl (by kernel_rfl) (nilc rfl) rfl ?_
  refine Dx.p (i := 2) rfl (by kernel_rfl) (fa' fo225_1 rfl) rfl ?_
  refine Dx.r (i := 3) rfl (by kernel_rfl) (ld U3 rfl rfl rfl) rfl ?_
  refine Dx.p (i := 4) rfl (by kernel_rfl) (mv rfl) rfl ?_
  refine Dx.p (i := 5) rfl (by kernel_rfl) (nilc rfl) rfl ?_
  refine Dx.p (i := 6) rfl (by kernel_rfl) (fa' fo225_0 rfl) rfl ?_
  refine Dx.r (i := 7) rfl (by kernel_rfl) (ld U9 rfl rfl rfl) rfl ?_
  refine Dx.p (i := 8) rfl (by kernel_rfl) (lenS U9 rfl) rfl ?_
  refine Dx.p (i := 9) rfl (by kernel_rfl) (lss rfl rfl) rfl ?_
  refine Dx.done (by kernel_rfl) ?_
  refine Xx.tn (k4 _ _ _ _ ?_)
  refine Cx.condD rfl (fun h5 => ?_) (fun h5 => ?_)
  ·
   have hlt := h5
   refine Cr <| Lx.y (mv rfl) rfl <| ?_
   refine Lx.co rfl rfl rfl (stop_ct c b B 5) (Pe) rfl ?_
   refine Lx.nil ?_
   exact Xx.mkK (⟨rfl, rfl, by unfold Cu.fin; rw [if_pos (by omega)]⟩) (Sc 0 rfl (Sc 2 rfl (Sc 3 rfl (Sc 4 rfl (Sub.nil _)))))
  ·
   have hlt := h5
   refine Cx.skip ?_
   exact Xx.mkK (⟨rfl, rfl, by unfold Cu.fin; rw [if_neg (by omega)]⟩) (Sc 0 rfl (Sc 2 rfl (Sc 3 rfl (Sc 4 rfl (Sub.nil _)))))
 ·rintro ρ' B' H' ⟨rfl, rfl, rfl⟩
  refine Cq (fun K6 k6 => ?_)
  refine Cr <| Lx.y (mv rfl) rfl <| Lx.y (nilc rfl) rfl <| Lx.y (fa' fo225_2 rfl) rfl <| Lx.y (ld U28 rfl rfl rfl) rfl <| Lx.y (asg rfl) rfl <| Lx.nil <| ?_
  refine Xx.tn (k6 _ _ _ _ ?_)
  refine Cx.ret ?_
  exact Xx.ret1 rfl rfl ⟨rfl, rfl, rfl⟩ (Fl _) rfl
set_option maxHeartbeats 1000000 in
theorem At_ct (s : List UInt8) (B : Frag) : Ct Tryz.prog 134 [str s] B 1 (fun v B' H' => ∃ b, v = .pointer (some ⟨b, 0, none⟩) ∧ B' = B ∧ H' = crow b ⟨s, 0, 0⟩) := by
 refine Ct.of_body Tryz.func134 rfl (nt := 6) rfl (by kernel_rfl) rfl ?_
 intro N0 w0 R
 rw [one_star]
 refine Cq (fun K1 k1 => ?_)
 refine Cr <| Lx.y (asg rfl) rfl <| Lx.nil <| ?_
 refine Xx.tn (k1 _ _ _ _ ?_)
 refine Cq (fun K2 k2 => ?_)
 refine Cr <| Lx.y (mv rfl) rfl <| Lx.y (bld ti225 pl225 rfl rfl) rfl <| ?_
 refine Lx.new (boxA rfl) rfl (fun b5 => ?_)
 refine Lx.y (asg rfl) rfl <| Lx.nil <| ?_
 refine Xx.tn (k2 _ _ _ _ ?_)
 refine Cx.ret ?_
 exact Xx.ret1 rfl rfl ⟨b5, rfl, rfl, rfl⟩ (Fl _) rfl
end VhH
end Go.Proofs.YthlfffbcligocaaGreat
namespace Go.Proofs.YthlfffbcligocaaGreat
open Go.SL Go.RowKit
set_option maxRecDepth 100000
open VhA VhB VhC VhD VhE VhF VhG VhH
namespace VhI
theorem sz9 : (Tryz.prog.info? 9).map (·.size) = some 1 := by kernel_rfl
theorem ti9 : TI Tryz.prog 9 [str []] 1 16 := TI.of (by kernel_rfl) rfl rfl
theorem ti132 : TI Tryz.prog 132 [.slice none 0 0, .slice none 0 0] 2 48 := TI.of (by kernel_rfl) rfl rfl
theorem fo132_0 : FO Tryz.prog 132 0 0 1 false := FO.of U132 rfl rfl (by kernel_rfl) U43 rfl rfl
theorem pl132 : PL Tryz.prog 132 [(0, 1), (1, 1)] := PL.of U132 (by kernel_rfl)
structure Mk where
  lv : List (List UInt8)
  pk : List (List UInt8)
  Al : Option Addr
  cl : Nat
  Ap : Option Addr
  cp : Nat
def mkH (tb : Nat) (t : Mk) : HP := row tb 132 [.slice t.Al t.lv.length t.cl, .slice t.Ap t.pk.length t.cp] * (sbuf 9 1 t.Al t.lv.length t.cl (t.lv.map str) * sbuf 9 1 t.Ap t.pk.length t.cp (t.pk.map str))
set_option maxHeartbeats 1000000 in
theorem MNew_ct (B : Frag) : Ct Tryz.prog 104 [] B 1 (fun v B' H' => B' = B ∧ ∃ tb, v = .pointer (some ⟨tb, 0, none⟩) ∧ H' = mkH tb ⟨[], [], none, 0, none, 0⟩) := by
 refine Ct.of_body Tryz.func104 rfl (nt := 3) rfl (by kernel_rfl) rfl ?_
 intro N0 w0 R
 rw [one_star]
 refine Cq (fun K1 k1 => ?_)
 refine Cr <| Lx.y (asg rfl) rfl <| Lx.nil <| ?_
 refine Xx.tn (k1 _ _ _ _ ?_)
 refine Cq (fun K2 k2 => ?_)
 refine Cr <| Lx.y (bld ti132 pl132 rfl rfl) rfl <| ?_
 refine Lx.new (boxA rfl) rfl (fun tb => ?_)
 refine Lx.y (asg rfl) rfl <| Lx.nil <| ?_
 refine Xx.tn (k2 _ _ _ _ ?_)
 refine Cx.ret ?_
 exact Xx.ret1 rfl rfl ⟨rfl, tb, rfl, rfl⟩ (Fl _) (by unfold mkH; simp only [List.map_nil, List.length_nil, sbuf_nil, star_one])
end VhI
end Go.Proofs.YthlfffbcligocaaGreat
namespace Go.Proofs.YthlfffbcligocaaGreat
open Go.SL Go.RowKit
set_option maxRecDepth 100000
open VhA VhB VhC VhD VhE VhF VhG VhH VhI
namespace VhJ
theorem sz3 : (Tryz.prog.info? 3).map (·.size) = some 1 := by kernel_rfl
theorem sz5 : (Tryz.prog.info? 5).map (·.size) = some 1 := by kernel_rfl
theorem sz9 : (Tryz.prog.info? 9).map (·.size) = some 1 := by kernel_rfl
theorem sz22 : (Tryz.prog.info? 22).map (·.size) = some 1 := by kernel_rfl
theorem sz40 : (Tryz.prog.info? 40).map (·.size) = some 8 := by kernel_rfl
theorem ti5 : TI Tryz.prog 5 [.int .u8 0] 1 1 := TI.of (by kernel_rfl) rfl rfl
theorem fo40_0 : FO Tryz.prog 40 0 0 1 false := FO.of U40 rfl rfl (by kernel_rfl) U3 rfl rfl
theorem fo40_1 : FO Tryz.prog 40 1 1 1 false := FO.of U40 rfl rfl (by kernel_rfl) U9 rfl rfl
theorem fo40_2 : FO Tryz.prog 40 2 2 1 false := FO.of U40 rfl rfl (by kernel_rfl) U9 rfl rfl
theorem fo40_3 : FO Tryz.prog 40 3 3 1 false := FO.of U40 rfl rfl (by kernel_rfl) U22 rfl rfl
theorem fo40_4 : FO Tryz.prog 40 4 4 1 false := FO.of U40 rfl rfl (by kernel_rfl) U22 rfl rfl
theorem fo40_5 : FO Tryz.prog 40 5 5 1 false := FO.of U40 rfl rfl (by kernel_rfl) U9 rfl rfl
structure Rv where
  op : Int
  tab : List UInt8
  fld : List UInt8
  doc : BitVec 64
  ver : BitVec 64
  hash : List UInt8
  body : List UInt8
  gone : Bool
def rvc (r : Rv) : List Value := [i64 r.op, str r.tab, str r.fld, u64 r.doc, u64 r.ver, str r.hash, str r.body, .bool r.gone]
def bodB (op : Int) : Bool := decide (op = 3) || decide (op = 4)
def encT (s : List UInt8) : List UInt8 := uvL (BitVec.ofInt 64 (s.length : Nat)) ++ s
def metaF (r : Rv) : List UInt8 := [toB r.op] ++ encT r.tab ++ encT r.fld ++ uvL r.doc ++ uvL r.ver ++ encT r.hash
def sealF (r : Rv) : Rv := if bodB r.op = true then { r with hash := leafF r.body } else r
theorem uvL_len (n : BitVec 64) : (uvL n).length ≤ 11 := uvF_len 10 n
set_option maxHeartbeats 1000000 in
theorem bodied_ct (op : Int) (B : Frag) : CtP Tryz.prog 92 [i64 op] B (.bool (bodB op)) := by
 refine CtB.of_body Tryz.func92 rfl (nt := 9) rfl (by kernel_rfl) rfl ?_
 intro N0 w0 R
 refine Cq (fun K1 k1 => ?_)
 refine Cr <| Lx.y (asg rfl) rfl <| Lx.nil <| ?_
 refine Xx.tn (k1 _ _ _ _ ?_)
 refine Cq (fun K2 k2 => ?_)
 refine Cr <| Lx.y (mv rfl) rfl <| Lx.y (eqI rfl rfl) rfl <| Lx.y (mv rfl) rfl <| ?_
 refine Xx.ifD (t := 5) rfl (fun h3 => ?_) (fun h3 => ?_)
 ·
  have g := h3
  refine Lx.gF rfl rfl rfl rfl <| Lx.gF rfl rfl rfl rfl <| Lx.y (pickT rfl rfl) rfl <| Lx.y (asg rfl) rfl <| Lx.nil <| ?_
  refine Xx.tn (k2 _ _ _ _ ?_)
  refine Cx.ret ?_
  exact Xx.rB1 rfl rfl ⟨congrArg Value.bool (by unfold bodB; simp_all), rfl⟩ (Fl _) rfl
 ·
  have g := h3
  refine Lx.gT rfl rfl rfl <| Lx.y (mv rfl) rfl <| Lx.gT rfl rfl rfl <| Lx.y (eqI rfl rfl) rfl <| Lx.y (pickF rfl rfl) rfl <| Lx.y (asg rfl) rfl <| Lx.nil <| ?_
  refine Xx.tn (k2 _ _ _ _ ?_)
  refine Cx.ret ?_
  exact Xx.rB1 rfl rfl ⟨congrArg Value.bool (by unfold bodB; simp_all), rfl⟩ (Fl _) rfl
set_option maxHeartbeats 4000000 in
theorem meta_ct (r : Rv) (B : Frag) (h1 : r.tab.length ≤ 1000000) (h2 : r.fld.length ≤ 1000000) (h3 : r.hash.length ≤ 1000000) : CtP Tryz.prog 86 [.agg (rvc r).toArray] B (str (metaF r)) := by
 have e1 := uvL_len (BitVec.ofInt 64 (r.tab.length : Nat))
 have e2 := uvL_len (BitVec.ofInt 64 (r.fld.length : Nat))
 have e3 := uvL_len (BitVec.ofInt 64 (r.hash.length : Nat))
 have e4 := uvL_len r.doc
 have e5 := uvL_len r.ver
 refine CtB.of_body Tryz.func86 rfl (nt := 28) rfl (by kernel_rfl) rfl ?_
 intro N0 w0 R
 refine Cq (fun K1 k1 => ?_)
 refine Cr ?_
 refine Lx.new (boxA rfl) rfl (fun b1 => ?_)
 refine Lx.y (asg rfl) rfl <| Lx.nil <| ?_
 refine Xx.tn (k1 _ _ _ _ ?_)
 refine Cq (fun K2 k2 => ?_)
 refine Cx.drawn (by kernel_rfl) ?_
 refine Dx.p (i := 0) rfl (by kernel_rfl) (fa' fo40_0 rfl) rfl ?_
 refine Dx.r (i := 1) rfl (by kernel_rfl) (ld U3 rfl rfl rfl) rfl ?_
 refine Dx.p (i := 2) rfl (by kernel_rfl) (cvI rfl U3 U5 (wrap_u8 _)) rfl ?_
 refine Dx.p (i := 5) rfl (by kernel_rfl) (fa' fo40_1 rfl) rfl ?_
 refine Dx.r (i := 6) rfl (by kernel_rfl) (ld U9 rfl rfl rfl) rfl ?_
 refine Dx.p (i := 9) rfl (by kernel_rfl) (fa' fo40_2 rfl) rfl ?_
 refine Dx.r (i := 10) rfl (by kernel_rfl) (ld U9 rfl rfl rfl) rfl ?_
 refine Dx.p (i := 13) rfl (by kernel_rfl) (fa' fo40_3 rfl) rfl ?_
 refine Dx.r (i := 14) rfl (by kernel_rfl) (ld U22 rfl rfl rfl) rfl ?_
 refine Dx.p (i := 17) rfl (by kernel_rfl) (fa' fo40_4 rfl) rfl ?_
 refine Dx.r (i := 18) rfl (by kernel_rfl) (ld U22 rfl rfl rfl) rfl ?_
 refine Dx.p (i := 21) rfl (by kernel_rfl) (fa' fo40_5 rfl) rfl ?_
 refine Dx.r (i := 22) rfl (by kernel_rfl) (ld U9 rfl rfl rfl) rfl ?_
 refine Dx.two (i := 3) (j := 7) (by kernel_rfl) ?_ ?_
 ·
  refine Dstep.o (i := 3) rfl (bsl1 U107 ti5 rfl rfl rfl (by decide)) rfl (fun v B' H' hΦ hB => ?_)
  obtain ⟨bs, rfl, Y, rfl⟩ := hΦ; have E := Y.symm; subst E; clear hB
  refine ⟨Jy (Jy (Jy (Jy (Jy (Jy (Jt) (ld U3 rfl rfl rfl)) (ld U9 rfl rfl rfl)) (ld U9 rfl rfl rfl)) (ld U22 rfl rfl rfl)) (ld U22 rfl rfl rfl)) (ld U9 rfl rfl rfl), ?_⟩
  refine Dx.r (i := 4) rfl (by kernel_rfl) (b2sR U107 U5 U9 rfl (u8s_cons u8s_nil) rfl) rfl ?_
  refine Dx.one (i := 7) (by kernel_rfl) ?_
  refine Dstep.o (i := 7) rfl (Ox.cb rfl rfl rfl (encText_ct r.tab _ (by omega))) rfl (fun v B' H' hΦ hB => ?_)
  obtain ⟨rfl, rfl, Y⟩ := hΦ; have E := Y.symm; subst E; clear hB
  refine ⟨Jy (Jy (Jy (Jy (Jy (Je (Jy (Jt) (ld U3 rfl rfl rfl)) (by kernel_rfl)) (ld U9 rfl rfl rfl)) (ld U22 rfl rfl rfl)) (ld U22 rfl rfl rfl)) (ld U9 rfl rfl rfl)) (b2sR U107 U5 U9 rfl (u8s_cons u8s_nil) rfl), ?_⟩
  refine Dx.p (i := 8) rfl (by kernel_rfl) (catS rfl rfl (by simp only [List.length_append, List.length_singleton, List.length_cons, List.length_nil]; omega)) rfl ?_
  refine Dx.one (i := 11) (by kernel_rfl) ?_
  refine Dstep.o (i := 11) rfl (Ox.cb rfl rfl rfl (encText_ct r.fld _ (by omega))) rfl (fun v B' H' hΦ hB => ?_)
  obtain ⟨rfl, rfl, Y⟩ := hΦ; have E := Y.symm; subst E; clear hB
  refine ⟨Jy (Jy (Jy (Jy (Je (Jy (Jy (Jt) (ld U3 rfl rfl rfl)) (ld U9 rfl rfl rfl)) (by kernel_rfl)) (ld U22 rfl rfl rfl)) (ld U22 rfl rfl rfl)) (ld U9 rfl rfl rfl)) (b2sR U107 U5 U9 rfl (u8s_cons u8s_nil) rfl), ?_⟩
  refine Dx.p (i := 12) rfl (by kernel_rfl) (catS rfl rfl (by simp only [List.length_append, List.length_singleton, List.length_cons, List.length_nil]; omega)) rfl ?_
  refine Dx.one (i := 15) (by kernel_rfl) ?_
  refine Dstep.o (i := 15) rfl (Ox.cb rfl rfl rfl (encUint_ct r.doc _)) rfl (fun v B' H' hΦ hB => ?_)
  obtain ⟨rfl, rfl, Y⟩ := hΦ; have E := Y.symm; subst E; clear hB
  refine ⟨Jy (Jy (Jy (Je (Jy (Jy (Jy (Jt) (ld U3 rfl rfl rfl)) (ld U9 rfl rfl rfl)) (ld U9 rfl rfl rfl)) (by kernel_rfl)) (ld U22 rfl rfl rfl)) (ld U9 rfl rfl rfl)) (b2sR U107 U5 U9 rfl (u8s_cons u8s_nil) rfl), ?_⟩
  refine Dx.p (i := 16) rfl (by kernel_rfl) (catS rfl rfl (by simp only [List.length_append, List.length_singleton, List.length_cons, List.length_nil]; omega)) rfl ?_
  refine Dx.one (i := 19) (by kernel_rfl) ?_
  refine Dstep.o (i := 19) rfl (Ox.cb rfl rfl rfl (encUint_ct r.ver _)) rfl (fun v B' H' hΦ hB => ?_)
  obtain ⟨rfl, rfl, Y⟩ := hΦ; have E := Y.symm; subst E; clear hB
  refine ⟨Jy (Jy (Je (Jy (Jy (Jy (Jy (Jt) (ld U3 rfl rfl rfl)) (ld U9 rfl rfl rfl)) (ld U9 rfl rfl rfl)) (ld U22 rfl rfl rfl)) (by kernel_rfl)) (ld U9 rfl rfl rfl)) (b2sR U107 U5 U9 rfl (u8s_cons u8s_nil) rfl), ?_⟩
  refine Dx.p (i := 20) rfl (by kernel_rfl) (catS rfl rfl (by simp only [List.length_append, List.length_singleton, List.length_cons, List.length_nil]; omega)) rfl ?_
  refine Dx.one (i := 23) (by kernel_rfl) ?_
  refine Dstep.o (i := 23) rfl (Ox.cb rfl rfl rfl (encText_ct r.hash _ (by omega))) rfl (fun v B' H' hΦ hB => ?_)
  obtain ⟨rfl, rfl, Y⟩ := hΦ; have E := Y.symm; subst E; clear hB
  refine ⟨Jy (Je (Jy (Jy (Jy (Jy (Jy (Jt) (ld U3 rfl rfl rfl)) (ld U9 rfl rfl rfl)) (ld U9 rfl rfl rfl)) (ld U22 rfl rfl rfl)) (ld U22 rfl rfl rfl)) (by kernel_rfl)) (b2sR U107 U5 U9 rfl (u8s_cons u8s_nil) rfl), ?_⟩
  refine Dx.p (i := 24) rfl (by kernel_rfl) (Yx.val (catS rfl rfl (by simp only [List.length_append, List.length_singleton, List.length_cons, List.length_nil]; omega)) (show _ = str (metaF r) from rfl)) rfl ?_
  refine Dx.p (i := 25) rfl (by kernel_rfl) (asg rfl) rfl ?_
  refine Dx.done (by kernel_rfl) ?_
  refine Xx.tn (k2 _ _ _ _ ?_)
  refine Cx.ret ?_
  refine Xx.dropB b1 (Xx.dropB bs ?_)
  exact Xx.rB1 rfl rfl ⟨rfl, rfl⟩ (Fl _) rfl
 refine Dstep.o (i := 7) rfl (Ox.cb rfl rfl rfl (encText_ct r.tab _ (by omega))) rfl (fun v B' H' hΦ hB => ?_)
 obtain ⟨rfl, rfl, Y⟩ := hΦ; have E := Y.symm; subst E; clear hB
 refine ⟨Jy (Jy (Jy (Jy (Je (Jy (Jt) (ld U3 rfl rfl rfl)) (by kernel_rfl)) (ld U9 rfl rfl rfl)) (ld U22 rfl rfl rfl)) (ld U22 rfl rfl rfl)) (ld U9 rfl rfl rfl), ?_⟩
 refine Dx.two (i := 3) (j := 11) (by kernel_rfl) ?_ ?_
 ·
  refine Dstep.o (i := 3) rfl (bsl1 U107 ti5 rfl rfl rfl (by decide)) rfl (fun v B' H' hΦ hB => ?_)
  obtain ⟨bs, rfl, Y, rfl⟩ := hΦ; have E := Y.symm; subst E; clear hB
  refine ⟨Jy (Jy (Jy (Jy (Jy (Jy (Jt) (ld U3 rfl rfl rfl)) (ld U9 rfl rfl rfl)) (ld U9 rfl rfl rfl)) (ld U22 rfl rfl rfl)) (ld U22 rfl rfl rfl)) (ld U9 rfl rfl rfl), ?_⟩
  refine Dx.r (i := 4) rfl (by kernel_rfl) (b2sR U107 U5 U9 rfl (u8s_cons u8s_nil) rfl) rfl ?_
  refine Dx.p (i := 8) rfl (by kernel_rfl) (catS rfl rfl (by simp only [List.length_append, List.length_singleton, List.length_cons, List.length_nil]; omega)) rfl ?_
  refine Dx.one (i := 11) (by kernel_rfl) ?_
  refine Dstep.o (i := 11) rfl (Ox.cb rfl rfl rfl (encText_ct r.fld _ (by omega))) rfl (fun v B' H' hΦ hB => ?_)
  obtain ⟨rfl, rfl, Y⟩ := hΦ; have E := Y.symm; subst E; clear hB
  refine ⟨Jy (Jy (Jy (Jy (Je (Jy (Jy (Jt) (ld U3 rfl rfl rfl)) (ld U9 rfl rfl rfl)) (by kernel_rfl)) (ld U22 rfl rfl rfl)) (ld U22 rfl rfl rfl)) (ld U9 rfl rfl rfl)) (b2sR U107 U5 U9 rfl (u8s_cons u8s_nil) rfl), ?_⟩
  refine Dx.p (i := 12) rfl (by kernel_rfl) (catS rfl rfl (by simp only [List.length_append, List.length_singleton, List.length_cons, List.length_nil]; omega)) rfl ?_
  refine Dx.one (i := 15) (by kernel_rfl) ?_
  refine Dstep.o (i := 15) rfl (Ox.cb rfl rfl rfl (encUint_ct r.doc _)) rfl (fun v B' H' hΦ hB => ?_)
  obtain ⟨rfl, rfl, Y⟩ := hΦ; have E := Y.symm; subst E; clear hB
  refine ⟨Jy (Jy (Jy (Je (Jy (Jy (Jy (Jt) (ld U3 rfl rfl rfl)) (ld U9 rfl rfl rfl)) (ld U9 rfl rfl rfl)) (by kernel_rfl)) (ld U22 rfl rfl rfl)) (ld U9 rfl rfl rfl)) (b2sR U107 U5 U9 rfl (u8s_cons u8s_nil) rfl), ?_⟩
  refine Dx.p (i := 16) rfl (by kernel_rfl) (catS rfl rfl (by simp only [List.length_append, List.length_singleton, List.length_cons, List.length_nil]; omega)) rfl ?_
  refine Dx.one (i := 19) (by kernel_rfl) ?_
  refine Dstep.o (i := 19) rfl (Ox.cb rfl rfl rfl (encUint_ct r.ver _)) rfl (fun v B' H' hΦ hB => ?_)
  obtain ⟨rfl, rfl, Y⟩ := hΦ; have E := Y.symm; subst E; clear hB
  refine ⟨Jy (Jy (Je (Jy (Jy (Jy (Jy (Jt) (ld U3 rfl rfl rfl)) (ld U9 rfl rfl rfl)) (ld U9 rfl rfl rfl)) (ld U22 rfl rfl rfl)) (by kernel_rfl)) (ld U9 rfl rfl rfl)) (b2sR U107 U5 U9 rfl (u8s_cons u8s_nil) rfl), ?_⟩
  refine Dx.p (i := 20) rfl (by kernel_rfl) (catS rfl rfl (by simp only [List.length_append, List.length_singleton, List.length_cons, List.length_nil]; omega)) rfl ?_
  refine Dx.one (i := 23) (by kernel_rfl) ?_
  refine Dstep.o (i := 23) rfl (Ox.cb rfl rfl rfl (encText_ct r.hash _ (by omega))) rfl (fun v B' H' hΦ hB => ?_)
  obtain ⟨rfl, rfl, Y⟩ := hΦ; have E := Y.symm; subst E; clear hB
  refine ⟨Jy (Je (Jy (Jy (Jy (Jy (Jy (Jt) (ld U3 rfl rfl rfl)) (ld U9 rfl rfl rfl)) (ld U9 rfl rfl rfl)) (ld U22 rfl rfl rfl)) (ld U22 rfl rfl rfl)) (by kernel_rfl)) (b2sR U107 U5 U9 rfl (u8s_cons u8s_nil) rfl), ?_⟩
  refine Dx.p (i := 24) rfl (by kernel_rfl) (Yx.val (catS rfl rfl (by simp only [List.length_append, List.length_singleton, List.length_cons, List.length_nil]; omega)) (show _ = str (metaF r) from rfl)) rfl ?_
  refine Dx.p (i := 25) rfl (by kernel_rfl) (asg rfl) rfl ?_
  refine Dx.done (by kernel_rfl) ?_
  refine Xx.tn (k2 _ _ _ _ ?_)
  refine Cx.ret ?_
  refine Xx.dropB b1 (Xx.dropB bs ?_)
  exact Xx.rB1 rfl rfl ⟨rfl, rfl⟩ (Fl _) rfl
 refine Dstep.o (i := 11) rfl (Ox.cb rfl rfl rfl (encText_ct r.fld _ (by omega))) rfl (fun v B' H' hΦ hB => ?_)
 obtain ⟨rfl, rfl, Y⟩ := hΦ; have E := Y.symm; subst E; clear hB
 refine ⟨Jy (Jy (Jy (Je (Jy (Jy (Jt) (ld U3 rfl rfl rfl)) (ld U9 rfl rfl rfl)) (by kernel_rfl)) (ld U22 rfl rfl rfl)) (ld U22 rfl rfl rfl)) (ld U9 rfl rfl rfl), ?_⟩
 refine Dx.two (i := 3) (j := 15) (by kernel_rfl) ?_ ?_
 ·
  refine Dstep.o (i := 3) rfl (bsl1 U107 ti5 rfl rfl rfl (by decide)) rfl (fun v B' H' hΦ hB => ?_)
  obtain ⟨bs, rfl, Y, rfl⟩ := hΦ; have E := Y.symm; subst E; clear hB
  refine ⟨Jy (Jy (Jy (Jy (Jy (Jy (Jt) (ld U3 rfl rfl rfl)) (ld U9 rfl rfl rfl)) (ld U9 rfl rfl rfl)) (ld U22 rfl rfl rfl)) (ld U22 rfl rfl rfl)) (ld U9 rfl rfl rfl), ?_⟩
  refine Dx.r (i := 4) rfl (by kernel_rfl) (b2sR U107 U5 U9 rfl (u8s_cons u8s_nil) rfl) rfl ?_
  refine Dx.p (i := 8) rfl (by kernel_rfl) (catS rfl rfl (by simp only [List.length_append, List.length_singleton, List.length_cons, List.length_nil]; omega)) rfl ?_
  refine Dx.p (i := 12) rfl (by kernel_rfl) (catS rfl rfl (by simp only [List.length_append, List.length_singleton, List.length_cons, List.length_nil]; omega)) rfl ?_
  refine Dx.one (i := 15) (by kernel_rfl) ?_
  refine Dstep.o (i := 15) rfl (Ox.cb rfl rfl rfl (encUint_ct r.doc _)) rfl (fun v B' H' hΦ hB => ?_)
  obtain ⟨rfl, rfl, Y⟩ := hΦ; have E := Y.symm; subst E; clear hB
  refine ⟨Jy (Jy (Jy (Je (Jy (Jy (Jy (Jt) (ld U3 rfl rfl rfl)) (ld U9 rfl rfl rfl)) (ld U9 rfl rfl rfl)) (by kernel_rfl)) (ld U22 rfl rfl rfl)) (ld U9 rfl rfl rfl)) (b2sR U107 U5 U9 rfl (u8s_cons u8s_nil) rfl), ?_⟩
  refine Dx.p (i := 16) rfl (by kernel_rfl) (catS rfl rfl (by simp only [List.length_append, List.length_singleton, List.length_cons, List.length_nil]; omega)) rfl ?_
  refine Dx.one (i := 19) (by kernel_rfl) ?_
  refine Dstep.o (i := 19) rfl (Ox.cb rfl rfl rfl (encUint_ct r.ver _)) rfl (fun v B' H' hΦ hB => ?_)
  obtain ⟨rfl, rfl, Y⟩ := hΦ; have E := Y.symm; subst E; clear hB
  refine ⟨Jy (Jy (Je (Jy (Jy (Jy (Jy (Jt) (ld U3 rfl rfl rfl)) (ld U9 rfl rfl rfl)) (ld U9 rfl rfl rfl)) (ld U22 rfl rfl rfl)) (by kernel_rfl)) (ld U9 rfl rfl rfl)) (b2sR U107 U5 U9 rfl (u8s_cons u8s_nil) rfl), ?_⟩
  refine Dx.p (i := 20) rfl (by kernel_rfl) (catS rfl rfl (by simp only [List.length_append, List.length_singleton, List.length_cons, List.length_nil]; omega)) rfl ?_
  refine Dx.one (i := 23) (by kernel_rfl) ?_
  refine Dstep.o (i := 23) rfl (Ox.cb rfl rfl rfl (encText_ct r.hash _ (by omega))) rfl (fun v B' H' hΦ hB => ?_)
  obtain ⟨rfl, rfl, Y⟩ := hΦ; have E := Y.symm; subst E; clear hB
  refine ⟨Jy (Je (Jy (Jy (Jy (Jy (Jy (Jt) (ld U3 rfl rfl rfl)) (ld U9 rfl rfl rfl)) (ld U9 rfl rfl rfl)) (ld U22 rfl rfl rfl)) (ld U22 rfl rfl rfl)) (by kernel_rfl)) (b2sR U107 U5 U9 rfl (u8s_cons u8s_nil) rfl), ?_⟩
  refine Dx.p (i := 24) rfl (by kernel_rfl) (Yx.val (catS rfl rfl (by simp only [List.length_append, List.length_singleton, List.length_cons, List.length_nil]; omega)) (show _ = str (metaF r) from rfl)) rfl ?_
  refine Dx.p (i := 25) rfl (by kernel_rfl) (asg rfl) rfl ?_
  refine Dx.done (by kernel_rfl) ?_
  refine Xx.tn (k2 _ _ _ _ ?_)
  refine Cx.ret ?_
  refine Xx.dropB b1 (Xx.dropB bs ?_)
  exact Xx.rB1 rfl rfl ⟨rfl, rfl⟩ (Fl _) rfl
 refine Dstep.o (i := 15) rfl (Ox.cb rfl rfl rfl (encUint_ct r.doc _)) rfl (fun v B' H' hΦ hB => ?_)
 obtain ⟨rfl, rfl, Y⟩ := hΦ; have E := Y.symm; subst E; clear hB
 refine ⟨Jy (Jy (Je (Jy (Jy (Jy (Jt) (ld U3 rfl rfl rfl)) (ld U9 rfl rfl rfl)) (ld U9 rfl rfl rfl)) (by kernel_rfl)) (ld U22 rfl rfl rfl)) (ld U9 rfl rfl rfl), ?_⟩
 refine Dx.two (i := 3) (j := 19) (by kernel_rfl) ?_ ?_
 ·
  refine Dstep.o (i := 3) rfl (bsl1 U107 ti5 rfl rfl rfl (by decide)) rfl (fun v B' H' hΦ hB => ?_)
  obtain ⟨bs, rfl, Y, rfl⟩ := hΦ; have E := Y.symm; subst E; clear hB
  refine ⟨Jy (Jy (Jy (Jy (Jy (Jy (Jt) (ld U3 rfl rfl rfl)) (ld U9 rfl rfl rfl)) (ld U9 rfl rfl rfl)) (ld U22 rfl rfl rfl)) (ld U22 rfl rfl rfl)) (ld U9 rfl rfl rfl), ?_⟩
  refine Dx.r (i := 4) rfl (by kernel_rfl) (b2sR U107 U5 U9 rfl (u8s_cons u8s_nil) rfl) rfl ?_
  refine Dx.p (i := 8) rfl (by kernel_rfl) (catS rfl rfl (by simp only [List.length_append, List.length_singleton, List.length_cons, List.length_nil]; omega)) rfl ?_
  refine Dx.p (i := 12) rfl (by kernel_rfl) (catS rfl rfl (by simp only [List.length_append, List.length_singleton, List.length_cons, List.length_nil]; omega)) rfl ?_
  refine Dx.p (i := 16) rfl (by kernel_rfl) (catS rfl rfl (by simp only [List.length_append, List.length_singleton, List.length_cons, List.length_nil]; omega)) rfl ?_
  refine Dx.one (i := 19) (by kernel_rfl) ?_
  refine Dstep.o (i := 19) rfl (Ox.cb rfl rfl rfl (encUint_ct r.ver _)) rfl (fun v B' H' hΦ hB => ?_)
  obtain ⟨rfl, rfl, Y⟩ := hΦ; have E := Y.symm; subst E; clear hB
  refine ⟨Jy (Jy (Je (Jy (Jy (Jy (Jy (Jt) (ld U3 rfl rfl rfl)) (ld U9 rfl rfl rfl)) (ld U9 rfl rfl rfl)) (ld U22 rfl rfl rfl)) (by kernel_rfl)) (ld U9 rfl rfl rfl)) (b2sR U107 U5 U9 rfl (u8s_cons u8s_nil) rfl), ?_⟩
  refine Dx.p (i := 20) rfl (by kernel_rfl) (catS rfl rfl (by simp only [List.length_append, List.length_singleton, List.length_cons, List.length_nil]; omega)) rfl ?_
  refine Dx.one (i := 23) (by kernel_rfl) ?_
  refine Dstep.o (i := 23) rfl (Ox.cb rfl rfl rfl (encText_ct r.hash _ (by omega))) rfl (fun v B' H' hΦ hB => ?_)
  obtain ⟨rfl, rfl, Y⟩ := hΦ; have E := Y.symm; subst E; clear hB
  refine ⟨Jy (Je (Jy (Jy (Jy (Jy (Jy (Jt) (ld U3 rfl rfl rfl)) (ld U9 rfl rfl rfl)) (ld U9 rfl rfl rfl)) (ld U22 rfl rfl rfl)) (ld U22 rfl rfl rfl)) (by kernel_rfl)) (b2sR U107 U5 U9 rfl (u8s_cons u8s_nil) rfl), ?_⟩
  refine Dx.p (i := 24) rfl (by kernel_rfl) (Yx.val (catS rfl rfl (by simp only [List.length_append, List.length_singleton, List.length_cons, List.length_nil]; omega)) (show _ = str (metaF r) from rfl)) rfl ?_
  refine Dx.p (i := 25) rfl (by kernel_rfl) (asg rfl) rfl ?_
  refine Dx.done (by kernel_rfl) ?_
  refine Xx.tn (k2 _ _ _ _ ?_)
  refine Cx.ret ?_
  refine Xx.dropB b1 (Xx.dropB bs ?_)
  exact Xx.rB1 rfl rfl ⟨rfl, rfl⟩ (Fl _) rfl
 refine Dstep.o (i := 19) rfl (Ox.cb rfl rfl rfl (encUint_ct r.ver _)) rfl (fun v B' H' hΦ hB => ?_)
 obtain ⟨rfl, rfl, Y⟩ := hΦ; have E := Y.symm; subst E; clear hB
 refine ⟨Jy (Je (Jy (Jy (Jy (Jy (Jt) (ld U3 rfl rfl rfl)) (ld U9 rfl rfl rfl)) (ld U9 rfl rfl rfl)) (ld U22 rfl rfl rfl)) (by kernel_rfl)) (ld U9 rfl rfl rfl), ?_⟩
 refine Dx.two (i := 3) (j := 23) (by kernel_rfl) ?_ ?_
 ·
  refine Dstep.o (i := 3) rfl (bsl1 U107 ti5 rfl rfl rfl (by decide)) rfl (fun v B' H' hΦ hB => ?_)
  obtain ⟨bs, rfl, Y, rfl⟩ := hΦ; have E := Y.symm; subst E; clear hB
  refine ⟨Jy (Jy (Jy (Jy (Jy (Jy (Jt) (ld U3 rfl rfl rfl)) (ld U9 rfl rfl rfl)) (ld U9 rfl rfl rfl)) (ld U22 rfl rfl rfl)) (ld U22 rfl rfl rfl)) (ld U9 rfl rfl rfl), ?_⟩
  refine Dx.r (i := 4) rfl (by kernel_rfl) (b2sR U107 U5 U9 rfl (u8s_cons u8s_nil) rfl) rfl ?_
  refine Dx.p (i := 8) rfl (by kernel_rfl) (catS rfl rfl (by simp only [List.length_append, List.length_singleton, List.length_cons, List.length_nil]; omega)) rfl ?_
  refine Dx.p (i := 12) rfl (by kernel_rfl) (catS rfl rfl (by simp only [List.length_append, List.length_singleton, List.length_cons, List.length_nil]; omega)) rfl ?_
  refine Dx.p (i := 16) rfl (by kernel_rfl) (catS rfl rfl (by simp only [List.length_append, List.length_singleton, List.length_cons, List.length_nil]; omega)) rfl ?_
  refine Dx.p (i := 20) rfl (by kernel_rfl) (catS rfl rfl (by simp only [List.length_append, List.length_singleton, List.length_cons, List.length_nil]; omega)) rfl ?_
  refine Dx.one (i := 23) (by kernel_rfl) ?_
  refine Dstep.o (i := 23) rfl (Ox.cb rfl rfl rfl (encText_ct r.hash _ (by omega))) rfl (fun v B' H' hΦ hB => ?_)
  obtain ⟨rfl, rfl, Y⟩ := hΦ; have E := Y.symm; subst E; clear hB
  refine ⟨Jy (Je (Jy (Jy (Jy (Jy (Jy (Jt) (ld U3 rfl rfl rfl)) (ld U9 rfl rfl rfl)) (ld U9 rfl rfl rfl)) (ld U22 rfl rfl rfl)) (ld U22 rfl rfl rfl)) (by kernel_rfl)) (b2sR U107 U5 U9 rfl (u8s_cons u8s_nil) rfl), ?_⟩
  refine Dx.p (i := 24) rfl (by kernel_rfl) (Yx.val (catS rfl rfl (by simp only [List.length_append, List.length_singleton, List.length_cons, List.length_nil]; omega)) (show _ = str (metaF r) from rfl)) rfl ?_
  refine Dx.p (i := 25) rfl (by kernel_rfl) (asg rfl) rfl ?_
  refine Dx.done (by kernel_rfl) ?_
  refine Xx.tn (k2 _ _ _ _ ?_)
  refine Cx.ret ?_
  refine Xx.dropB b1 (Xx.dropB bs ?_)
  exact Xx.rB1 rfl rfl ⟨rfl, rfl⟩ (Fl _) rfl
 refine Dstep.o (i := 23) rfl (Ox.cb rfl rfl rfl (encText_ct r.hash _ (by omega))) rfl (fun v B' H' hΦ hB => ?_)
 obtain ⟨rfl, rfl, Y⟩ := hΦ; have E := Y.symm; subst E; clear hB
 refine ⟨Je (Jy (Jy (Jy (Jy (Jy (Jt) (ld U3 rfl rfl rfl)) (ld U9 rfl rfl rfl)) (ld U9 rfl rfl rfl)) (ld U22 rfl rfl rfl)) (ld U22 rfl rfl rfl)) (by kernel_rfl), ?_⟩
 refine Dx.one (i := 3) (by kernel_rfl) ?_
 refine Dstep.o (i := 3) rfl (bsl1 U107 ti5 rfl rfl rfl (by decide)) rfl (fun v B' H' hΦ hB => ?_)
 obtain ⟨bs, rfl, Y, rfl⟩ := hΦ; have E := Y.symm; subst E; clear hB
 refine ⟨Jy (Jy (Jy (Jy (Jy (Jy (Jt) (ld U3 rfl rfl rfl)) (ld U9 rfl rfl rfl)) (ld U9 rfl rfl rfl)) (ld U22 rfl rfl rfl)) (ld U22 rfl rfl rfl)) (ld U9 rfl rfl rfl), ?_⟩
 refine Dx.r (i := 4) rfl (by kernel_rfl) (b2sR U107 U5 U9 rfl (u8s_cons u8s_nil) rfl) rfl ?_
 refine Dx.p (i := 8) rfl (by kernel_rfl) (catS rfl rfl (by simp only [List.length_append, List.length_singleton, List.length_cons, List.length_nil]; omega)) rfl ?_
 refine Dx.p (i := 12) rfl (by kernel_rfl) (catS rfl rfl (by simp only [List.length_append, List.length_singleton, List.length_cons, List.length_nil]; omega)) rfl ?_
 refine Dx.p (i := 16) rfl (by kernel_rfl) (catS rfl rfl (by simp only [List.length_append, List.length_singleton, List.length_cons, List.length_nil]; omega)) rfl ?_
 refine Dx.p (i := 20) rfl (by kernel_rfl) (catS rfl rfl (by simp only [List.length_append, List.length_singleton, List.length_cons, List.length_nil]; omega)) rfl ?_
 refine Dx.p (i := 24) rfl (by kernel_rfl) (Yx.val (catS rfl rfl (by simp only [List.length_append, List.length_singleton, List.length_cons, List.length_nil]; omega)) (show _ = str (metaF r) from rfl)) rfl ?_
 refine Dx.p (i := 25) rfl (by kernel_rfl) (asg rfl) rfl ?_
 refine Dx.done (by kernel_rfl) ?_
 refine Xx.tn (k2 _ _ _ _ ?_)
 refine Cx.ret ?_
 refine Xx.dropB b1 (Xx.dropB bs ?_)
 exact Xx.rB1 rfl rfl ⟨rfl, rfl⟩ (Fl _) rfl
end VhJ
end Go.Proofs.YthlfffbcligocaaGreat
namespace Go.Proofs.YthlfffbcligocaaGreat
open Go.SL Go.RowKit
set_option maxRecDepth 100000
open VhA VhB VhC VhD VhE VhF VhG VhH VhI VhJ
namespace VhK
theorem sz3 : (Tryz.prog.info? 3).map (·.size) = some 1 := by kernel_rfl
theorem sz4 : (Tryz.prog.info? 4).map (·.size) = some 1 := by kernel_rfl
theorem sz9 : (Tryz.prog.info? 9).map (·.size) = some 1 := by kernel_rfl
theorem sz22 : (Tryz.prog.info? 22).map (·.size) = some 1 := by kernel_rfl
theorem sz40 : (Tryz.prog.info? 40).map (·.size) = some 8 := by kernel_rfl
theorem ti40 : TI Tryz.prog 40 [.int .i64 0, str [], str [], .int .u64 0, .int .u64 0, str [], str [], .bool false] 8 96 := TI.of (by kernel_rfl) rfl rfl
theorem fo40_0 : FO Tryz.prog 40 0 0 1 false := FO.of U40 rfl rfl (by kernel_rfl) U3 rfl rfl
theorem fo40_3 : FO Tryz.prog 40 3 3 1 false := FO.of U40 rfl rfl (by kernel_rfl) U22 rfl rfl
theorem fo40_4 : FO Tryz.prog 40 4 4 1 false := FO.of U40 rfl rfl (by kernel_rfl) U22 rfl rfl
theorem fo40_5 : FO Tryz.prog 40 5 5 1 false := FO.of U40 rfl rfl (by kernel_rfl) U9 rfl rfl
theorem fo40_6 : FO Tryz.prog 40 6 6 1 false := FO.of U40 rfl rfl (by kernel_rfl) U9 rfl rfl
def numR (r : Rv) : Bool := if r.op < 3 then decide (r.doc = 0) && decide (r.ver = 0) else decide (1 ≤ r.doc.toNat) && (decide (r.op = 3) == decide (r.ver = 0))
set_option maxHeartbeats 1000000 in
theorem Sealed_ct (r : Rv) (B : Frag) (hb : r.body.length ≤ 4611686018427387900) : CtP Tryz.prog 52 [.agg (rvc r).toArray] B (.agg (rvc (sealF r)).toArray) := by
 refine CtB.of_body Tryz.func52 rfl (nt := 11) rfl (by kernel_rfl) rfl ?_
 intro N0 w0 R
 refine Cq (fun K1 k1 => ?_)
 refine Cr ?_
 refine Lx.new (boxA rfl) rfl (fun b1 => ?_)
 refine Lx.new (allocO ti40) rfl (fun b2 => ?_)
 refine Lx.nil ?_
 refine Xx.tn (k1 _ _ _ _ ?_)
 refine Cq (fun K2 k2 => ?_)
 refine Cq (fun K3 k3 => ?_)
 refine Cr <| Lx.y (fa' fo40_0 rfl) rfl <| Lx.y (ld U3 rfl rfl rfl) rfl <| ?_
 refine Lx.cp rfl rfl rfl (bodied_ct r.op _) rfl ?_
 refine Lx.nil ?_
 refine Xx.tn (k3 _ _ _ _ ?_)
 refine Cx.condB rfl (fun h4 => ?_) (fun h4 => ?_)
 ·
  have hy := h4
  have hse : sealF r = { r with hash := leafF r.body } := by unfold sealF; rw [if_pos hy]
  refine Cr <| Lx.y (fa' fo40_6 rfl) rfl <| Lx.y (ld U9 rfl rfl rfl) rfl <| ?_
  refine Lx.cp rfl rfl rfl (Leaf_ct r.body _ hb) rfl ?_
  refine Lx.y (fa' fo40_5 rfl) rfl ?_
  refine Lx.st (stO U9 sz9 rfl rfl rfl (by show 5 < 8; decide) rfl) ?_
  refine Lx.nil ?_
  refine Xx.tn (k2 _ _ _ _ ?_)
  refine Cq (fun K5 k5 => ?_)
  refine Cr <| Lx.y (ldA U40 rfl sz40 rfl (Co (n := 8) Pe rfl) rfl) rfl <| ?_
  refine Lx.st (stA (d := .bool) sz40 rfl rfl rfl rfl (by show 0 + 8 ≤ 8; omega) rfl) ?_
  refine Lx.nil ?_
  refine Xx.tn (k5 _ _ _ _ ?_)
  refine Cx.ret ?_
  refine Xx.dropB b1 ?_
  exact Xx.rBa rfl U40 rfl sz40 rfl rfl ⟨by rw [hse]; rfl, rfl⟩ (Fl _)
 ·
  have hy := h4
  have hse : sealF r = r := by unfold sealF; rw [if_neg (by simpa using hy)]
  refine Cx.skip ?_
  refine Xx.tn (k2 _ _ _ _ ?_)
  refine Cq (fun K6 k6 => ?_)
  refine Cr <| Lx.y (ldA U40 rfl sz40 rfl (Co (n := 8) Pe rfl) rfl) rfl <| ?_
  refine Lx.st (stA (d := .bool) sz40 rfl rfl rfl rfl (by show 0 + 8 ≤ 8; omega) rfl) ?_
  refine Lx.nil ?_
  refine Xx.tn (k6 _ _ _ _ ?_)
  refine Cx.ret ?_
  refine Xx.dropB b1 ?_
  exact Xx.rBa rfl U40 rfl sz40 rfl rfl ⟨by rw [hse]; rfl, rfl⟩ (Fl _)
set_option maxHeartbeats 1000000 in
theorem numbers_ct (r : Rv) (B : Frag) : CtP Tryz.prog 95 [.agg (rvc r).toArray] B (.bool (numR r)) := by
 refine CtB.of_body Tryz.func95 rfl (nt := 26) rfl (by kernel_rfl) rfl ?_
 intro N0 w0 R
 refine Cq (fun K1 k1 => ?_)
 refine Cr ?_
 refine Lx.new (boxA rfl) rfl (fun b1 => ?_)
 refine Lx.y (asg rfl) rfl <| Lx.nil <| ?_
 refine Xx.tn (k1 _ _ _ _ ?_)
 refine Cq (fun K2 k2 => ?_)
 refine Cq (fun K3 k3 => ?_)
 refine Cr <| Lx.y (fa' fo40_0 rfl) rfl <| Lx.y (ld U3 rfl rfl rfl) rfl <| Lx.y (lss rfl rfl) rfl <| Lx.nil <| ?_
 refine Xx.tn (k3 _ _ _ _ ?_)
 refine Cx.condD rfl (fun h4 => ?_) (fun h4 => ?_)
 ·
  have hlt := h4
  refine Cq (fun K5 k5 => ?_)
  refine Cr <| Lx.y (fa' fo40_3 rfl) rfl <| Lx.y (ld U22 rfl rfl rfl) rfl <| Lx.y (eqW64 (b := 0#64) rfl rfl) rfl <| Lx.y (mv rfl) rfl <| ?_
  refine Xx.ifD (t := 9) rfl (fun h6 => ?_) (fun h6 => ?_)
  ·
   have g := h6
   refine Lx.gT rfl rfl rfl <| Lx.y (fa' fo40_4 rfl) rfl <| Lx.gT rfl rfl rfl <| Lx.y (ld U22 rfl rfl rfl) rfl <| Lx.gT rfl rfl rfl <| Lx.y (eqW64 (b := 0#64) rfl rfl) rfl <| Lx.y (pickT rfl rfl) rfl <| Lx.y (asg rfl) rfl <| Lx.nil <| ?_
   refine Xx.tn (k5 _ _ _ _ ?_)
   refine Cx.ret <| Xx.tr <| ?_
   refine Xx.dropB b1 ?_
   exact Xx.rB1 rfl rfl ⟨congrArg Value.bool (by unfold numR; first | (rw [if_pos hlt]; simp_all; done) | (rw [if_neg hlt]; simp_all; done)), rfl⟩ (Fl _) rfl
  ·
   have g := h6
   refine Lx.gF rfl rfl rfl rfl <| Lx.gF rfl rfl rfl rfl <| Lx.gF rfl rfl rfl rfl <| Lx.y (pickF rfl rfl) rfl <| Lx.y (asg rfl) rfl <| Lx.nil <| ?_
   refine Xx.tn (k5 _ _ _ _ ?_)
   refine Cx.ret <| Xx.tr <| ?_
   refine Xx.dropB b1 ?_
   exact Xx.rB1 rfl rfl ⟨congrArg Value.bool (by unfold numR; first | (rw [if_pos hlt]; simp_all; done) | (rw [if_neg hlt]; simp_all; done)), rfl⟩ (Fl _) rfl
 ·
  have hlt := h4
  refine Cx.skip ?_
  refine Xx.tn (k2 _ _ _ _ ?_)
  refine Cq (fun K7 k7 => ?_)
  refine Cr <| Lx.y (fa' fo40_3 rfl) rfl <| Lx.y (ld U22 rfl rfl rfl) rfl <| Lx.y (geq rfl rfl) rfl <| Lx.y (mv rfl) rfl <| ?_
  refine Xx.ifD (t := 17) rfl (fun h8 => ?_) (fun h8 => ?_)
  ·
   have g := h8
   have g2 : 1 ≤ r.doc.toNat := by omega
   refine Lx.gT rfl rfl rfl <| Lx.y (fa' fo40_0 rfl) rfl <| Lx.gT rfl rfl rfl <| Lx.y (ld U3 rfl rfl rfl) rfl <| Lx.gT rfl rfl rfl <| Lx.y (eqI rfl rfl) rfl <| Lx.gT rfl rfl rfl <| Lx.y (fa' fo40_4 rfl) rfl <| Lx.gT rfl rfl rfl <| Lx.y (ld U22 rfl rfl rfl) rfl <| Lx.gT rfl rfl rfl <| Lx.y (eqW64 (b := 0#64) rfl rfl) rfl <| ?_
   refine Lx.gT rfl rfl rfl <| Lx.y (eqB U4 rfl rfl) rfl <| Lx.y (pickT rfl rfl) rfl <| Lx.y (asg rfl) rfl <| Lx.nil <| ?_
   refine Xx.tn (k7 _ _ _ _ ?_)
   refine Cx.ret ?_
   refine Xx.dropB b1 ?_
   exact Xx.rB1 rfl rfl ⟨congrArg Value.bool (by unfold numR; first | (rw [if_pos hlt]; simp_all; done) | (rw [if_neg hlt]; simp_all; done)), rfl⟩ (Fl _) rfl
  ·
   have g := h8
   have g2 : ¬ 1 ≤ r.doc.toNat := by omega
   refine Lx.gF rfl rfl rfl rfl <| Lx.gF rfl rfl rfl rfl <| Lx.gF rfl rfl rfl rfl <| Lx.gF rfl rfl rfl rfl <| Lx.gF rfl rfl rfl rfl <| Lx.gF rfl rfl rfl rfl <| Lx.gF rfl rfl rfl rfl <| Lx.y (pickF rfl rfl) rfl <| Lx.y (asg rfl) rfl <| Lx.nil <| ?_
   refine Xx.tn (k7 _ _ _ _ ?_)
   refine Cx.ret ?_
   refine Xx.dropB b1 ?_
   exact Xx.rB1 rfl rfl ⟨congrArg Value.bool (by unfold numR; first | (rw [if_pos hlt]; simp_all; done) | (rw [if_neg hlt]; simp_all; done)), rfl⟩ (Fl _) rfl
end VhK
end Go.Proofs.YthlfffbcligocaaGreat
namespace Go.Proofs.YthlfffbcligocaaGreat
open Go.SL Go.RowKit
set_option maxRecDepth 100000
open VhA VhB VhC VhD VhE VhF VhG VhH VhI VhJ VhK
namespace VhL
theorem sz3 : (Tryz.prog.info? 3).map (·.size) = some 1 := by kernel_rfl
theorem sz4 : (Tryz.prog.info? 4).map (·.size) = some 1 := by kernel_rfl
theorem sz9 : (Tryz.prog.info? 9).map (·.size) = some 1 := by kernel_rfl
theorem sz40 : (Tryz.prog.info? 40).map (·.size) = some 8 := by kernel_rfl
theorem fo40_0 : FO Tryz.prog 40 0 0 1 false := FO.of U40 rfl rfl (by kernel_rfl) U3 rfl rfl
theorem fo40_5 : FO Tryz.prog 40 5 5 1 false := FO.of U40 rfl rfl (by kernel_rfl) U9 rfl rfl
theorem fo40_6 : FO Tryz.prog 40 6 6 1 false := FO.of U40 rfl rfl (by kernel_rfl) U9 rfl rfl
theorem fo40_7 : FO Tryz.prog 40 7 7 1 false := FO.of U40 rfl rfl (by kernel_rfl) U4 rfl rfl
def bytR (r : Rv) : Bool := if bodB r.op = true then (if r.gone = true then decide (r.hash.length = 32) && decide (r.body = []) else decide (r.hash = leafF r.body) && decide (r.body.length ≤ 1024)) else decide (r.hash = []) && decide (r.body = []) && !r.gone
set_option maxHeartbeats 2000000 in
theorem bytes_ct (r : Rv) (B : Frag) (hb : r.body.length ≤ 4611686018427387900) (hh : r.hash.length ≤ 4611686018427387900) : CtP Tryz.prog 96 [.agg (rvc r).toArray] B (.bool (bytR r)) := by
 refine CtB.of_body Tryz.func96 rfl (nt := 45) rfl (by kernel_rfl) rfl ?_
 intro N0 w0 R
 refine Cq (fun K1 k1 => ?_)
 refine Cr ?_
 refine Lx.new (boxA rfl) rfl (fun b1 => ?_)
 refine Lx.y (asg rfl) rfl <| Lx.nil <| ?_
 refine Xx.tn (k1 _ _ _ _ ?_)
 refine Cq (fun K2 k2 => ?_)
 refine Cx.block ?_
 refine Cq (fun K3 k3 => ?_)
 refine Cr <| Lx.y (fa' fo40_0 rfl) rfl <| Lx.y (ld U3 rfl rfl rfl) rfl <| ?_
 refine Lx.cp rfl rfl rfl (bodied_ct r.op _) rfl ?_
 refine Lx.y (not' rfl) rfl <| Lx.y (asg rfl) rfl <| Lx.nil <| ?_
 refine Xx.tn (k3 _ _ _ _ ?_)
 refine Cx.condB rfl (fun h4 => ?_) (fun h4 => ?_)
 ·
  have hy := h4
  refine Cq (fun K5 k5 => ?_)
  refine Cr <| Lx.y (fa' fo40_5 rfl) rfl <| Lx.y (ld U9 rfl rfl rfl) rfl <| Lx.y (eqS rfl rfl) rfl <| Lx.y (mv rfl) rfl <| ?_
  refine Xx.ifD (t := 11) rfl (fun h6 => ?_) (fun h6 => ?_)
  ·
   have g1 := h6
   refine Lx.gT rfl rfl rfl <| Lx.y (fa' fo40_6 rfl) rfl <| Lx.gT rfl rfl rfl <| Lx.y (ld U9 rfl rfl rfl) rfl <| Lx.gT rfl rfl rfl <| Lx.y (eqS rfl rfl) rfl <| Lx.y (pickT rfl rfl) rfl <| Lx.y (mv rfl) rfl <| ?_
   refine Xx.ifD (t := 16) rfl (fun h7 => ?_) (fun h7 => ?_)
   ·
    have g2 := h7
    refine Lx.gT rfl rfl rfl <| Lx.y (fa' fo40_7 rfl) rfl <| Lx.gT rfl rfl rfl <| Lx.y (ld U4 rfl rfl rfl) rfl <| Lx.gT rfl rfl rfl <| Lx.y (not' rfl) rfl <| Lx.y (pickT rfl rfl) rfl <| Lx.y (asg rfl) rfl <| Lx.nil <| ?_
    refine Xx.tn (k5 _ _ _ _ ?_)
    refine Cx.ret ?_
    refine Xx.br ?_
    refine Xx.tr ?_
    refine Xx.dropB b1 ?_
    exact Xx.rB1 rfl rfl ⟨congrArg Value.bool (by unfold bytR; first | (simp_all; done) | (simp_all; omega)), rfl⟩ (Fl _) rfl
   ·
    have g2 := h7
    refine Lx.gF rfl rfl rfl rfl <| Lx.gF rfl rfl rfl rfl <| Lx.gF rfl rfl rfl rfl <| Lx.y (pickF rfl rfl) rfl <| Lx.y (asg rfl) rfl <| Lx.nil <| ?_
    refine Xx.tn (k5 _ _ _ _ ?_)
    refine Cx.ret ?_
    refine Xx.br ?_
    refine Xx.tr ?_
    refine Xx.dropB b1 ?_
    exact Xx.rB1 rfl rfl ⟨congrArg Value.bool (by unfold bytR; first | (simp_all; done) | (simp_all; omega)), rfl⟩ (Fl _) rfl
  ·
   have g1 := h6
   refine Lx.gF rfl rfl rfl rfl <| Lx.gF rfl rfl rfl rfl <| Lx.gF rfl rfl rfl rfl <| Lx.y (pickF rfl rfl) rfl <| Lx.y (mv rfl) rfl <| Lx.gF rfl rfl rfl rfl <| Lx.gF rfl rfl rfl rfl <| Lx.gF rfl rfl rfl rfl <| Lx.y (pickF rfl rfl) rfl <| Lx.y (asg rfl) rfl <| Lx.nil <| ?_
   refine Xx.tn (k5 _ _ _ _ ?_)
   refine Cx.ret ?_
   refine Xx.br ?_
   refine Xx.tr ?_
   refine Xx.dropB b1 ?_
   exact Xx.rB1 rfl rfl ⟨congrArg Value.bool (by unfold bytR; first | (simp_all; done) | (simp_all; omega)), rfl⟩ (Fl _) rfl
 ·
  have hy := h4
  refine Cq (fun K8 k8 => ?_)
  refine Cr <| Lx.y (fa' fo40_7 rfl) rfl <| Lx.y (ld U4 rfl rfl rfl) rfl <| Lx.y (asg rfl) rfl <| Lx.nil <| ?_
  refine Xx.tn (k8 _ _ _ _ ?_)
  refine Cx.condB rfl (fun h9 => ?_) (fun h9 => ?_)
  ·
   have hg := h9
   refine Cq (fun K10 k10 => ?_)
   refine Cr <| Lx.y (fa' fo40_5 rfl) rfl <| Lx.y (ld U9 rfl rfl rfl) rfl <| Lx.y (lenS U9 rfl) rfl <| Lx.y (eqI rfl rfl) rfl <| Lx.y (mv rfl) rfl <| ?_
   refine Xx.ifD (t := 28) rfl (fun h11 => ?_) (fun h11 => ?_)
   ·
    have g1 := h11
    have g3 : r.hash.length = 32 := by omega
    refine Lx.gT rfl rfl rfl <| Lx.y (fa' fo40_6 rfl) rfl <| Lx.gT rfl rfl rfl <| Lx.y (ld U9 rfl rfl rfl) rfl <| Lx.gT rfl rfl rfl <| Lx.y (eqS rfl rfl) rfl <| Lx.y (pickT rfl rfl) rfl <| Lx.y (asg rfl) rfl <| Lx.nil <| ?_
    refine Xx.tn (k10 _ _ _ _ ?_)
    refine Cx.ret ?_
    refine Xx.br ?_
    refine Xx.tr ?_
    refine Xx.dropB b1 ?_
    exact Xx.rB1 rfl rfl ⟨congrArg Value.bool (by unfold bytR; first | (simp_all; done) | (simp_all; omega)), rfl⟩ (Fl _) rfl
   ·
    have g1 := h11
    have g3 : ¬ r.hash.length = 32 := by omega
    refine Lx.gF rfl rfl rfl rfl <| Lx.gF rfl rfl rfl rfl <| Lx.gF rfl rfl rfl rfl <| Lx.y (pickF rfl rfl) rfl <| Lx.y (asg rfl) rfl <| Lx.nil <| ?_
    refine Xx.tn (k10 _ _ _ _ ?_)
    refine Cx.ret ?_
    refine Xx.br ?_
    refine Xx.tr ?_
    refine Xx.dropB b1 ?_
    exact Xx.rB1 rfl rfl ⟨congrArg Value.bool (by unfold bytR; first | (simp_all; done) | (simp_all; omega)), rfl⟩ (Fl _) rfl
  ·
   have hg := h9
   refine Cx.skip <| Xx.bn <| ?_
   refine Xx.tn (k2 _ _ _ _ ?_)
   refine Cq (fun K12 k12 => ?_)
   refine Cx.drawn (by kernel_rfl) ?_
   refine Dx.p (i := 0) rfl (by kernel_rfl) (fa' fo40_5 rfl) rfl ?_
   refine Dx.r (i := 1) rfl (by kernel_rfl) (ld U9 rfl rfl rfl) rfl ?_
   refine Dx.p (i := 2) rfl (by kernel_rfl) (fa' fo40_6 rfl) rfl ?_
   refine Dx.r (i := 3) rfl (by kernel_rfl) (ld U9 rfl rfl rfl) rfl ?_
   refine Dx.one (i := 4) (by kernel_rfl) ?_
   refine Dstep.o (i := 4) rfl (Ox.cb rfl rfl rfl (Leaf_ct r.body _ hb)) rfl (fun v B' H' hΦ hB => ?_)
   obtain ⟨rfl, rfl, Y⟩ := hΦ; have E := Y.symm; subst E; clear hB
   refine ⟨Je (Jy (Jt) (ld U9 rfl rfl rfl)) (by kernel_rfl), ?_⟩
   refine Dx.p (i := 5) rfl (by kernel_rfl) (eqS rfl rfl) rfl ?_
   refine Dx.p (i := 6) rfl (by kernel_rfl) (mv rfl) rfl ?_
   refine Xx.ifD (t := 39) rfl (fun h13 => ?_) (fun h13 => ?_)
   ·
    have g1 := h13
    refine Dx.pT (i := 7) rfl rfl rfl rfl (by kernel_rfl) (fa' fo40_6 rfl) rfl ?_
    refine Dx.rT (i := 8) rfl rfl rfl rfl (by kernel_rfl) (ld U9 rfl rfl rfl) rfl ?_
    refine Dx.pT (i := 9) rfl rfl rfl rfl (by kernel_rfl) (lenS U9 rfl) rfl ?_
    refine Dx.pT (i := 10) rfl rfl rfl rfl (by kernel_rfl) (leq rfl rfl) rfl ?_
    refine Dx.p (i := 11) rfl (by kernel_rfl) (pickT rfl rfl) rfl ?_
    refine Dx.p (i := 12) rfl (by kernel_rfl) (asg rfl) rfl ?_
    refine Dx.done (by kernel_rfl) ?_
    refine Xx.tn (k12 _ _ _ _ ?_)
    refine Cx.ret ?_
    refine Xx.dropB b1 ?_
    exact Xx.rB1 rfl rfl ⟨congrArg Value.bool (by unfold bytR; first | (simp_all; done) | (simp_all; omega)), rfl⟩ (Fl _) rfl
   ·
    have g1 := h13
    refine Dx.pF (i := 7) rfl (fun _ h => by cases h) rfl rfl rfl (by kernel_rfl) rfl ?_
    refine Dx.pF (i := 8) rfl (fun _ h => by cases h) rfl rfl rfl (by kernel_rfl) rfl ?_
    refine Dx.pF (i := 9) rfl (fun _ h => by cases h) rfl rfl rfl (by kernel_rfl) rfl ?_
    refine Dx.pF (i := 10) rfl (fun _ h => by cases h) rfl rfl rfl (by kernel_rfl) rfl ?_
    refine Dx.p (i := 11) rfl (by kernel_rfl) (pickF rfl rfl) rfl ?_
    refine Dx.p (i := 12) rfl (by kernel_rfl) (asg rfl) rfl ?_
    refine Dx.done (by kernel_rfl) ?_
    refine Xx.tn (k12 _ _ _ _ ?_)
    refine Cx.ret ?_
    refine Xx.dropB b1 ?_
    exact Xx.rB1 rfl rfl ⟨congrArg Value.bool (by unfold bytR; first | (simp_all; done) | (simp_all; omega)), rfl⟩ (Fl _) rfl
end VhL
end Go.Proofs.YthlfffbcligocaaGreat
namespace Go.Proofs.YthlfffbcligocaaGreat
open Go.SL Go.RowKit
set_option maxRecDepth 100000
open VhA VhB VhC VhD VhE VhF VhG VhH VhI VhJ VhK VhL
namespace VhM
theorem sz3 : (Tryz.prog.info? 3).map (·.size) = some 1 := by kernel_rfl
theorem sz4 : (Tryz.prog.info? 4).map (·.size) = some 1 := by kernel_rfl
theorem sz9 : (Tryz.prog.info? 9).map (·.size) = some 1 := by kernel_rfl
theorem sz40 : (Tryz.prog.info? 40).map (·.size) = some 8 := by kernel_rfl
theorem fo40_0 : FO Tryz.prog 40 0 0 1 false := FO.of U40 rfl rfl (by kernel_rfl) U3 rfl rfl
theorem fo40_1 : FO Tryz.prog 40 1 1 1 false := FO.of U40 rfl rfl (by kernel_rfl) U9 rfl rfl
theorem fo40_2 : FO Tryz.prog 40 2 2 1 false := FO.of U40 rfl rfl (by kernel_rfl) U9 rfl rfl
noncomputable def fldR (r : Rv) : Bool := if r.op = 2 then nameB r.fld else decide (r.fld = [])
noncomputable def okR (r : Rv) : Bool := decide (1 ≤ r.op) && decide (r.op ≤ 5) && nameB r.tab && fldR r && numR r && bytR r
theorem okR_lo {r : Rv} (h : r.op < 1) : okR r = false := by
  unfold okR
  rw [decide_eq_false (by omega : ¬ 1 ≤ r.op)]
  rfl
theorem okR_hi {r : Rv} (h : r.op > 5) : okR r = false := by
  unfold okR
  rw [decide_eq_false (by omega : ¬ r.op ≤ 5)]
  simp
set_option maxHeartbeats 2000000 in
theorem Check_ct (r : Rv) (B : Frag) (hb : r.body.length ≤ 4611686018427387900) (hh : r.hash.length ≤ 4611686018427387900) (ht : r.tab.length ≤ 4611686018427387900) (hf : r.fld.length ≤ 4611686018427387900) : CtP Tryz.prog 53 [.agg (rvc r).toArray] B (i64 (if okR r = true then 0 else 6)) := by
 refine CtB.of_body Tryz.func53 rfl (nt := 41) rfl (by kernel_rfl) rfl ?_
 intro N0 w0 R
 refine Cq (fun K1 k1 => ?_)
 refine Cr ?_
 refine Lx.new (boxA rfl) rfl (fun b1 => ?_)
 refine Lx.y (asg rfl) rfl <| Lx.nil <| ?_
 refine Xx.tn (k1 _ _ _ _ ?_)
 refine Cq (fun K2 k2 => ?_)
 refine Cr <| Lx.y (fa' fo40_2 rfl) rfl <| Lx.y (ld U9 rfl rfl rfl) rfl <| Lx.y (eqS rfl rfl) rfl <| Lx.y (asg rfl) rfl <| Lx.nil <| ?_
 refine Xx.tn (k2 _ _ _ _ ?_)
 refine Cx.cutK (ds' := []) (Sc 0 rfl (Sc 1 rfl (Sc 2 rfl (Sc 4 rfl (Sc 5 rfl (Sc 6 rfl (Sub.nil _))))))) (fun ρ' B' H' => ρ' = [(3, .bool (fldR r))] ∧ B = B' ∧ row b1 40 (rvc r) * R = H') ?_ ?_
 ·
  refine Cq (fun K3 k3 => ?_)
  refine Cr <| Lx.y (fa' fo40_0 rfl) rfl <| Lx.y (ld U3 rfl rfl rfl) rfl <| Lx.y (eqI rfl rfl) rfl <| Lx.nil <| ?_
  refine Xx.tn (k3 _ _ _ _ ?_)
  refine Cx.condD rfl (fun h4 => ?_) (fun h4 => ?_)
  ·
   have ho := h4
   refine Cr <| Lx.y (fa' fo40_2 rfl) rfl <| Lx.y (ld U9 rfl rfl rfl) rfl <| ?_
   refine Lx.cp rfl rfl rfl (Name_ct r.fld _ (by omega)) rfl ?_
   refine Lx.y (asg rfl) rfl <| Lx.nil <| ?_
   exact Xx.mkK (⟨rfl, rfl, rfl⟩) (Sub.consE (s := 3) rfl (congrArg Value.bool (by unfold fldR; rw [if_pos ho])) (Sc 0 rfl (Sc 1 rfl (Sc 2 rfl (Sc 4 rfl (Sc 5 rfl (Sc 6 rfl (Sub.nil _))))))))
  ·
   have ho := h4
   refine Cx.skip ?_
   exact Xx.mkK (⟨rfl, rfl, rfl⟩) (Sub.consE (s := 3) rfl (congrArg Value.bool (by unfold fldR; rw [if_neg ho])) (Sc 0 rfl (Sc 1 rfl (Sc 2 rfl (Sc 4 rfl (Sc 5 rfl (Sc 6 rfl (Sub.nil _))))))))
 ·rintro ρ' B' H' ⟨rfl, rfl, rfl⟩
  refine Cq (fun K5 k5 => ?_)
  refine Cq (fun K6 k6 => ?_)
  refine Cr <| Lx.y (fa' fo40_0 rfl) rfl <| Lx.y (ld U3 rfl rfl rfl) rfl <| Lx.y (lss rfl rfl) rfl <| Lx.y (mv rfl) rfl <| ?_
  refine Xx.ifD (t := 16) rfl (fun h7 => ?_) (fun h7 => ?_)
  ·
   have g1 := h7
   refine Lx.gF rfl rfl rfl rfl <| Lx.gF rfl rfl rfl rfl <| Lx.gF rfl rfl rfl rfl <| Lx.y (pickT rfl rfl) rfl <| Lx.y (mv rfl) rfl <| Lx.gF rfl rfl rfl rfl <| Lx.gF rfl rfl rfl rfl <| Lx.gF rfl rfl rfl rfl <| Lx.gF rfl rfl rfl rfl <| Lx.y (pickT rfl rfl) rfl <| Lx.y (mv rfl) rfl <| Lx.gF rfl rfl rfl rfl <| ?_
   refine Lx.gF rfl rfl rfl rfl <| Lx.y (pickT rfl rfl) rfl <| Lx.y (mv rfl) rfl <| Lx.gF rfl rfl rfl rfl <| Lx.gF rfl rfl rfl rfl <| Lx.gF rfl rfl rfl rfl <| Lx.y (pickT rfl rfl) rfl <| Lx.y (mv rfl) rfl <| Lx.gF rfl rfl rfl rfl <| Lx.gF rfl rfl rfl rfl <| Lx.gF rfl rfl rfl rfl <| Lx.y (pickT rfl rfl) rfl <| ?_
   refine Lx.nil ?_
   refine Xx.tn (k6 _ _ _ _ ?_)
   refine Cx.condT rfl ?_
   refine Cq (fun K8 k8 => ?_)
   refine Cr <| Lx.y (asg rfl) rfl <| Lx.nil <| ?_
   refine Xx.tn (k8 _ _ _ _ ?_)
   refine Cx.ret <| Xx.tr <| ?_
   refine Xx.dropB b1 ?_
   exact Xx.rB1 rfl rfl ⟨congrArg (fun z : Int => i64 z) (by rw [okR_lo g1]; rfl), rfl⟩ (Fl _) rfl
  ·
   have g1 := h7
   refine Lx.gT rfl rfl rfl <| Lx.y (fa' fo40_0 rfl) rfl <| Lx.gT rfl rfl rfl <| Lx.y (ld U3 rfl rfl rfl) rfl <| Lx.gT rfl rfl rfl <| Lx.y (gtr rfl rfl) rfl <| Lx.y (pickF rfl rfl) rfl <| Lx.y (mv rfl) rfl <| ?_
   refine Xx.ifD (t := 21) rfl (fun h9 => ?_) (fun h9 => ?_)
   ·
    have g2 := h9
    refine Lx.gF rfl rfl rfl rfl <| Lx.gF rfl rfl rfl rfl <| Lx.gF rfl rfl rfl rfl <| Lx.gF rfl rfl rfl rfl <| Lx.y (pickT rfl rfl) rfl <| Lx.y (mv rfl) rfl <| Lx.gF rfl rfl rfl rfl <| Lx.gF rfl rfl rfl rfl <| Lx.y (pickT rfl rfl) rfl <| Lx.y (mv rfl) rfl <| Lx.gF rfl rfl rfl rfl <| Lx.gF rfl rfl rfl rfl <| ?_
    refine Lx.gF rfl rfl rfl rfl <| Lx.y (pickT rfl rfl) rfl <| Lx.y (mv rfl) rfl <| Lx.gF rfl rfl rfl rfl <| Lx.gF rfl rfl rfl rfl <| Lx.gF rfl rfl rfl rfl <| Lx.y (pickT rfl rfl) rfl <| Lx.nil <| ?_
    refine Xx.tn (k6 _ _ _ _ ?_)
    refine Cx.condT rfl ?_
    refine Cq (fun K10 k10 => ?_)
    refine Cr <| Lx.y (asg rfl) rfl <| Lx.nil <| ?_
    refine Xx.tn (k10 _ _ _ _ ?_)
    refine Cx.ret <| Xx.tr <| ?_
    refine Xx.dropB b1 ?_
    exact Xx.rB1 rfl rfl ⟨congrArg (fun z : Int => i64 z) (by rw [okR_hi g2]; rfl), rfl⟩ (Fl _) rfl
   ·
    have g2 := h9
    refine Lx.gT rfl rfl rfl <| Lx.y (fa' fo40_1 rfl) rfl <| Lx.gT rfl rfl rfl <| Lx.y (ld U9 rfl rfl rfl) rfl <| Lx.gT rfl rfl rfl <| ?_
    refine Lx.cp rfl rfl rfl (Name_ct r.tab _ (by omega)) rfl ?_
    refine Lx.gT rfl rfl rfl <| Lx.y (not' rfl) rfl <| Lx.y (pickF rfl rfl) rfl <| Lx.y (mv rfl) rfl <| ?_
    refine Xx.ifB (t := 27) rfl (fun h11 => ?_) (fun h11 => ?_)
    ·
     have g3 := h11
     refine Lx.gF rfl rfl rfl rfl <| Lx.gF rfl rfl rfl rfl <| Lx.y (pickT rfl rfl) rfl <| Lx.y (mv rfl) rfl <| Lx.gF rfl rfl rfl rfl <| Lx.gF rfl rfl rfl rfl <| Lx.gF rfl rfl rfl rfl <| Lx.y (pickT rfl rfl) rfl <| Lx.y (mv rfl) rfl <| Lx.gF rfl rfl rfl rfl <| Lx.gF rfl rfl rfl rfl <| Lx.gF rfl rfl rfl rfl <| ?_
     refine Lx.y (pickT rfl rfl) rfl <| Lx.nil <| ?_
     refine Xx.tn (k6 _ _ _ _ ?_)
     refine Cx.condT rfl ?_
     refine Cq (fun K12 k12 => ?_)
     refine Cr <| Lx.y (asg rfl) rfl <| Lx.nil <| ?_
     refine Xx.tn (k12 _ _ _ _ ?_)
     refine Cx.ret <| Xx.tr <| ?_
     refine Xx.dropB b1 ?_
     exact Xx.rB1 rfl rfl ⟨congrArg (fun z : Int => i64 z) (by first | (rw [if_pos (by unfold okR; simp_all; done)]; done) | (rw [if_pos (by unfold okR; simp_all; omega)]; done) | (rw [if_neg (by unfold okR; simp_all; done)]; done) | (rw [if_neg (by unfold okR; simp_all; omega)]; done)), rfl⟩ (Fl _) rfl
    ·
     have g3 := h11
     refine Lx.gT rfl rfl rfl <| Lx.y (mv rfl) rfl <| Lx.gT rfl rfl rfl <| Lx.y (not' rfl) rfl <| Lx.y (pickF rfl rfl) rfl <| Lx.y (mv rfl) rfl <| ?_
     refine Xx.ifB (t := 31) rfl (fun h13 => ?_) (fun h13 => ?_)
     ·
      have g4 := h13
      refine Lx.gF rfl rfl rfl rfl <| Lx.gF rfl rfl rfl rfl <| Lx.gF rfl rfl rfl rfl <| Lx.y (pickT rfl rfl) rfl <| Lx.y (mv rfl) rfl <| Lx.gF rfl rfl rfl rfl <| Lx.gF rfl rfl rfl rfl <| Lx.gF rfl rfl rfl rfl <| Lx.y (pickT rfl rfl) rfl <| Lx.nil <| ?_
      refine Xx.tn (k6 _ _ _ _ ?_)
      refine Cx.condT rfl ?_
      refine Cq (fun K14 k14 => ?_)
      refine Cr <| Lx.y (asg rfl) rfl <| Lx.nil <| ?_
      refine Xx.tn (k14 _ _ _ _ ?_)
      refine Cx.ret <| Xx.tr <| ?_
      refine Xx.dropB b1 ?_
      exact Xx.rB1 rfl rfl ⟨congrArg (fun z : Int => i64 z) (by first | (rw [if_pos (by unfold okR; simp_all; done)]; done) | (rw [if_pos (by unfold okR; simp_all; omega)]; done) | (rw [if_neg (by unfold okR; simp_all; done)]; done) | (rw [if_neg (by unfold okR; simp_all; omega)]; done)), rfl⟩ (Fl _) rfl
     ·
      have g4 := h13
      refine Lx.gT rfl rfl rfl <| Lx.y (ldA U40 rfl sz40 rfl (Co (n := 8) Pe (show ((rvc r).drop 0).take 8 = rvc r from rfl)) rfl) rfl <| Lx.gT rfl rfl rfl <| ?_
      refine Lx.cp rfl rfl rfl (numbers_ct r _) rfl ?_
      refine Lx.gT rfl rfl rfl <| Lx.y (not' rfl) rfl <| Lx.y (pickF rfl rfl) rfl <| Lx.y (mv rfl) rfl <| ?_
      refine Xx.ifB (t := 36) rfl (fun h15 => ?_) (fun h15 => ?_)
      ·
       have g5 := h15
       refine Lx.gF rfl rfl rfl rfl <| Lx.gF rfl rfl rfl rfl <| Lx.gF rfl rfl rfl rfl <| Lx.y (pickT rfl rfl) rfl <| Lx.nil <| ?_
       refine Xx.tn (k6 _ _ _ _ ?_)
       refine Cx.condT rfl ?_
       refine Cq (fun K16 k16 => ?_)
       refine Cr <| Lx.y (asg rfl) rfl <| Lx.nil <| ?_
       refine Xx.tn (k16 _ _ _ _ ?_)
       refine Cx.ret <| Xx.tr <| ?_
       refine Xx.dropB b1 ?_
       exact Xx.rB1 rfl rfl ⟨congrArg (fun z : Int => i64 z) (by first | (rw [if_pos (by unfold okR; simp_all; done)]; done) | (rw [if_pos (by unfold okR; simp_all; omega)]; done) | (rw [if_neg (by unfold okR; simp_all; done)]; done) | (rw [if_neg (by unfold okR; simp_all; omega)]; done)), rfl⟩ (Fl _) rfl
      ·
       have g5 := h15
       refine Lx.gT rfl rfl rfl <| Lx.y (ldA U40 rfl sz40 rfl (Co (n := 8) Pe (show ((rvc r).drop 0).take 8 = rvc r from rfl)) rfl) rfl <| Lx.gT rfl rfl rfl <| ?_
       refine Lx.cp rfl rfl rfl (bytes_ct r _ hb hh) rfl ?_
       refine Lx.gT rfl rfl rfl <| Lx.y (not' rfl) rfl <| Lx.y (pickF rfl rfl) rfl <| Lx.nil <| ?_
       refine Xx.tn (k6 _ _ _ _ ?_)
       refine Cx.condB rfl (fun h17 => ?_) (fun h17 => ?_)
       ·
        have g6 := h17
        refine Cq (fun K18 k18 => ?_)
        refine Cr <| Lx.y (asg rfl) rfl <| Lx.nil <| ?_
        refine Xx.tn (k18 _ _ _ _ ?_)
        refine Cx.ret <| Xx.tr <| ?_
        refine Xx.dropB b1 ?_
        exact Xx.rB1 rfl rfl ⟨congrArg (fun z : Int => i64 z) (by first | (rw [if_pos (by unfold okR; simp_all; done)]; done) | (rw [if_pos (by unfold okR; simp_all; omega)]; done) | (rw [if_neg (by unfold okR; simp_all; done)]; done) | (rw [if_neg (by unfold okR; simp_all; omega)]; done)), rfl⟩ (Fl _) rfl
       ·
        have g6 := h17
        refine Cx.skip ?_
        refine Xx.tn (k5 _ _ _ _ ?_)
        refine Cq (fun K19 k19 => ?_)
        refine Cr <| Lx.y (asg rfl) rfl <| Lx.nil <| ?_
        refine Xx.tn (k19 _ _ _ _ ?_)
        refine Cx.ret ?_
        refine Xx.dropB b1 ?_
        exact Xx.rB1 rfl rfl ⟨congrArg (fun z : Int => i64 z) (by first | (rw [if_pos (by unfold okR; simp_all; done)]; done) | (rw [if_pos (by unfold okR; simp_all; omega)]; done) | (rw [if_neg (by unfold okR; simp_all; done)]; done) | (rw [if_neg (by unfold okR; simp_all; omega)]; done)), rfl⟩ (Fl _) rfl
end VhM
end Go.Proofs.YthlfffbcligocaaGreat
namespace Go.Proofs.YthlfffbcligocaaGreat
open Go.SL Go.RowKit
set_option maxRecDepth 100000
open VhA VhB VhC VhD VhE VhF VhG VhH VhI VhJ VhK VhL VhM
namespace VhN
abbrev txtL (s : List UInt8) : List UInt8 := encT s
theorem toB_nat {n : Nat} (h : n < 256) : (toB ((n : Nat) : Int)).toNat = n := by
  unfold toB; simp; omega
theorem hiB_nat (n : BitVec 64) : (hiB n).toNat = n.toNat % 128 + 128 := by
  have key : ∀ x : Fin 256, (toB (((BitVec.ofInt 8 ((x.val : Nat) : Int) ||| BitVec.ofInt 8 128).toNat : Nat) : Int)).toNat = x.val % 128 + 128 := by decide +kernel
  unfold hiB
  have e : (toB ((n.toNat : Nat) : Int)).toNat = n.toNat % 256 := by unfold toB; simp; omega
  rw [e, key ⟨n.toNat % 256, Nat.mod_lt _ (by decide)⟩]
  show n.toNat % 256 % 128 + 128 = _
  omega
theorem uv_more {k : Nat} {n : BitVec 64} (h : 128 ≤ n.toNat) : uvF (k + 1) n = hiB n :: uvF k (n >>> 7) := by
  conv => lhs; unfold uvF
  rw [if_pos h]
theorem udec_uv : ∀ (k i : Nat) (n : BitVec 64) (r : List UInt8), k + i = 10 → i ≤ 9 → n.toNat < 2 ^ (64 - 7 * i) → (0 < i → 0 < n.toNat) → udec i (uvF k n ++ r) = .ok n.toNat (uvF k n).length := by
  intro k
  induction k with
  | zero => intro i n r h1 h2; omega
  | succ k ih =>
    intro i n r h1 h2 hn h0
    by_cases hb : 128 ≤ n.toNat
    · have hi8 : i ≤ 8 := by
        rcases Nat.lt_or_ge i 9 with h | h
        · omega
        · have e : i = 9 := by omega
          subst e; have h3 : (2:Nat) ^ (64 - 7 * 9) = 2 := rfl
          rw [h3] at hn; omega
      have hs : (n >>> 7).toNat = n.toNat / 128 := by rw [BitVec.toNat_ushiftRight, Nat.shiftRight_eq_div_pow]
      have hp : 2 ^ (64 - 7 * i) = 2 ^ (64 - 7 * (i + 1)) * 128 := by rw [show (128:Nat) = 2 ^ 7 from rfl, ← Nat.pow_add]; congr 1; omega
      have h3 := ih (i + 1) (n >>> 7) r (by omega) (by omega) (by rw [hs]; exact Nat.div_lt_of_lt_mul (by rw [Nat.mul_comm, ← hp]; exact hn)) (fun _ => by rw [hs]; omega)
      rw [uv_more hb, List.cons_append]
      unfold udec
      rw [hiB_nat, if_neg (by omega), if_neg (by omega), h3, hs]
      show Ud.ok _ _ = Ud.ok _ _
      congr 1
      omega
    · rw [uv_last hb, List.singleton_append]
      unfold udec
      have hn9 : i = 9 → n.toNat < 2 := fun e => by subst e; exact hn
      rw [toB_nat (by omega), if_neg (by omega), if_pos (by omega)]
      rfl
theorem udec_to {n : Nat} (h : n < 18446744073709551616) (r : List UInt8) : udec 0 (uvL (BitVec.ofNat 64 n) ++ r) = .ok n (uvL (BitVec.ofNat 64 n)).length := by
  have ht : (BitVec.ofNat 64 n).toNat = n := by rw [BitVec.toNat_ofNat]; omega
  have := udec_uv 10 0 (BitVec.ofNat 64 n) r rfl (by decide) (by rw [ht]; exact h) (fun h => absurd h (by decide))
  rw [ht] at this; exact this
def Took (c c' : Cu) (l : List UInt8) : Prop := c.e = 0 ∧ c'.e = 0 ∧ c'.s = c.s ∧ c'.at' = c.at' + l.length ∧ c.s.drop c.at' = l ++ c.s.drop c'.at'
theorem Took.refl {c : Cu} (h : c.e = 0) : Took c c [] := ⟨h, h, rfl, rfl, rfl⟩
theorem Took.trans {a b c : Cu} {l m : List UInt8} (h : Took a b l) (g : Took b c m) : Took a c (l ++ m) := by
  obtain ⟨h1, h2, h3, h4, h5⟩ := h
  obtain ⟨g1, g2, g3, g4, g5⟩ := g
  refine ⟨h1, g2, g3.trans h3, by simp; omega, ?_⟩
  rw [h3] at g5
  rw [h5, g5, List.append_assoc]
def Ahead (c : Cu) (l : List UInt8) : Prop := c.e = 0 ∧ ∃ r, c.s.drop c.at' = l ++ r
theorem Ahead.to {c : Cu} {l : List UInt8} (h : Ahead c l) : Took c ⟨c.s, c.at' + l.length, 0⟩ l := by
  obtain ⟨h1, r, h2⟩ := h
  refine ⟨h1, rfl, rfl, rfl, ?_⟩
  show _ = l ++ c.s.drop (c.at' + l.length)
  rw [← List.drop_drop, h2, List.drop_left]
theorem Ahead.split {c : Cu} {l m : List UInt8} (h : Ahead c (l ++ m)) : Ahead c l := by
  obtain ⟨h1, r, h2⟩ := h
  exact ⟨h1, m ++ r, by rw [h2, List.append_assoc]⟩
theorem Ahead.next {c c' : Cu} {l m : List UInt8} (h : Ahead c (l ++ m)) (t : Took c c' l) : Ahead c' m := by
  obtain ⟨h1, r, h2⟩ := h
  obtain ⟨_, t2, t3, t4, t5⟩ := t
  refine ⟨t2, r, ?_⟩
  rw [t5, List.append_assoc] at h2
  rw [t3]
  exact List.append_cancel_left h2
theorem uint_to {c : Cu} {n : Nat} (h : n < 18446744073709551616) (a : Ahead c (uvL (BitVec.ofNat 64 n))) : Took c c.uint.1 (uvL (BitVec.ofNat 64 n)) ∧ c.uint.2 = n := by
  have e : c.uint = (⟨c.s, c.at' + (uvL (BitVec.ofNat 64 n)).length, 0⟩, n) := by
    obtain ⟨h1, r, h2⟩ := a
    unfold Cu.uint
    rw [if_neg (by simpa using h1), h2, udec_to h]
    show ((⟨_, _, _⟩ : Cu), _) = _
    rw [h1]
  rw [e]; exact ⟨a.to, rfl⟩
theorem udec_bad : ∀ (l : List UInt8) (i : Nat) (x : Int), udec i l = .bad x → x ≠ 0 := by
  intro l
  induction l with
  | nil => intro i x h; simp [udec] at h; omega
  | cons b r ih =>
    intro i x h
    unfold udec at h
    split at h
    · injection h with h; omega
    · split at h
      · cases h
      · split at h
        · cases h
        · rename_i hk
          injection h with h1
          subst h1
          exact ih _ _ hk
theorem count_to {c : Cu} {n most : Nat} (hm : n ≤ most) (hm2 : n < 18446744073709551616) (a : Ahead c (uvL (BitVec.ofNat 64 n))) : Took c (c.count most).1 (uvL (BitVec.ofNat 64 n)) ∧ (c.count most).2 = n := by
  obtain ⟨h1, h2⟩ := uint_to hm2 a
  have e : c.cnt most = c.uint.1 := by unfold Cu.cnt; rw [if_neg (by rw [h2]; omega)]
  unfold Cu.count
  rw [if_neg (by have := a.1; simpa using this), e, if_neg (by have := h1.2.1; simpa using this)]
  exact ⟨h1, h2⟩
theorem bytes_to {c : Cu} {l : List UInt8} (hc : c.at' ≤ c.s.length) (a : Ahead c l) : Took c (c.bytes l.length).1 l ∧ (c.bytes l.length).2 = l := by
  have t := a.to
  obtain ⟨h1, r, h2⟩ := a
  have hl := congrArg List.length h2
  rw [List.length_drop, List.length_append] at hl
  have e : c.bytes l.length = (⟨c.s, c.at' + l.length, 0⟩, l) := by
    unfold Cu.bytes
    rw [if_neg (by simpa using h1), if_neg (by omega), h2, List.take_left, h1]
  rw [e]; exact ⟨t, rfl⟩
theorem Took.at {c c' : Cu} {l : List UInt8} (t : Took c c' l) (hc : c.at' ≤ c.s.length) : c'.at' ≤ c'.s.length := by
  obtain ⟨h1, h2, h3, h4, h5⟩ := t
  have := congrArg List.length h5
  simp only [List.length_drop, List.length_append] at this
  rw [h3]
  by_cases e : c.at' + l.length ≤ c.s.length
  · omega
  · omega
theorem txt_eq (s : List UInt8) : txtL s = uvL (BitVec.ofNat 64 s.length) ++ s := rfl
theorem text_to {c : Cu} {s : List UInt8} {most : Nat} (hc : c.at' ≤ c.s.length) (hm : s.length ≤ most) (hm2 : s.length < 18446744073709551616) (a : Ahead c (txtL s)) : Took c (c.text most).1 (txtL s) ∧ (c.text most).2 = s := by
  rw [txt_eq] at a
  obtain ⟨h1, h2⟩ := count_to hm hm2 a.split
  obtain ⟨h3, h4⟩ := bytes_to (h1.at hc) (a.next h1)
  unfold Cu.text
  rw [h2, if_neg (by have := h3.2.1; simpa using this)]
  exact ⟨h1.trans h3, h4⟩
def popN (n : Nat) : Nat := if h : n = 0 then 0 else n % 2 + popN (n / 2)
termination_by n
decreasing_by omega
theorem popN_zero : popN 0 = 0 := by rw [popN]; rfl
theorem popN_odd (k : Nat) : popN (2 * k + 1) = popN k + 1 := by
  rw [popN, dif_neg (by omega), show (2 * k + 1) % 2 = 1 by omega, show (2 * k + 1) / 2 = k by omega]; omega
theorem popN_even (k : Nat) : popN (2 * k) = popN k := by
  by_cases h : k = 0
  · rw [h]
  · rw [popN, dif_neg (by omega), show (2 * k) % 2 = 0 by omega, show (2 * k) / 2 = k by omega]; omega
theorem popN_pos : ∀ {n : Nat}, 0 < n → 0 < popN n := by
  intro n
  induction n using Nat.strongRecOn with
  | ind n ih =>
    intro h
    rcases Nat.mod_two_eq_zero_or_one n with e | e
    · obtain ⟨k, rfl⟩ : ∃ k, n = 2 * k := ⟨n / 2, by omega⟩
      rw [popN_even]; exact ih k (by omega) (by omega)
    · obtain ⟨k, rfl⟩ : ∃ k, n = 2 * k + 1 := ⟨n / 2, by omega⟩
      rw [popN_odd]; omega
theorem popN_le : ∀ n : Nat, popN n ≤ n := by
  intro n
  induction n using Nat.strongRecOn with
  | ind n ih =>
    rw [popN]
    split
    · omega
    · have := ih (n / 2) (by omega); omega
def carry (n : Nat) (pk : List (List UInt8)) : List (List UInt8) :=
  if h : n ≠ 0 ∧ n % 2 = 0 then carry (n / 2) (pk.take (pk.length - 2) ++ [nodeF (pk.getD (pk.length - 2) []) (pk.getD (pk.length - 1) [])]) else pk
termination_by n
decreasing_by omega
theorem carry_odd {n : Nat} {pk : List (List UInt8)} (h : ¬ n % 2 = 0) : carry n pk = pk := by rw [carry, dif_neg (fun e => h e.2)]
theorem carry_even {n : Nat} {pk : List (List UInt8)} (h0 : 0 < n) (h : n % 2 = 0) : carry n pk = carry (n / 2) (pk.take (pk.length - 2) ++ [nodeF (pk.getD (pk.length - 2) []) (pk.getD (pk.length - 1) [])]) := by rw [carry, dif_pos ⟨by omega, h⟩]
theorem carry_len : ∀ {n : Nat} {pk : List (List UInt8)}, 0 < n → pk.length = popN (n - 1) + 1 → (carry n pk).length = popN n := by
  intro n
  induction n using Nat.strongRecOn with
  | ind n ih =>
    intro pk h0 hl
    rcases Nat.mod_two_eq_zero_or_one n with e | e
    · obtain ⟨k, rfl⟩ : ∃ k, n = 2 * (k + 1) := ⟨n / 2 - 1, by omega⟩
      rw [carry_even h0 e, show 2 * (k + 1) / 2 = k + 1 by omega, popN_even]
      rw [show 2 * (k + 1) - 1 = 2 * k + 1 by omega, popN_odd] at hl
      refine ih (k + 1) (by omega) (by omega) ?_
      rw [List.length_append, List.length_take, List.length_singleton, show k + 1 - 1 = k by omega]; omega
    · obtain ⟨k, rfl⟩ : ∃ k, n = 2 * k + 1 := ⟨n / 2, by omega⟩
      rw [carry_odd (by omega), hl, popN_odd, show 2 * k + 1 - 1 = 2 * k by omega, popN_even]
def addP (a : Nat × List (List UInt8)) (h : List UInt8) : Nat × List (List UInt8) := (a.1 + 1, carry (a.1 + 1) (a.2 ++ [h]))
def pkOf (lv : List (List UInt8)) : List (List UInt8) := (lv.foldl addP (0, [])).2
theorem foldP_len (lv : List (List UInt8)) : ∀ a, (lv.foldl addP a).1 = a.1 + lv.length := by
  induction lv with
  | nil => intro a; rfl
  | cons x lv ih => intro a; rw [List.foldl_cons, ih, List.length_cons]; show a.1 + 1 + lv.length = _; omega
theorem pkOf_snoc (lv : List (List UInt8)) (h : List UInt8) : pkOf (lv ++ [h]) = carry (lv.length + 1) (pkOf lv ++ [h]) := by
  unfold pkOf
  rw [List.foldl_append]
  show carry ((lv.foldl addP (0, [])).1 + 1) _ = _
  rw [foldP_len, Nat.zero_add]
theorem snoc_cases {α : Type} (l : List α) : l = [] ∨ ∃ m x, l = m ++ [x] := by
  rcases l.eq_nil_or_concat with h | ⟨m, x, h⟩
  · exact .inl h
  · exact .inr ⟨m, x, by rw [h, List.concat_eq_append]⟩
theorem pkOf_len : ∀ (n : Nat) (lv : List (List UInt8)), lv.length = n → (pkOf lv).length = popN n := by
  intro n
  induction n with
  | zero => intro lv h; rw [List.length_eq_zero_iff.1 h, popN_zero]; rfl
  | succ n ih =>
    intro lv h
    rcases snoc_cases lv with rfl | ⟨m, x, rfl⟩
    · simp at h
    · rw [List.length_append, List.length_singleton] at h
      have hm : m.length = n := by omega
      rw [pkOf_snoc, hm]
      refine carry_len (by omega) ?_
      rw [List.length_append, List.length_singleton, ih m hm, Nat.add_sub_cancel]
theorem carry_all : ∀ {n : Nat} {pk : List (List UInt8)}, (∀ x ∈ pk, x.length ≤ 32) → ∀ x ∈ carry n pk, x.length ≤ 32 := by
  intro n
  induction n using Nat.strongRecOn with
  | ind n ih =>
    intro pk h
    by_cases e : n ≠ 0 ∧ n % 2 = 0
    · rw [carry_even (by omega) e.2]
      refine ih (n / 2) (by omega) fun x hx => ?_
      rcases List.mem_append.1 hx with hx | hx
      · exact h x (List.mem_of_mem_take hx)
      · rw [List.mem_singleton.1 hx, nodeF_len]; exact Nat.le_refl _
    · rw [carry, dif_neg e]; exact h
theorem pkOf_all : ∀ (n : Nat) (lv : List (List UInt8)), lv.length = n → (∀ x ∈ lv, x.length ≤ 32) → ∀ x ∈ pkOf lv, x.length ≤ 32 := by
  intro n
  induction n with
  | zero => intro lv h _; rw [List.length_eq_zero_iff.1 h]; intro x hx; cases hx
  | succ n ih =>
    intro lv h hv
    rcases snoc_cases lv with rfl | ⟨m, x, rfl⟩
    · simp at h
    · rw [List.length_append, List.length_singleton] at h
      rw [pkOf_snoc]
      refine carry_all fun y hy => ?_
      rcases List.mem_append.1 hy with hy | hy
      · exact ih m (by omega) (fun z hz => hv z (by simp [hz])) y hy
      · rw [List.mem_singleton.1 hy]; exact hv x (by simp)
def topF (pk : List (List UInt8)) : List UInt8 := match pk.reverse with
  | [] => sumF []
  | h :: r => r.foldl (fun h p => nodeF p h) h
theorem topF_snoc (pk : List (List UInt8)) (h : List UInt8) : topF (pk ++ [h]) = pk.reverse.foldl (fun h p => nodeF p h) h := by
  unfold topF; rw [List.reverse_append]; rfl
structure Bk where
  seq : BitVec 64
  prev : List UInt8
  tx : BitVec 64
  revs : List Rv
def Bk.num (b : Bk) : BitVec 64 := BitVec.ofInt 64 (b.revs.length : Nat)
def headB (b : Bk) : List UInt8 := uvL b.seq ++ encT b.prev ++ uvL b.tx ++ uvL b.num
def rootB (b : Bk) : List UInt8 := topF (pkOf (b.revs.map fun r => leafF (metaF r)))
def hashB (b : Bk) : List UInt8 := sumF (2 :: (headB b ++ rootB b))
def frameB (b : Bk) : List UInt8 := headB b ++ b.revs.flatMap metaF
def bare (r : Rv) : Rv := { r with body := [], gone := bodB r.op }
def Bk.Ok (b : Bk) : Prop := b.prev.length ≤ 32 ∧ 1 ≤ b.revs.length ∧ b.revs.length ≤ 64 ∧ b.revs.all okR = true
def Bk.bare (b : Bk) : Bk := { b with revs := b.revs.map VhN.bare }
theorem bodB_iff {op : Int} : bodB op = true ↔ op = 3 ∨ op = 4 := by unfold bodB; simp
def bodd (l : List Rv) : List Nat := (List.range l.length).filter fun i => (l[i]?.map fun r => bodB r.op).getD false
def takeRv (c : Cu) : Cu × Rv :=
  ((((((c.bytes 1).1.text 16).1.text 16).1.uint.1.uint.1.text 32)).1,
   ⟨if (c.bytes 1).1.e = 0 then (((c.bytes 1).2.getD 0 0).toNat : Int) else 0, ((c.bytes 1).1.text 16).2, (((c.bytes 1).1.text 16).1.text 16).2,
    BitVec.ofNat 64 (((c.bytes 1).1.text 16).1.text 16).1.uint.2, BitVec.ofNat 64 (((c.bytes 1).1.text 16).1.text 16).1.uint.1.uint.2,
    ((((c.bytes 1).1.text 16).1.text 16).1.uint.1.uint.1.text 32).2, [], false⟩)
def readRvs : Nat → Cu → List Rv → Cu × List Rv
  | 0, c, l => (c, l)
  | n + 1, c, l => if c.e ≠ 0 then (c, l) else readRvs n (takeRv c).1 (l ++ [{ (takeRv c).2 with gone := bodB (takeRv c).2.op }])
def curB (s : List UInt8) : Cu × BitVec 64 × List UInt8 × BitVec 64 × Nat :=
  let u := Cu.uint ⟨s, 0, 0⟩
  let p := u.1.text 32
  let x := p.1.uint
  let n := x.1.count 64
  (n.1, BitVec.ofNat 64 u.2, p.2, BitVec.ofNat 64 x.2, n.2)
def rdB (s : List UInt8) : Cu × List Rv := readRvs (curB s).2.2.2.2 (curB s).1 []
def zeroB : Bk := ⟨0#64, [], 0#64, []⟩
noncomputable def readB (s : List UInt8) : Bk × Int :=
  if (rdB s).1.fin.e ≠ 0 then (zeroB, (rdB s).1.fin.e) else if (rdB s).2.all okR = true then (⟨(curB s).2.1, (curB s).2.2.1, (curB s).2.2.2.1, (rdB s).2⟩, 0) else (zeroB, 6)
theorem okR_and {r : Rv} (h : okR r = true) : 1 ≤ r.op ∧ r.op ≤ 5 ∧ nameB r.tab = true ∧ fldR r = true ∧ numR r = true ∧ bytR r = true := by
  unfold okR at h
  simp only [Bool.and_eq_true, decide_eq_true_eq] at h
  obtain ⟨⟨⟨⟨⟨h1, h2⟩, h3⟩, h4⟩, h5⟩, h6⟩ := h
  exact ⟨h1, h2, h3, h4, h5, h6⟩
theorem bytR_hash {r : Rv} (h : bytR r = true) : r.hash.length ≤ 32 ∧ r.body.length ≤ 1024 := by
  unfold bytR at h
  split at h
  · split at h
    · simp only [Bool.and_eq_true, decide_eq_true_eq] at h; rw [h.1, h.2]; exact ⟨Nat.le_refl _, Nat.zero_le _⟩
    · simp only [Bool.and_eq_true, decide_eq_true_eq] at h; rw [h.1, leafF_len]; exact ⟨Nat.le_refl _, h.2⟩
  · simp only [Bool.and_eq_true, decide_eq_true_eq] at h; rw [h.1.1, h.1.2]; exact ⟨by decide, Nat.zero_le _⟩
end VhN
end Go.Proofs.YthlfffbcligocaaGreat
namespace Go.Proofs.YthlfffbcligocaaGreat
open Go.SL Go.RowKit
set_option maxRecDepth 100000
open VhA VhB VhC VhD VhE VhF VhG VhH VhI VhJ VhK VhL VhM VhN
namespace VhO
theorem name_len {s : List UInt8} (h : nameB s = true) : s.length ≤ 16 := by
  by_cases e : NameP s
  · exact e.2.2
  · rw [nameB_no e] at h; cases h
theorem fldR_len {r : Rv} (h : fldR r = true) : r.fld.length ≤ 16 := by
  unfold fldR at h
  split at h
  · exact name_len h
  · rw [of_decide_eq_true h]; exact Nat.zero_le _
theorem uint_to' {c : Cu} {x : BitVec 64} (a : Ahead c (uvL x)) : Took c c.uint.1 (uvL x) ∧ BitVec.ofNat 64 c.uint.2 = x := by
  have e : BitVec.ofNat 64 x.toNat = x := by rw [BitVec.ofNat_toNat, BitVec.setWidth_eq]
  have h := uint_to (c := c) x.isLt (by rw [e]; exact a)
  rw [e] at h
  exact ⟨h.1, by rw [h.2, e]⟩
theorem meta_to {c : Cu} {r : Rv} (hc : c.at' ≤ c.s.length) (hr : okR r = true) (a : Ahead c (metaF r)) : Took c (takeRv c).1 (metaF r) ∧ (takeRv c).2 = { r with body := [], gone := false } := by
  obtain ⟨h1, h2, h3, h4, h5, h6⟩ := okR_and hr
  have ht := name_len h3
  have hf := fldR_len h4
  have hh := (bytR_hash h6).1
  have a6 : Ahead c ([toB r.op] ++ encT r.tab ++ encT r.fld ++ uvL r.doc ++ uvL r.ver ++ encT r.hash) := a
  have a5 := a6.split
  have a4 := a5.split
  have a3 := a4.split
  have a2 := a3.split
  have a1 := a2.split
  obtain ⟨t1, e1⟩ := bytes_to (l := [toB r.op]) hc a1
  obtain ⟨t2, e2⟩ := text_to (most := 16) (t1.at hc) ht (by omega) (a2.next t1)
  have u2 := t1.trans t2
  obtain ⟨t3, e3⟩ := text_to (most := 16) (u2.at hc) hf (by omega) (a3.next u2)
  have u3 := u2.trans t3
  obtain ⟨t4, e4⟩ := uint_to' (a4.next u3)
  have u4 := u3.trans t4
  obtain ⟨t5, e5⟩ := uint_to' (a5.next u4)
  have u5 := u4.trans t5
  obtain ⟨t6, e6⟩ := text_to (most := 32) (u5.at hc) hh (by omega) (a6.next u5)
  have u6 := u5.trans t6
  refine ⟨u6, ?_⟩
  have g1 : (c.bytes 1).1.e = 0 := t1.2.1
  have g2 : (c.bytes 1).2 = [toB r.op] := e1
  have hop : (((toB r.op).toNat : Nat) : Int) = r.op := by
    obtain ⟨n, hn⟩ : ∃ n : Nat, r.op = n := ⟨r.op.toNat, by omega⟩
    rw [hn, toB_nat (by omega)]
  unfold takeRv
  simp only [List.length_singleton] at e1 e2 e3 e4 e5 e6
  obtain ⟨op, tab, fld, doc, ver, hash, body, gone⟩ := r
  simp only at *
  rw [if_pos g1, g2]
  congr 1
theorem revs_to : ∀ (l : List Rv) (c : Cu) (acc : List Rv), c.at' ≤ c.s.length → (∀ r ∈ l, okR r = true) → Ahead c (l.flatMap metaF) →
    Took c (readRvs l.length c acc).1 (l.flatMap metaF) ∧ (readRvs l.length c acc).2 = acc ++ l.map VhN.bare := by
  intro l
  induction l with
  | nil => intro c acc hc _ a; exact ⟨Took.refl a.1, (List.append_nil _).symm⟩
  | cons r l ih =>
    intro c acc hc hl a
    rw [List.flatMap_cons] at a ⊢
    obtain ⟨t1, e1⟩ := meta_to hc (hl r (by simp)) a.split
    have a2 := a.next t1
    obtain ⟨t2, e2⟩ := ih (takeRv c).1 (acc ++ [{ (takeRv c).2 with gone := bodB (takeRv c).2.op }]) (t1.at hc) (fun x hx => hl x (by simp [hx])) a2
    have hu : readRvs (r :: l).length c acc = readRvs l.length (takeRv c).1 (acc ++ [{ (takeRv c).2 with gone := bodB (takeRv c).2.op }]) := by
      rw [List.length_cons, readRvs, if_neg (fun h => h a.1)]
    rw [hu]
    refine ⟨t1.trans t2, ?_⟩
    rw [e2, e1, List.append_assoc]; rfl
theorem okR_bare {r : Rv} (h : okR r = true) : okR (VhN.bare r) = true := by
  obtain ⟨h1, h2, h3, h4, h5, h6⟩ := okR_and h
  have hb : bytR (VhN.bare r) = true := by
    unfold bytR at h6 ⊢
    show (if bodB r.op = true then (if bodB r.op = true then decide (r.hash.length = 32) && decide (([] : List UInt8) = []) else _) else decide (r.hash = []) && decide (([] : List UInt8) = []) && !(bodB r.op)) = true
    split
    · rename_i e
      rw [if_pos e] at h6
      have hl : r.hash.length = 32 := by
        split at h6
        · simp only [Bool.and_eq_true, decide_eq_true_eq] at h6; exact h6.1
        · simp only [Bool.and_eq_true, decide_eq_true_eq] at h6; rw [h6.1, leafF_len]
      simp [hl]
    · rename_i e
      rw [if_neg e] at h6
      simp only [Bool.and_eq_true, decide_eq_true_eq] at h6
      simp [h6.1.1, e]
  unfold okR
  show (decide (1 ≤ r.op) && decide (r.op ≤ 5) && nameB r.tab && fldR (VhN.bare r) && numR (VhN.bare r) && bytR (VhN.bare r)) = true
  rw [show fldR (VhN.bare r) = true from h4, show numR (VhN.bare r) = true from h5, hb, h3, decide_eq_true h1, decide_eq_true h2]; rfl
theorem read_frame {b : Bk} (h : b.Ok) : readB (frameB b) = (b.bare, 0) := by
  obtain ⟨h1, h2, h3, h4⟩ := h
  have hok := List.all_eq_true.1 h4
  obtain ⟨s, hs⟩ : ∃ s, s = frameB b := ⟨_, rfl⟩
  have a : Ahead ⟨s, 0, 0⟩ (uvL b.seq ++ encT b.prev ++ uvL b.tx ++ uvL b.num ++ b.revs.flatMap metaF) := ⟨rfl, [], by rw [hs, List.append_nil]; rfl⟩
  have a4 := a.split
  have a3 := a4.split
  have a2 := a3.split
  have a1 := a2.split
  have h0 : (⟨s, 0, 0⟩ : Cu).at' ≤ (⟨s, 0, 0⟩ : Cu).s.length := Nat.zero_le _
  obtain ⟨t1, e1⟩ := uint_to' a1
  obtain ⟨t2, e2⟩ := text_to (most := 32) (t1.at h0) h1 (by omega) (a2.next t1)
  have u2 := t1.trans t2
  obtain ⟨t3, e3⟩ := uint_to' (a3.next u2)
  have u3 := u2.trans t3
  obtain ⟨t4, e4⟩ := count_to (n := b.revs.length) (most := 64) h3 (by omega) (a4.next u3)
  have u4 : Took ⟨s, 0, 0⟩ _ (uvL b.seq ++ encT b.prev ++ uvL b.tx ++ uvL b.num) := u3.trans t4
  obtain ⟨t5, e5⟩ := revs_to b.revs _ [] (u4.at h0) hok (a.next u4)
  have u5 := u4.trans t5
  rw [← hs]
  have hc : curB s = ((((((⟨s, 0, 0⟩ : Cu).uint.1.text 32).1.uint).1.count 64).1), b.seq, b.prev, b.tx, b.revs.length) := by
    unfold curB
    show ((((((⟨s, 0, 0⟩ : Cu).uint.1.text 32).1.uint).1.count 64).1), BitVec.ofNat 64 (⟨s, 0, 0⟩ : Cu).uint.2, ((⟨s, 0, 0⟩ : Cu).uint.1.text 32).2, BitVec.ofNat 64 ((⟨s, 0, 0⟩ : Cu).uint.1.text 32).1.uint.2, (((⟨s, 0, 0⟩ : Cu).uint.1.text 32).1.uint.1.count 64).2) = _
    rw [e1, e2, e3, e4]
  have hr1 : (rdB s).1 = (readRvs b.revs.length ((((⟨s, 0, 0⟩ : Cu).uint.1.text 32).1.uint).1.count 64).1 []).1 := by unfold rdB; rw [hc]
  have hr2 : (rdB s).2 = b.revs.map VhN.bare := by unfold rdB; rw [hc]; rw [e5, List.nil_append]
  have hfin : (rdB s).1.fin.e = 0 := by
    rw [hr1]
    unfold Cu.fin
    rw [if_neg]
    · exact u5.2.1
    · rw [u5.2.2.1, u5.2.2.2.1]
      have : s.length = (uvL b.seq ++ encT b.prev ++ uvL b.tx ++ uvL b.num ++ b.revs.flatMap metaF).length := by rw [hs]; rfl
      show ¬ 0 + _ < s.length
      omega
  unfold readB
  rw [if_neg (fun e => e hfin), hr2, if_pos (List.all_eq_true.2 fun r hr => by
    obtain ⟨x, hx, rfl⟩ := List.mem_map.1 hr
    exact okR_bare (hok x hx)), hc]
  rfl
end VhO
end Go.Proofs.YthlfffbcligocaaGreat
namespace Go.Proofs.YthlfffbcligocaaGreat
open Go.SL Go.RowKit
set_option maxRecDepth 100000
namespace DkA
theorem sz3 : (Tryz.prog.info? 3).map (·.size) = some 1 := by kernel_rfl
theorem sz5 : (Tryz.prog.info? 5).map (·.size) = some 1 := by kernel_rfl
theorem sz59 : (Tryz.prog.info? 59).map (·.size) = some 3 := by kernel_rfl
theorem ti3 : TI Tryz.prog 3 [.int .i64 0] 1 8 := TI.of (by kernel_rfl) rfl rfl
theorem ti5 : TI Tryz.prog 5 [.int .u8 0] 1 1 := TI.of (by kernel_rfl) rfl rfl
theorem ti59 : TI Tryz.prog 59 [.int .i64 0, .int .u64 0, .int .i64 0] 3 24 := TI.of (by kernel_rfl) rfl rfl
theorem mid_val {i j : Nat} (h : i + j < 9223372036854775808) : IntKind.i64.wrap ((((BitVec.ofInt 64 ((i + j : Nat) : Int)) >>> 1).toNat : Nat) : Int) = (((i + j) / 2 : Nat) : Int) := by
  have e : (BitVec.ofInt 64 ((i + j : Nat) : Int)).toNat = i + j := by rw [BitVec.toNat_ofInt]; simp only [Nat.reducePow]; omega
  rw [BitVec.toNat_ushiftRight, Nat.shiftRight_eq_div_pow, e, wrap64 (by omega) (by omega)]
def sec (n : Nat) : Nat := (n + 63) / 64
def nv (l : List Nat) : List Value := l.map fun n => i64 ((n : Nat) : Int)
theorem nv_len (l : List Nat) : (nv l).length = l.length := by simp [nv]
theorem nv_all (l : List Nat) : (nv l).all (·.oneCell') = true := by
  rw [List.all_eq_true]; intro v hv; obtain ⟨x, _, rfl⟩ := List.mem_map.1 hv; rfl
theorem u8_all (l : List UInt8) : (u8s l).all (·.oneCell') = true := by
  rw [List.all_eq_true]; intro v hv; obtain ⟨x, _, rfl⟩ := List.mem_map.1 hv; rfl
def Rise (l : List Nat) : Prop := l.Pairwise (fun a b => a < b)
theorem Rise.lt {l : List Nat} (h : Rise l) {i j : Nat} (hj : j < l.length) (hij : i < j) : l[i]'(by omega) < l[j] := List.pairwise_iff_getElem.1 h i j (by omega) hj hij
def lbN : List Nat → Nat → Nat
  | [], _ => 0
  | k :: ks, t => if k < t then lbN ks t + 1 else 0
theorem lbN_eq : ∀ (ks : List Nat) (t i : Nat), i ≤ ks.length → (∀ j (hj : j < ks.length), j < i → ks[j] < t) → (∀ h : i < ks.length, ¬ ks[i] < t) → lbN ks t = i := by
  intro ks t
  induction ks with
  | nil => intro i h _ _; simp at h; subst h; rfl
  | cons k ks ih =>
    intro i h h1 h2
    unfold lbN
    cases i with
    | zero => rw [if_neg (by have := h2 (by simp); simpa using this)]
    | succ i =>
      rw [if_pos (by have := h1 0 (by simp) (by omega); simpa using this)]
      rw [ih i (by simpa using h) (fun j hj hji => by have := h1 (j + 1) (by simp; omega) (by omega); simpa using this) (fun h => by have := h2 (by simp; omega); simpa using this)]
theorem memN_at {ks : List Nat} {t i : Nat} (hs : Rise ks) (h1 : ∀ j (hj : j < ks.length), j < i → ks[j] < t) (h2 : ∀ j (hj : j < ks.length), i ≤ j → ¬ ks[j] < t) : t ∈ ks ↔ ∃ h : i < ks.length, ks[i] = t := by
  constructor
  · intro hm
    obtain ⟨j, hj, rfl⟩ := List.getElem_of_mem hm
    rcases Nat.lt_trichotomy j i with h | h | h
    · have := h1 j hj h; omega
    · subst h; exact ⟨hj, rfl⟩
    · have e1 := hs.lt hj h
      have e2 := h2 i (by omega) (Nat.le_refl _)
      omega
  · rintro ⟨h, rfl⟩; exact List.getElem_mem h
theorem ros_nat {B : Frag} {A : Option Addr} {n : Nat} {ks : List Nat} (h : RoS B 1 A n (nv ks)) {k : Nat} (hk : k < ks.length) (hn : ks.length = n) : ∃ b o cs et fz, A = some ⟨b, o, none⟩ ∧ B b = some (.cells (List.toArray cs) et fz) ∧ cs[o + k * 1]? = some (i64 ((ks[k] : Nat) : Int)) := by
  obtain ⟨b, o, cs, et, fz, h1, h2, h3⟩ := h.at (k := k) (by omega)
  refine ⟨b, o, cs, et, fz, h1, h2, ?_⟩
  have h4 : ((cs.drop (o + k * 1)).take 1)[0]? = (((nv ks).drop (k * 1)).take 1)[0]? := by rw [h3]
  rw [List.getElem?_take_of_lt (by decide), List.getElem?_take_of_lt (by decide), List.getElem?_drop, List.getElem?_drop] at h4
  rw [Nat.add_zero, Nat.add_zero, Nat.mul_one] at h4
  rw [Nat.mul_one, h4]
  simp [nv, hk]
set_option maxHeartbeats 1000000 in
theorem sectors_ct (n : Nat) (B : Frag) (hn : n ≤ 9223372036854775000) : CtP Tryz.prog 56 [i64 ((n : Nat) : Int)] B (i64 ((sec n : Nat) : Int)) := by
  refine CtB.of_body Tryz.func56 rfl (nt := 7) rfl (by kernel_rfl) rfl ?_
  intro N0 w0 R
  refine Cq (fun K1 k1 => ?_)
  refine Cr <| Lx.y (asg rfl) rfl <| Lx.nil <| ?_
  refine Xx.tn (k1 _ _ _ _ ?_)
  refine Cq (fun K2 k2 => ?_)
  refine Cr <| Lx.y (mv rfl) rfl <| Lx.y (Yx.val (add rfl rfl (by first | exact wrap64 (by omega) (by omega) | rfl)) (show _ = i64 ((n + 64 : Nat) : Int) from rfl)) rfl <| Lx.y (Yx.val (sub rfl rfl (by first | exact wrap64 (by omega) (by omega) | rfl)) (show _ = i64 ((n + 63 : Nat) : Int) by congr 1; omega)) rfl <| Lx.y (Yx.val (quoN rfl rfl (by omega) (by decide) (by exact wrap64 (by omega) (by omega))) (show _ = i64 ((sec n : Nat) : Int) from rfl)) rfl <| Lx.y (asg rfl) rfl <| Lx.nil <| ?_
  refine Xx.tn (k2 _ _ _ _ ?_)
  refine Cx.ret ?_
  exact Xx.rB1 rfl rfl ⟨rfl, rfl⟩ (Fl _) rfl
set_option maxHeartbeats 1000000 in
theorem nanC_ct (n : Int) (B : Frag) : CtP Tryz.prog 158 [i64 n] B (.bool false) := by
  refine CtB.of_body Tryz.func158 rfl (nt := 6) rfl (by kernel_rfl) rfl ?_
  intro N0 w0 R
  refine Cq (fun K1 k1 => ?_)
  refine Cr <| Lx.y (asg rfl) rfl <| Lx.nil <| ?_
  refine Xx.tn (k1 _ _ _ _ ?_)
  refine Cq (fun K2 k2 => ?_)
  refine Cr <| Lx.y (mv rfl) rfl <| Lx.y (mv rfl) rfl <| Lx.y (Yx.ff (neI rfl rfl) (by simp)) rfl <| Lx.y (asg rfl) rfl <| Lx.nil <| ?_
  refine Xx.tn (k2 _ _ _ _ ?_)
  refine Cx.ret ?_
  exact Xx.rB1 rfl rfl ⟨rfl, rfl⟩ (Fl _) rfl
set_option maxHeartbeats 1000000 in
theorem nanI_ct (n : Int) (B : Frag) : CtP Tryz.prog 130 [i64 n] B (.bool false) := by
  refine CtB.of_body Tryz.func130 rfl (nt := 6) rfl (by kernel_rfl) rfl ?_
  intro N0 w0 R
  refine Cq (fun K1 k1 => ?_)
  refine Cr <| Lx.y (asg rfl) rfl <| Lx.nil <| ?_
  refine Xx.tn (k1 _ _ _ _ ?_)
  refine Cq (fun K2 k2 => ?_)
  refine Cr <| Lx.y (mv rfl) rfl <| Lx.y (mv rfl) rfl <| Lx.y (Yx.ff (neI rfl rfl) (by simp)) rfl <| Lx.y (asg rfl) rfl <| Lx.nil <| ?_
  refine Xx.tn (k2 _ _ _ _ ?_)
  refine Cx.ret ?_
  exact Xx.rB1 rfl rfl ⟨rfl, rfl⟩ (Fl _) rfl
set_option maxHeartbeats 1000000 in
theorem LessI_ct (m n : Int) (B : Frag) : CtP Tryz.prog 129 [i64 m, i64 n] B (.bool (decide (m < n))) := by
 refine CtB.of_body Tryz.func129 rfl (nt := 17) rfl (by kernel_rfl) rfl ?_
 intro N0 w0 R
 refine Cq (fun K1 k1 => ?_)
 refine Cr <| Lx.y (asg rfl) rfl <| Lx.nil <| ?_
 refine Xx.tn (k1 _ _ _ _ ?_)
 refine Cq (fun K2 k2 => ?_)
 refine Cr <| Lx.y (mv rfl) rfl <| ?_
 refine Lx.cp rfl rfl rfl (nanC_ct _ _) rfl ?_
 refine Lx.y (mv rfl) rfl <| Lx.gF rfl rfl rfl rfl <| Lx.gF rfl rfl rfl rfl <| Lx.gF rfl rfl rfl rfl <| Lx.y (pickF rfl rfl) rfl <| Lx.y (mv rfl) rfl <| Lx.gT rfl rfl rfl <| Lx.y (mv rfl) rfl <| Lx.gT rfl rfl rfl <| Lx.y (mv rfl) rfl <| Lx.gT rfl rfl rfl <| Lx.y (lss rfl rfl) rfl <| ?_
 refine Lx.y (pickF rfl rfl) rfl <| Lx.y (asg rfl) rfl <| Lx.nil <| ?_
 refine Xx.tn (k2 _ _ _ _ ?_)
 refine Cx.ret ?_
 exact Xx.rB1 rfl rfl ⟨rfl, rfl⟩ (Fl _) rfl
set_option maxHeartbeats 1000000 in
theorem BSn_ro (ks : List Nat) (t : Nat) (A : Option Addr) (c : Nat) (B : Frag) (hR : RoS B 1 A ks.length (nv ks)) (hs : Rise ks) (hn : ks.length ≤ 4611686018427387904) : CtP Tryz.prog 101 [.slice A ks.length c, i64 ((t : Nat) : Int)] B (.tuple #[i64 (lbN ks t : Nat), .bool (decide (t ∈ ks))]) := by
 refine CtB.of_body Tryz.func101 rfl (nt := 54) rfl (by kernel_rfl) rfl ?_
 intro N0 w0 R
 refine Cq (fun K1 k1 => ?_)
 refine Cr <| Lx.y (asg rfl) rfl <| Lx.y (asg rfl) rfl <| Lx.nil <| ?_
 refine Xx.tn (k1 _ _ _ _ ?_)
 refine Cq (fun K2 k2 => ?_)
 refine Cr <| Lx.y (mv rfl) rfl <| Lx.y (lenV (ty' := 0) U26 rfl) rfl <| Lx.y (asg rfl) rfl <| Lx.nil <| ?_
 refine Xx.tn (k2 _ _ _ _ ?_)
 refine Cq (fun K3 k3 => ?_)
 refine Cr <| Lx.y (mv rfl) rfl <| Lx.y (asg rfl) rfl <| Lx.y (asg rfl) rfl <| Lx.nil <| ?_
 refine Xx.tn (k3 _ _ _ _ ?_)
 refine Cq (fun K4 k4 => ?_)
 refine Cx.block ?_
 refine Cx.loopK (Sc 0 rfl (Sc 1 rfl (Sc 4 rfl (Sc 5 rfl (Sc 6 rfl (Sc 10 rfl (Sc 11 rfl (Sc 12 rfl (Sub.nil _))))))))) (fun m ρ' B' H' => ∃ (i j : Nat), (i ≤ j ∧ j ≤ ks.length ∧ (∀ k (hk : k < ks.length), k < i → ks[k] < t) ∧ (∀ k (hk : k < ks.length), j ≤ k → ¬ ks[k] < t)) ∧ m = j - i ∧ ρ' = [(7, i64 i), (8, i64 j)] ∧ B = B' ∧ R = H') ⟨0, ks.length, ⟨Nat.zero_le _, Nat.le_refl _, fun k _ h => absurd h (by omega), fun k hk h => absurd h (by omega)⟩, rfl, rfl, rfl, rfl⟩ (Sc 7 rfl (Sc 8 rfl (Sc 0 rfl (Sc 1 rfl (Sc 4 rfl (Sc 5 rfl (Sc 6 rfl (Sc 10 rfl (Sc 11 rfl (Sc 12 rfl (Sub.nil _))))))))))) ?_
 rintro m ρ' B' H' ⟨i, j, ⟨hij, hjn, hlo, hhi⟩, rfl, rfl, rfl, rfl⟩
 refine Cq (fun K5 k5 => ?_)
 refine Cq (fun K6 k6 => ?_)
 refine Cr <| Lx.y (mv rfl) rfl <| Lx.y (mv rfl) rfl <| Lx.y (lss rfl rfl) rfl <| Lx.nil <| ?_
 refine Xx.tn (k6 _ _ _ _ ?_)
 refine Cx.condD rfl (fun h7 => ?_) (fun h7 => ?_)
 ·
  have hlt := h7
  have hm : (i + j) / 2 < ks.length := by omega
  obtain ⟨b, o, cs0, et0, fz0, rfl, hB0, hv0⟩ := ros_nat hR hm rfl
  refine Cx.skip ?_
  refine Xx.tn (k5 _ _ _ _ ?_)
  refine Cx.block ?_
  refine Cq (fun K8 k8 => ?_)
  refine Cr <| Lx.y (mv rfl) rfl <| Lx.y (mv rfl) rfl <| Lx.y (Yx.val (add rfl rfl (by first | exact wrap64 (by omega) (by omega) | rfl)) (show _ = i64 (i + j : Nat) from rfl)) rfl <| Lx.y (cvW64 rfl U3 U182) rfl <| Lx.y (shrW64 (c := 1) rfl rfl rfl) rfl <| Lx.y (Yx.val (cvI rfl U182 U3 (mid_val (by omega))) (show _ = i64 ((i + j) / 2 : Nat) from rfl)) rfl <| Lx.y (asg rfl) rfl <| Lx.nil <| ?_
  refine Xx.tn (k8 _ _ _ _ ?_)
  refine Cq (fun K9 k9 => ?_)
  refine Cr <| Lx.y (mv rfl) rfl <| Lx.y (mv rfl) rfl <| Lx.y (ia U26 sz3 rfl rfl (by first | exact Int.toNat_natCast _ | rfl) (by omega) (by omega)) rfl <| Lx.y (ldB U3 rfl rfl hB0 hv0) rfl <| Lx.y (mv rfl) rfl <| ?_
  refine Lx.cp rfl rfl rfl (LessI_ct _ _ _) rfl ?_
  refine Lx.nil ?_
  refine Xx.tn (k9 _ _ _ _ ?_)
  refine Cx.condD rfl (fun h10 => ?_) (fun h10 => ?_)
  ·
   have hb := h10
   have hb : ks[(i + j) / 2] < t := by omega
   refine Cr <| Lx.y (mv rfl) rfl <| Lx.y (Yx.val (add rfl rfl (by first | exact wrap64 (by omega) (by omega) | rfl)) (show _ = i64 ((i + j) / 2 + 1 : Nat) from rfl)) rfl <| Lx.y (asg rfl) rfl <| Lx.nil <| Xx.bn <| ?_
   exact Xx.againK ⟨(i + j) / 2 + 1, j, ⟨by omega, hjn, fun k hk hki => by
 by_cases e : k = (i + j) / 2
 ·subst e; exact hb
 ·exact Nat.lt_trans (hs.lt hm (by omega)) hb, hhi⟩, rfl, rfl, rfl, rfl⟩ (by omega) (Sc 7 rfl (Sub.consE (s := 8) rfl (rfl) (Sc 0 rfl (Sc 1 rfl (Sc 4 rfl (Sc 5 rfl (Sc 6 rfl (Sc 10 rfl (Sc 11 rfl (Sc 12 rfl (Sub.nil _)))))))))))
  ·
   have hb := h10
   have hb : ¬ ks[(i + j) / 2] < t := by omega
   refine Cr <| Lx.y (mv rfl) rfl <| Lx.y (asg rfl) rfl <| Lx.nil <| Xx.bn <| ?_
   exact Xx.againK ⟨i, (i + j) / 2, ⟨by omega, by omega, hlo, fun k hk hki => by
 by_cases e : k = (i + j) / 2
 ·subst e; exact hb
 ·have := hs.lt hk (show (i + j) / 2 < k by omega)
  omega⟩, rfl, rfl, rfl, rfl⟩ (by omega) (Sub.consE (s := 7) rfl (rfl) (Sc 8 rfl (Sc 0 rfl (Sc 1 rfl (Sc 4 rfl (Sc 5 rfl (Sc 6 rfl (Sc 10 rfl (Sc 11 rfl (Sc 12 rfl (Sub.nil _)))))))))))
 ·
  obtain rfl : i = j := by have := h7; omega
  have hlb := lbN_eq ks t i hjn hlo (fun h => hhi i h (Nat.le_refl _))
  have hmem := memN_at hs hlo hhi
  refine Cx.exit <| Xx.te <| Xx.te <| Xx.bh <| ?_
  refine Xx.tn (k4 _ _ _ _ ?_)
  refine Cq (fun K11 k11 => ?_)
  refine Cr <| Lx.y (mv rfl) rfl <| Lx.y (mv rfl) rfl <| Lx.y (mv rfl) rfl <| Lx.y (lss rfl rfl) rfl <| Lx.y (mv rfl) rfl <| ?_
  refine Xx.ifD (t := 35) rfl (fun h12 => ?_) (fun h12 => ?_)
  ·
   have hin := h12
   have hin : i < ks.length := by omega
   obtain ⟨b, o, cs0, et0, fz0, rfl, hB0, hv0⟩ := ros_nat hR hin rfl
   refine Lx.gT rfl rfl rfl <| Lx.y (mv rfl) rfl <| Lx.gT rfl rfl rfl <| Lx.y (mv rfl) rfl <| Lx.gT rfl rfl rfl <| Lx.y (ia U26 sz3 rfl rfl (by first | exact Int.toNat_natCast _ | rfl) (by omega) (by omega)) rfl <| Lx.gT rfl rfl rfl <| Lx.y (ldB U3 rfl rfl hB0 hv0) rfl <| Lx.gT rfl rfl rfl <| Lx.y (mv rfl) rfl <| Lx.gT rfl rfl rfl <| Lx.y (eqI rfl rfl) rfl <| ?_
   refine Lx.gT rfl rfl rfl <| Lx.y (mv rfl) rfl <| ?_
   refine Xx.ifD (t := 42) rfl (fun h13 => ?_) (fun h13 => ?_)
   ·
    have he := h13
    have he : ks[i] = t := by omega
    refine Lx.gF rfl rfl rfl rfl <| Lx.gF rfl rfl rfl rfl <| Lx.gF rfl rfl rfl rfl <| Lx.gF rfl rfl rfl rfl <| Lx.gF rfl rfl rfl rfl <| Lx.gF rfl rfl rfl rfl <| Lx.gU rfl rfl rfl rfl <| Lx.gU rfl rfl rfl rfl <| Lx.gF rfl rfl rfl rfl <| Lx.gT rfl rfl rfl <| Lx.y (pickT rfl rfl) rfl <| Lx.y (pickT rfl rfl) rfl <| ?_
    refine Lx.y (asg rfl) rfl <| Lx.y (asg rfl) rfl <| Lx.nil <| ?_
    refine Xx.tn (k11 _ _ _ _ ?_)
    refine Cx.ret ?_
    exact Xx.rB2 rfl rfl rfl ⟨by rw [hlb, decide_eq_true (hmem.2 ⟨hin, he⟩)], rfl⟩ (Fl _) rfl
   ·
    have he := h13
    have he : ¬ ks[i] = t := by omega
    refine Lx.gT rfl rfl rfl <| Lx.y (mv rfl) rfl <| Lx.gT rfl rfl rfl <| Lx.y (mv rfl) rfl <| Lx.gT rfl rfl rfl <| Lx.y (ia U26 sz3 rfl rfl (by first | exact Int.toNat_natCast _ | rfl) (by omega) (by omega)) rfl <| Lx.gT rfl rfl rfl <| Lx.y (ldB U3 rfl rfl hB0 hv0) rfl <| Lx.gT rfl rfl rfl <| ?_
    refine Lx.cp rfl rfl rfl (nanI_ct _ _) rfl ?_
    refine Lx.gT rfl rfl rfl <| Lx.y (mv rfl) rfl <| Lx.gF rfl rfl rfl rfl <| Lx.gF rfl rfl rfl rfl <| Lx.gT rfl rfl rfl <| Lx.y (pickF rfl rfl) rfl <| Lx.gT rfl rfl rfl <| Lx.y (pickF rfl rfl) rfl <| Lx.y (pickT rfl rfl) rfl <| Lx.y (asg rfl) rfl <| Lx.y (asg rfl) rfl <| Lx.nil <| ?_
    refine Xx.tn (k11 _ _ _ _ ?_)
    refine Cx.ret ?_
    exact Xx.rB2 rfl rfl rfl ⟨by rw [hlb, decide_eq_false (fun z => he (hmem.1 z).2)], rfl⟩ (Fl _) rfl
  ·
   have hin := h12
   refine Lx.gF rfl rfl rfl rfl <| Lx.gF rfl rfl rfl rfl <| Lx.gF rfl rfl rfl rfl <| Lx.gF rfl rfl rfl rfl <| Lx.gF rfl rfl rfl rfl <| Lx.gF rfl rfl rfl rfl <| Lx.gF rfl rfl rfl rfl <| Lx.gU rfl rfl rfl rfl <| Lx.gU rfl rfl rfl rfl <| Lx.gU rfl rfl rfl rfl <| Lx.gU rfl rfl rfl rfl <| Lx.gU rfl rfl rfl rfl <| ?_
   refine Lx.gU rfl rfl rfl rfl <| Lx.gU rfl rfl rfl rfl <| Lx.gU rfl rfl rfl rfl <| Lx.gU rfl rfl rfl rfl <| Lx.gF rfl rfl rfl rfl <| Lx.y (pickF rfl rfl) rfl <| Lx.y (asg rfl) rfl <| Lx.y (asg rfl) rfl <| Lx.nil <| ?_
   refine Xx.tn (k11 _ _ _ _ ?_)
   refine Cx.ret ?_
   exact Xx.rB2 rfl rfl rfl ⟨by rw [hlb, decide_eq_false (fun z => hin (by have := (hmem.1 z).1; omega))], rfl⟩ (Fl _) rfl
theorem BSn_ct (ks : List Nat) (t : Nat) (A : Option Addr) (c : Nat) (B : Frag) (hs : Rise ks) (hn : ks.length ≤ 4611686018427387904) : CtC Tryz.prog 101 [.slice A ks.length c, i64 ((t : Nat) : Int)] B (sbuf 3 1 A ks.length c (nv ks)) (.tuple #[i64 (lbN ks t : Nat), .bool (decide (t ∈ ks))]) (sbuf 3 1 A ks.length c (nv ks)) :=
  CtC.lend (Go.SL.enters_of Tryz.func101 rfl (by kernel_rfl)) fun k hk ha => BSn_ro ks t A c _ (sbuf_ro hk ha).1 hs hn
set_option maxHeartbeats 1000000 in
theorem ClB_ro (A : Option Addr) (n c : Nat) (xs : List Value) (B : Frag) (hR : RoS B 1 A n xs) (h1 : xs.all (·.oneCell') = true) (hb : n * 1 ≤ 140737488355328) (hn : n ≤ 4611686018427387904) : Ct Tryz.prog 61 [.slice A n c] B 1 (fun v B' H' => B' = B ∧ ∃ A' c', v = .slice A' n c' ∧ H' = sbuf 5 1 A' n c' xs) := by
 refine Ct.of_body Tryz.func61 rfl (nt := 8) rfl (by kernel_rfl) rfl ?_
 intro N0 w0 R
 rw [one_star]
 refine Cq (fun K1 k1 => ?_)
 refine Cr <| Lx.y (asg rfl) rfl <| Lx.nil <| ?_
 refine Xx.tn (k1 _ _ _ _ ?_)
 refine Cq (fun K2 k2 => ?_)
 refine Cq (fun K3 k3 => ?_)
 refine Cr <| Lx.y (mv rfl) rfl <| Lx.y (eqNilV U107 rfl rfl) rfl <| Lx.nil <| ?_
 refine Xx.tn (k3 _ _ _ _ ?_)
 refine Cx.condB rfl (fun h4 => ?_) (fun h4 => ?_)
 ·
  have hA0 : A = none := by cases A with | none => rfl | some a => exact absurd h4 (by simp)
  have hm0 : n = 0 ∧ xs = [] := by
   obtain ⟨hl, h | ⟨b, o, cs, et, fz, h, _⟩⟩ := hR
   ·exact ⟨h.2, List.length_eq_zero_iff.1 (by rw [hl, h.2, Nat.zero_mul])⟩
   ·rw [hA0] at h; cases h
  obtain ⟨rfl, rfl⟩ := hm0
  refine Cq (fun K5 k5 => ?_)
  refine Cr <| Lx.y (asg rfl) rfl <| Lx.nil <| ?_
  refine Xx.tn (k5 _ _ _ _ ?_)
  refine Cx.ret <| Xx.tr <| ?_
  exact Xx.ret1 rfl rfl ⟨rfl, none, 0, rfl, rfl⟩ (Fl _) (by rw [sbuf_nil, one_star])
 ·
  refine Cx.skip ?_
  refine Xx.tn (k2 _ _ _ _ ?_)
  refine Cq (fun K6 k6 => ?_)
  refine Cr ?_
  refine Lx.o (bslZ U107 ti5) rfl (fun v B' H' hΦ hB => ?_)
  obtain ⟨b0, rfl, hBB, rfl⟩ := hΦ
  have hBB2 := hBB.symm
  subst hBB2
  clear hB
  refine Lx.y (mv rfl) rfl ?_
  refine Lx.o (appB (A := some ⟨b0, 0, none⟩) n xs U107 U107 ti5 rfl rfl hR h1 (by omega) (by omega) (by omega) (List.nil_append _)) rfl (fun v B' H' hΦ hB => ?_)
  obtain ⟨A1, c1, rfl, hA1, hc1, hBB, rfl⟩ := hΦ
  have hBB2 := hBB.symm
  subst hBB2
  clear hB
  refine Lx.y (asg rfl) rfl <| Lx.nil <| ?_
  refine Xx.tn (k6 _ _ _ _ ?_)
  refine Cx.ret ?_
  exact Xx.ret1 rfl rfl ⟨rfl, A1, c1, rfl, rfl⟩ (Fl _) rfl
theorem ClB_ct (A : Option Addr) (n c : Nat) (xs : List Value) (B : Frag) (h1 : xs.all (·.oneCell') = true) (hb : n * 1 ≤ 140737488355328) (hn : n ≤ 4611686018427387904) :
    Ct Tryz.prog 61 [.slice A n c] B (sbuf 5 1 A n c xs) (fun v B' H' => B' = B ∧ ∃ A' c', v = .slice A' n c' ∧ H' = sbuf 5 1 A n c xs * sbuf 5 1 A' n c' xs) := by
  have h := Ct.lend (p := sbuf 5 1 A n c xs) (q := 1) (B := B) (args := [.slice A n c]) (Φ := fun v H0 => ∃ A' c', v = .slice A' n c' ∧ H0 = sbuf 5 1 A' n c' xs) (Go.SL.enters_of Tryz.func61 rfl (by kernel_rfl)) (fun k hk ha => ClB_ro A n c xs _ (sbuf_ro hk ha).1 h1 hb hn)
  rw [star_comm, one_star] at h
  refine Ct.mono h ?_
  rintro v B' H' ⟨e1, H0, ⟨A', c', e2, e3⟩, e4⟩
  exact ⟨e1, A', c', e2, by rw [e4, e3]⟩
set_option maxHeartbeats 1000000 in
theorem InsI_end (A : Option Addr) (n c : Nat) (xs : List Value) (vb : Nat) (etv : TypeId) (news : List Value) (B : Frag) (hns : news.length = 1) (hn1 : news.all (·.oneCell') = true) (hbd : (n + 1) * 8 ≤ 140737488355328) : Ct Tryz.prog 102 [.slice A n c, i64 (n : Nat), .slice (some ⟨vb, 0, none⟩) 1 1] B (sbuf 3 1 A n c xs * row vb etv news) (fun v B' H' => ∃ A' c', v = .slice A' (n + 1) c' ∧ B' = B ∧ H' = sbuf 3 1 A' (n + 1) c' (xs ++ news) ∧ (∃ b, A' = some ⟨b, 0, none⟩) ∧ n + 1 ≤ c') := by
 refine Ct.of_body Tryz.func102 rfl (nt := 95) rfl (by kernel_rfl) rfl ?_
 intro N0 w0 R
 rw [star_assoc]
 refine Cq (fun K1 k1 => ?_)
 refine Cr <| Lx.y (asg rfl) rfl <| Lx.nil <| ?_
 refine Xx.tn (k1 _ _ _ _ ?_)
 refine Cq (fun K2 k2 => ?_)
 refine Cr <| Lx.y (mv rfl) rfl <| Lx.y (mv rfl) rfl <| Lx.y (sl1V U26 sz3 rfl rfl (Int.toNat_natCast _) (by omega) (by omega)) rfl <| Lx.nil <| ?_
 refine Xx.tn (k2 _ _ _ _ ?_)
 refine Cq (fun K3 k3 => ?_)
 refine Cr <| Lx.y (mv rfl) rfl <| Lx.y (lenV (ty' := 0) U26 rfl) rfl <| Lx.y (asg rfl) rfl <| Lx.nil <| ?_
 refine Xx.tn (k3 _ _ _ _ ?_)
 refine Cq (fun K4 k4 => ?_)
 refine Cq (fun K5 k5 => ?_)
 refine Cr <| Lx.y (mv rfl) rfl <| Lx.y (eqI rfl rfl) rfl <| Lx.nil <| ?_
 refine Xx.tn (k5 _ _ _ _ ?_)
 refine Cx.condD rfl (fun h6 => ?_) (fun h6 => ?_)
 ·
  exact absurd h6 (by decide)
 ·
  refine Cx.skip ?_
  refine Xx.tn (k4 _ _ _ _ ?_)
  refine Cq (fun K7 k7 => ?_)
  refine Cr <| Lx.y (mv rfl) rfl <| Lx.y (lenV (ty' := 0) U26 rfl) rfl <| Lx.y (asg rfl) rfl <| Lx.nil <| ?_
  refine Xx.tn (k7 _ _ _ _ ?_)
  refine Cq (fun K8 k8 => ?_)
  refine Cq (fun K9 k9 => ?_)
  refine Cr <| Lx.y (mv rfl) rfl <| Lx.y (mv rfl) rfl <| Lx.y (eqI rfl rfl) rfl <| Lx.nil <| ?_
  refine Xx.tn (k9 _ _ _ _ ?_)
  refine Cx.condD rfl (fun h10 => ?_) (fun h10 => ?_)
  ·
   refine Cq (fun K11 k11 => ?_)
   refine Cr <| Lx.y (mv rfl) rfl <| Lx.y (mv rfl) rfl <| ?_
   refine Lx.o (appN (et := 3) (n + 1) news (xs ++ news) U26 U26 ti3 rfl rfl (by rw [hns]) (by rw [List.drop_zero, List.take_of_length_le (by omega)]) hn1 (by omega) (by omega) rfl rfl) rfl (fun v B' H' hΦ hB => ?_)
   obtain ⟨A3, c3, rfl, hA3, hl3, hc3, hBB, rfl⟩ := hΦ
   obtain rfl := hBB.symm
   clear hB
   refine Lx.y (asg rfl) rfl <| Lx.nil <| ?_
   refine Xx.tn (k11 _ _ _ _ ?_)
   refine Cx.ret <| Xx.tr <| ?_
   exact Xx.dropB vb (Xx.ret1 rfl rfl ⟨A3, c3, rfl, rfl, rfl, hA3 (by omega), hc3⟩ (Fl _) rfl)
  ·
   exact absurd rfl h10
set_option maxHeartbeats 1000000 in
theorem InsI_mid (b : Nat) (sp : List Value) (i n c : Nat) (xs : List Value) (vb : Nat) (etv : TypeId) (news : List Value) (B : Frag) (hi : i < n) (hxl : xs.length = n * 1) (hnc : n ≤ c) (hcl : (xs ++ sp).length = c * 1) (hx1 : xs.all (·.oneCell') = true) (hns : news.length = 1) (hn1 : news.all (·.oneCell') = true) (hbd : (n + 1) * 8 ≤ 140737488355328) : Ct Tryz.prog 102 [.slice (some ⟨b, 0, none⟩) n c, i64 (i : Nat), .slice (some ⟨vb, 0, none⟩) 1 1] B (row vb etv news * row b 3 (xs ++ sp)) (fun v B' H' => ∃ b' c' sp', v = .slice (some ⟨b', 0, none⟩) (n + 1) c' ∧ B' = B ∧ H' = row b' 3 (xs.take (i * 1) ++ news ++ xs.drop (i * 1) ++ sp') ∧ (xs.take (i * 1) ++ news ++ xs.drop (i * 1) ++ sp').length = c' * 1 ∧ n + 1 ≤ c') := by
 have hxl2 := hcl
 rw [List.length_append] at hxl2
 have hDl : (xs.drop (i * 1)).length = (n - i) * 1 := by rw [List.length_drop]; omega
 have hD1 : (xs.drop (i * 1)).all (·.oneCell') = true := by rw [List.all_eq_true] at hx1 ⊢; exact fun v hv => hx1 v (List.mem_of_mem_drop hv)
 have hTl : (xs.take (i * 1)).length = i * 1 := by rw [List.length_take]; omega
 refine Ct.of_body Tryz.func102 rfl (nt := 95) rfl (by kernel_rfl) rfl ?_
 intro N0 w0 R
 rw [star_assoc]
 refine Cq (fun K1 k1 => ?_)
 refine Cr <| Lx.y (asg rfl) rfl <| Lx.nil <| ?_
 refine Xx.tn (k1 _ _ _ _ ?_)
 refine Cq (fun K2 k2 => ?_)
 refine Cr <| Lx.y (mv rfl) rfl <| Lx.y (mv rfl) rfl <| Lx.y (sl1V U26 sz3 rfl rfl (Int.toNat_natCast _) (by omega) (by omega)) rfl <| Lx.nil <| ?_
 refine Xx.tn (k2 _ _ _ _ ?_)
 refine Cq (fun K3 k3 => ?_)
 refine Cr <| Lx.y (mv rfl) rfl <| Lx.y (lenV (ty' := 0) U26 rfl) rfl <| Lx.y (asg rfl) rfl <| Lx.nil <| ?_
 refine Xx.tn (k3 _ _ _ _ ?_)
 refine Cq (fun K4 k4 => ?_)
 refine Cq (fun K5 k5 => ?_)
 refine Cr <| Lx.y (mv rfl) rfl <| Lx.y (eqI rfl rfl) rfl <| Lx.nil <| ?_
 refine Xx.tn (k5 _ _ _ _ ?_)
 refine Cx.condD rfl (fun h6 => ?_) (fun h6 => ?_)
 ·
  exact absurd h6 (by decide)
 ·
  refine Cx.skip ?_
  refine Xx.tn (k4 _ _ _ _ ?_)
  refine Cq (fun K7 k7 => ?_)
  refine Cr <| Lx.y (mv rfl) rfl <| Lx.y (lenV (ty' := 0) U26 rfl) rfl <| Lx.y (asg rfl) rfl <| Lx.nil <| ?_
  refine Xx.tn (k7 _ _ _ _ ?_)
  refine Cq (fun K8 k8 => ?_)
  refine Cq (fun K9 k9 => ?_)
  refine Cr <| Lx.y (mv rfl) rfl <| Lx.y (mv rfl) rfl <| Lx.y (eqI rfl rfl) rfl <| Lx.nil <| ?_
  refine Xx.tn (k9 _ _ _ _ ?_)
  refine Cx.condD rfl (fun h10 => ?_) (fun h10 => ?_)
  ·
   exact absurd h10 (by omega)
  ·
   refine Cx.skip ?_
   refine Xx.tn (k8 _ _ _ _ ?_)
   refine Cq (fun K11 k11 => ?_)
   refine Cq (fun K12 k12 => ?_)
   refine Cr <| Lx.y (mv rfl) rfl <| Lx.y (mv rfl) rfl <| Lx.y (add rfl rfl (by first | exact wrap64 (by omega) (by omega) | rfl)) rfl <| Lx.y (mv rfl) rfl <| Lx.y (capV U26 rfl) rfl <| Lx.y (gtr rfl rfl) rfl <| Lx.nil <| ?_
   refine Xx.tn (k12 _ _ _ _ ?_)
   refine Cx.condD rfl (fun h13 => ?_) (fun h13 => ?_)
   ·
    have hno := h13
    refine Cq (fun K14 k14 => ?_)
    refine Cr <| Lx.y (mv rfl) rfl <| Lx.y (mv rfl) rfl <| Lx.y (sl2V U26 sz3 rfl rfl (Int.toNat_natCast _) (by omega) (by omega)) rfl <| Lx.y (mv rfl) rfl <| Lx.y (mv rfl) rfl <| Lx.y (add rfl rfl (by first | exact wrap64 (by omega) (by omega) | rfl)) rfl <| Lx.y (mv rfl) rfl <| Lx.y (sub rfl rfl (show IntKind.i64.wrap _ = ((n + 1 - i : Nat) : Int) by rw [wrap64 (by omega) (by omega)]; omega)) rfl <| ?_
    refine Lx.o (amO (olds := xs.take (i * 1)) (m := n + 1 - i) U26 U3 ti3 rfl rfl (SrcH.own (b := b) (o := 0) (i * 1) (by rw [List.drop_zero]; exact List.take_append_of_le_length (by omega))) hTl (by omega) (by omega) (by rw [show i + (n + 1 - i) = n + 1 by omega]; exact hbd)) rfl (fun v B' H' hΦ hB => ?_)
    obtain ⟨b9, c9, rest, rfl, hc9, hrl, hBB, rfl⟩ := hΦ
    obtain rfl := hBB.symm
    clear hB
    rw [show i + (n + 1 - i) = n + 1 by omega] at hc9 ⊢
    refine Lx.y (asg rfl) rfl <| Lx.nil <| ?_
    refine Xx.tn (k14 _ _ _ _ ?_)
    refine Cq (fun K15 k15 => ?_)
    refine Cr <| Lx.y (mv rfl) rfl <| Lx.y (mv rfl) rfl <| Lx.y (sl1A i U26 sz3 rfl rfl rfl (by omega) (by omega)) rfl <| Lx.y (mv rfl) rfl <| ?_
    refine Lx.o (cpO (cs' := (xs.take (i * 1) ++ news ++ rest.drop 1)) 1 U26 sz3 rfl rfl (show Nat.min _ _ = _ by first | rfl | (simp only [Nat.min_def]; split <;> omega)) (SrcH.own (b := vb) (o := 0) (news := news) 1 (by rw [List.drop_zero, List.take_of_length_le (by omega)])) (by rw [hns]) hn1 (by rw [Nat.zero_add, List.length_append, hTl]; omega) (by rw [Nat.zero_add]; exact ins_grow1 hTl hns (by omega))) rfl (fun v B' H' hΦ hB => ?_)
    obtain ⟨rfl, hBB, rfl⟩ := hΦ
    obtain rfl := hBB.symm
    clear hB
    refine Lx.nil ?_
    refine Xx.tn (k15 _ _ _ _ ?_)
    refine Cq (fun K16 k16 => ?_)
    refine Cx.drawn (by kernel_rfl) ?_
    refine Dx.p (i := 0) rfl (by kernel_rfl) (mv rfl) rfl ?_
    refine Dx.p (i := 1) rfl (by kernel_rfl) (mv rfl) rfl ?_
    refine Dx.p (i := 2) rfl (by kernel_rfl) (mv rfl) rfl ?_
    refine Dx.p (i := 3) rfl (by kernel_rfl) (add rfl rfl (show IntKind.i64.wrap _ = ((i + 1 : Nat) : Int) by rw [wrap64 (by omega) (by omega)]; rfl)) rfl ?_
    refine Dx.p (i := 4) rfl (by kernel_rfl) (sl1A (i + 1) U26 sz3 rfl rfl rfl (by omega) (by omega)) rfl ?_
    refine Dx.p (i := 5) rfl (by kernel_rfl) (mv rfl) rfl ?_
    refine Dx.p (i := 6) rfl (by kernel_rfl) (mv rfl) rfl ?_
    refine Dx.p (i := 7) rfl (by kernel_rfl) (sl1A i U26 sz3 rfl rfl rfl (by omega) (by omega)) rfl ?_
    refine Dx.one (i := 8) (by kernel_rfl) ?_
    refine Dstep.o (i := 8) rfl (cpO (cs' := (xs.take (i * 1) ++ news ++ xs.drop (i * 1) ++ (rest.drop 1).drop (xs.drop (i * 1)).length)) (n - i) U26 sz3 rfl rfl (show Nat.min _ _ = _ by first | rfl | (simp only [Nat.min_def]; split <;> omega)) (SrcH.own (b := b) (o := 0 + i * 1) (news := xs.drop (i * 1)) ((n - i) * 1) (by rw [Nat.zero_add, List.drop_append_of_le_length (by omega), List.take_append_of_le_length (by omega), List.take_of_length_le (by omega)])) hDl hD1 (by simp only [List.length_append, List.length_drop, hTl, hns, hDl]; omega) (by rw [Nat.zero_add, show (i + 1) * 1 = i * 1 + 1 by omega]; exact ins_grow2 hTl hns)) rfl (fun v B' H' hΦ hB => ?_)
    obtain ⟨rfl, rfl, rfl⟩ := hΦ
    clear hB
    refine ⟨Jt, ?_⟩
    refine Dx.done (by kernel_rfl) ?_
    refine Xx.tn (k16 _ _ _ _ ?_)
    refine Cq (fun K17 k17 => ?_)
    refine Cr <| Lx.y (mv rfl) rfl <| Lx.y (asg rfl) rfl <| Lx.nil <| ?_
    refine Xx.tn (k17 _ _ _ _ ?_)
    refine Cx.ret <| Xx.tr <| ?_
    exact Xx.dropB vb (Xx.dropB b (Xx.ret1 rfl rfl ⟨b9, c9, _, rfl, rfl, rfl, by simp only [List.length_append, List.length_drop, hTl, hns, hDl]; omega, hc9⟩ (Fl _) rfl))
   ·
    have hno := h13
    refine Cx.skip ?_
    refine Xx.tn (k11 _ _ _ _ ?_)
    refine Cq (fun K18 k18 => ?_)
    refine Cr <| Lx.y (mv rfl) rfl <| Lx.y (mv rfl) rfl <| Lx.y (mv rfl) rfl <| Lx.y (add rfl rfl (show IntKind.i64.wrap _ = ((n + 1 : Nat) : Int) by rw [wrap64 (by omega) (by omega)]; rfl)) rfl <| Lx.y (sl2V U26 sz3 rfl rfl (Int.toNat_natCast _) (by omega) (by omega)) rfl <| Lx.y (asg rfl) rfl <| Lx.nil <| ?_
    refine Xx.tn (k18 _ _ _ _ ?_)
    refine Cq (fun K19 k19 => ?_)
    refine Cq (fun K20 k20 => ?_)
    refine Cr <| Lx.y (mv rfl) rfl <| Lx.y (mv rfl) rfl <| Lx.y (mv rfl) rfl <| Lx.y (mv rfl) rfl <| Lx.y (add rfl rfl (show IntKind.i64.wrap _ = ((i + 1 : Nat) : Int) by rw [wrap64 (by omega) (by omega)]; rfl)) rfl <| Lx.y (sl1V U26 sz3 rfl rfl (Int.toNat_natCast _) (by omega) (by omega)) rfl <| ?_
    rw [show subA (some ⟨b, 0, none⟩) c (i + 1) 1 = (if c = i + 1 then some ⟨b, 0, none⟩ else some ⟨b, 0 + (i + 1) * 1, none⟩) by unfold subA; split <;> simp [add_mk]]
    have hcne : ¬ c = i + 1 := by omega
    rw [if_neg hcne]
    refine Lx.y (extc rfl rfl (ovQ (tS := 26) (tR := 4) Tryz.func131 (by kernel_rfl) (by kernel_rfl) (by kernel_rfl) (by kernel_rfl) U26 sz3 rfl (by intro z; have h9 := congrArg List.length z; rw [List.length_append, List.length_nil] at h9; omega))) rfl <| Lx.y (not' rfl) rfl <| Lx.nil <| ?_
    refine Xx.tn (k20 _ _ _ _ ?_)
    refine Cx.condT rfl ?_
    refine Cq (fun K21 k21 => ?_)
    refine Cx.drawn (by kernel_rfl) ?_
    refine Dx.p (i := 0) rfl (by kernel_rfl) (mv rfl) rfl ?_
    refine Dx.p (i := 1) rfl (by kernel_rfl) (mv rfl) rfl ?_
    refine Dx.p (i := 2) rfl (by kernel_rfl) (mv rfl) rfl ?_
    refine Dx.p (i := 3) rfl (by kernel_rfl) (add rfl rfl (show IntKind.i64.wrap _ = ((i + 1 : Nat) : Int) by rw [wrap64 (by omega) (by omega)]; rfl)) rfl ?_
    refine Dx.p (i := 4) rfl (by kernel_rfl) (sl1A (i + 1) U26 sz3 rfl rfl rfl (by omega) (by omega)) rfl ?_
    refine Dx.p (i := 5) rfl (by kernel_rfl) (mv rfl) rfl ?_
    refine Dx.p (i := 6) rfl (by kernel_rfl) (mv rfl) rfl ?_
    refine Dx.p (i := 7) rfl (by kernel_rfl) (sl1A i U26 sz3 rfl rfl rfl (by omega) (by omega)) rfl ?_
    refine Dx.one (i := 8) (by kernel_rfl) ?_
    refine Dstep.o (i := 8) rfl (cpO (cs' := ((xs ++ sp).take (i * 1 + 1) ++ xs.drop (i * 1) ++ (xs ++ sp).drop ((n + 1) * 1))) (n - i) U26 sz3 rfl rfl (show Nat.min _ _ = _ by first | rfl | (simp only [Nat.min_def]; split <;> omega)) (SrcH.own (b := b) (o := 0 + i * 1) (news := xs.drop (i * 1)) ((n - i) * 1) (by rw [Nat.zero_add, List.drop_append_of_le_length (by omega), List.take_append_of_le_length (by omega), List.take_of_length_le (by omega)])) hDl hD1 (by rw [List.length_append]; omega) (by rw [Nat.zero_add, hDl, show (i + 1) * 1 = i * 1 + 1 by omega, show i * 1 + 1 + (n - i) * 1 = (n + 1) * 1 by omega])) rfl (fun v B' H' hΦ hB => ?_)
    obtain ⟨rfl, rfl, rfl⟩ := hΦ
    clear hB
    refine ⟨Jt, ?_⟩
    refine Dx.done (by kernel_rfl) ?_
    refine Xx.tn (k21 _ _ _ _ ?_)
    refine Cq (fun K22 k22 => ?_)
    refine Cr <| Lx.y (mv rfl) rfl <| Lx.y (mv rfl) rfl <| Lx.y (sl1A i U26 sz3 rfl rfl rfl (by omega) (by omega)) rfl <| Lx.y (mv rfl) rfl <| ?_
    refine Lx.o (cpO (cs' := (xs.take (i * 1) ++ news ++ xs.drop (i * 1) ++ (xs ++ sp).drop ((n + 1) * 1))) 1 U26 sz3 rfl rfl (show Nat.min _ _ = _ by first | rfl | (simp only [Nat.min_def]; split <;> omega)) (SrcH.own (b := vb) (o := 0) (news := news) 1 (by rw [List.drop_zero, List.take_of_length_le (by omega)])) (by rw [hns]) hn1 (by simp only [List.length_append, List.length_take, List.length_drop, hDl]; omega) (by rw [Nat.zero_add]; exact ins_room (by omega) hns (by rw [List.length_append]; omega) (List.take_append_of_le_length (by omega)) rfl (by omega))) rfl (fun v B' H' hΦ hB => ?_)
    obtain ⟨rfl, hBB, rfl⟩ := hΦ
    obtain rfl := hBB.symm
    clear hB
    refine Lx.nil ?_
    refine Xx.tn (k22 _ _ _ _ ?_)
    refine Cq (fun K23 k23 => ?_)
    refine Cr <| Lx.y (mv rfl) rfl <| Lx.y (asg rfl) rfl <| Lx.nil <| ?_
    refine Xx.tn (k23 _ _ _ _ ?_)
    refine Cx.ret <| Xx.tr <| ?_
    exact Xx.dropB vb (Xx.ret1 rfl rfl ⟨b, c, _, rfl, rfl, rfl, by simp only [List.length_append, List.length_drop, hTl, hns, hDl]; omega, by omega⟩ (Fl _) rfl)
theorem InsI_ct (A : Option Addr) (i n c : Nat) (xs : List Value) (vb : Nat) (etv : TypeId) (news : List Value) (B : Frag) (hi : i ≤ n) (hxl : xs.length = n * 1) (hx1 : xs.all (·.oneCell') = true) (hns : news.length = 1) (hn1 : news.all (·.oneCell') = true) (hbd : (n + 1) * 8 ≤ 140737488355328) :
    Ct Tryz.prog 102 [.slice A n c, i64 (i : Nat), .slice (some ⟨vb, 0, none⟩) 1 1] B (sbuf 3 1 A n c xs * row vb etv news) (fun v B' H' => ∃ A' c', v = .slice A' (n + 1) c' ∧ B' = B ∧ H' = sbuf 3 1 A' (n + 1) c' (xs.take (i * 1) ++ news ++ xs.drop (i * 1)) ∧ (∃ b, A' = some ⟨b, 0, none⟩) ∧ n + 1 ≤ c') := by
  by_cases h : i = n
  · subst h
    have h1 : xs.take (i * 1) = xs := List.take_of_length_le (by omega)
    have h2 : xs.drop (i * 1) = [] := List.drop_of_length_le (by omega)
    rw [h1, h2, List.append_nil]
    exact InsI_end A i c xs vb etv news B hns hn1 hbd
  · refine Ct.of_sbuf (by omega) (fun b sp hA hx hnc hcl => ?_) (Go.SL.enters_of Tryz.func102 rfl (by kernel_rfl))
    subst hA
    have hm := InsI_mid b sp i n c xs vb etv news B (by omega) hxl hnc hcl hx1 hns hn1 hbd
    refine ⟨hm.1, fun N0 w R s => (hm.2 N0 w R s).mono ?_⟩
    rintro x w' ⟨v, B', _, hx', ⟨b', c', sp', hv, hB, rfl, hl, hc'⟩, hBB, hb, s'⟩
    refine ⟨v, B', _, hx', ⟨some ⟨b', 0, none⟩, c', hv, hB, rfl, ⟨b', rfl⟩, hc'⟩, hBB, hb, row_sbuf ?_ hc' hl s'⟩
    simp only [List.length_append, List.length_take, List.length_drop, hns, hxl]; omega
set_option maxHeartbeats 4000000 in
theorem DelS_row (b i n c : Nat) (xs sp : List Value) (B : Frag) (hi : i < n) (hxl : xs.length = n * 3) (hnc : n ≤ c) (hcl : (xs ++ sp).length = c * 3) (hx1 : xs.all (·.oneCell') = true) (hbd : n ≤ 4611686018427387904) : Ct Tryz.prog 100 [.slice (some ⟨b, 0, none⟩) n c, i64 (i : Nat), i64 (i + 1 : Nat)] B (row b 59 (xs ++ sp)) (fun v B' H' => v = .slice (some ⟨b, 0, none⟩) (n - 1) c ∧ B' = B ∧ ∃ sp', H' = row b 59 ((xs.take (i * 3) ++ xs.drop ((i + 1) * 3)) ++ sp') ∧ ((xs.take (i * 3) ++ xs.drop ((i + 1) * 3)) ++ sp').length = c * 3) := by
 have hcl2 := hcl
 rw [List.length_append] at hcl2
 have hT : (xs.take (i * 3)).length = i * 3 := by rw [List.length_take]; omega
 have hD : (xs.drop ((i + 1) * 3)).length = (n - (i + 1)) * 3 := by rw [List.length_drop]; omega
 have hD1 : (xs.drop ((i + 1) * 3)).all (·.oneCell') = true := by rw [List.all_eq_true] at hx1 ⊢; exact fun v hv => hx1 v (List.mem_of_mem_drop hv)
 refine Ct.of_body Tryz.func100 rfl (nt := 33) rfl (by kernel_rfl) rfl ?_
 intro N0 w0 R
 refine Cq (fun K1 k1 => ?_)
 refine Cr <| Lx.y (asg rfl) rfl <| Lx.nil <| ?_
 refine Xx.tn (k1 _ _ _ _ ?_)
 refine Cq (fun K2 k2 => ?_)
 refine Cr <| Lx.y (mv rfl) rfl <| Lx.y (mv rfl) rfl <| Lx.y (mv rfl) rfl <| Lx.y (mv rfl) rfl <| Lx.y (lenV (ty' := 0) U85 rfl) rfl <| Lx.y (sl4V U85 sz59 rfl rfl rfl rfl (by omega) (by omega) (by omega) (by omega)) rfl <| Lx.nil <| ?_
 refine Xx.tn (k2 _ _ _ _ ?_)
 refine Cq (fun K3 k3 => ?_)
 refine Cq (fun K4 k4 => ?_)
 refine Cr <| Lx.y (mv rfl) rfl <| Lx.y (mv rfl) rfl <| Lx.y (eqI rfl rfl) rfl <| Lx.nil <| ?_
 refine Xx.tn (k4 _ _ _ _ ?_)
 refine Cx.condD rfl (fun h5 => ?_) (fun h5 => ?_)
 ·
  exact absurd h5 (by omega)
 ·
  refine Cx.skip ?_
  refine Xx.tn (k3 _ _ _ _ ?_)
  refine Cq (fun K6 k6 => ?_)
  refine Cr <| Lx.y (mv rfl) rfl <| Lx.y (lenV (ty' := 0) U85 rfl) rfl <| Lx.y (asg rfl) rfl <| Lx.nil <| ?_
  refine Xx.tn (k6 _ _ _ _ ?_)
  refine Cq (fun K7 k7 => ?_)
  refine Cx.drawn (by kernel_rfl) ?_
  refine Dx.p (i := 0) rfl (by kernel_rfl) (mv rfl) rfl ?_
  refine Dx.p (i := 1) rfl (by kernel_rfl) (mv rfl) rfl ?_
  refine Dx.p (i := 2) rfl (by kernel_rfl) (sl2V U85 sz59 rfl rfl (Int.toNat_natCast _) (by omega) (by omega)) rfl ?_
  refine Dx.p (i := 3) rfl (by kernel_rfl) (mv rfl) rfl ?_
  refine Dx.p (i := 4) rfl (by kernel_rfl) (mv rfl) rfl ?_
  refine Dx.p (i := 5) rfl (by kernel_rfl) (sl1V U85 sz59 rfl rfl (Int.toNat_natCast _) (by omega) (by omega)) rfl ?_
  refine Dx.one (i := 6) (by kernel_rfl) ?_
  refine Dstep.o (i := 6) rfl (apR (cs' := (xs.take (i * 3) ++ xs.drop ((i + 1) * 3)) ++ (xs ++ sp).drop (i * 3 + (n - (i + 1)) * 3)) U85 U85 ti59 rfl rfl (SrcH.sub (N0 := N0) (B := B) (H := row b 59 (xs ++ sp) * R) (c := c) (j := i + 1) (size := 3) (b := b) hxl (by omega) hnc) hD hD1 (by omega) (by rw [hD, List.length_append]; omega) (by rw [hD, List.take_append_of_le_length (by omega), Nat.zero_add])) rfl (fun v B' H' hΦ hB => ?_)
  obtain ⟨rfl, hBB, rfl⟩ := hΦ
  subst hBB
  rename Frag => B
  clear hB
  rw [show i + (n - (i + 1)) = n - 1 by omega]
  refine ⟨Jt, ?_⟩
  refine Dx.p (i := 7) rfl (by kernel_rfl) (asg rfl) rfl ?_
  refine Dx.done (by kernel_rfl) ?_
  refine Xx.tn (k7 _ _ _ _ ?_)
  refine Cq (fun K8 k8 => ?_)
  refine Cr <| Lx.y (mv rfl) rfl <| Lx.y (mv rfl) rfl <| Lx.y (lenV (ty' := 0) U85 rfl) rfl <| Lx.y (mv rfl) rfl <| Lx.y (sl3A (n - 1) n U85 sz59 rfl rfl rfl rfl rfl (by omega) (by omega) (by omega)) rfl <| ?_
  refine Lx.o0 (clO U85 ti59 rfl (by omega) rfl (by simp only [List.length_append, List.length_drop, hT]; omega)) (fun v B' H' hΦ hB => ?_)
  obtain ⟨rfl, hBB, zz, hzl, rfl⟩ := hΦ
  subst hBB
  rename Frag => B
  clear hB
  refine Lx.nil ?_
  refine Xx.tn (k8 _ _ _ _ ?_)
  refine Cq (fun K9 k9 => ?_)
  refine Cr <| Lx.y (mv rfl) rfl <| Lx.y (asg rfl) rfl <| Lx.nil <| ?_
  refine Xx.tn (k9 _ _ _ _ ?_)
  refine Cx.ret ?_
  have e1 : ((xs.take (i * 3) ++ xs.drop ((i + 1) * 3)) ++ (xs ++ sp).drop (i * 3 + (n - (i + 1)) * 3)).take (0 + (n - 1) * 3) = (xs.take (i * 3) ++ xs.drop ((i + 1) * 3)) := by rw [List.take_append_of_le_length (by rw [List.length_append, hT, hD]; omega), List.take_of_length_le (by rw [List.length_append, hT, hD]; omega)]
  rw [e1, List.append_assoc]
  exact Xx.ret1 rfl rfl ⟨rfl, rfl, _, rfl, by simp only [List.length_append, List.length_drop, hT, hD, hzl]; omega⟩ (Fl _) rfl
theorem DelS_ct (A : Option Addr) (i n c : Nat) (xs : List Value) (B : Frag) (hi : i < n) (hxl : xs.length = n * 3) (hx1 : xs.all (·.oneCell') = true) (hbd : n ≤ 4611686018427387904) : Ct Tryz.prog 100 [.slice A n c, i64 (i : Nat), i64 (i + 1 : Nat)] B (sbuf 59 3 A n c xs) (fun v B' H' => v = .slice A (n - 1) c ∧ B' = B ∧ H' = sbuf 59 3 A (n - 1) c (xs.take (i * 3) ++ xs.drop ((i + 1) * 3))) := by
  have h0 := Ct.of_sbuf (P := Tryz.prog) (f := 100) (args := [.slice A n c, i64 (i : Nat), i64 (i + 1 : Nat)]) (B := B) (et := 59) (size := 3) (n := n) (c := c) (A := A) (xs := xs) (q := 1) (Φ := fun v B' H' => v = .slice A (n - 1) c ∧ B' = B ∧ H' = sbuf 59 3 A (n - 1) c (xs.take (i * 3) ++ xs.drop ((i + 1) * 3))) (by omega) ?_ (Go.SL.enters_of Tryz.func100 rfl (by kernel_rfl))
  · rw [star_one] at h0; exact h0
  · intro b sp hA hx hnc hcl
    subst hA
    rw [one_star]
    have hm := DelS_row b i n c xs sp B hi hxl hnc (by omega) hx1 hbd
    refine ⟨hm.1, fun N0 w R s => (hm.2 N0 w R s).mono ?_⟩
    rintro x w' ⟨v, B', _, hx', ⟨rfl, rfl, sp', rfl, hl⟩, hBB, hb, s'⟩
    refine ⟨_, _, _, hx', ⟨rfl, rfl, rfl⟩, hBB, hb, row_sbuf ?_ (by omega) (by omega) s'⟩
    simp only [List.length_append, List.length_take, List.length_drop, hxl]; omega
end DkA
end Go.Proofs.YthlfffbcligocaaGreat
