/-
  Texts of this seat, one behind the other: Ke6, Ke7, Ke8, Ke9, KeA, KeB, KeC, KeD, KeE, KeF.
-/
import Derived.Test.YtdidpocakipinaaGreatDoorProg
import Derived.Test.YtdidpocakipinaaGreatDoorMp1
set_option linter.unusedSimpArgs false
set_option linter.unusedVariables false
namespace Go.Proofs.YtdidpocakipinaaGreatDoor
open Go.SL Go.RowKit
set_option maxRecDepth 100000
open Ke1 Ke3 Ke4 Ke5
namespace Ke6
theorem fo25_0 : FO Tryz.prog 25 0 0 1 false := FO.of U25 rfl rfl (by kernel_rfl) U3 rfl rfl
theorem fo25_1 : FO Tryz.prog 25 1 1 1 false := FO.of U25 rfl rfl (by kernel_rfl) U4 rfl rfl
theorem fo25_2 : FO Tryz.prog 25 2 2 1 false := FO.of U25 rfl rfl (by kernel_rfl) U2 rfl rfl
theorem fo25_3 : FO Tryz.prog 25 3 3 1 false := FO.of U25 rfl rfl (by kernel_rfl) U9 rfl rfl
theorem fo25_4 : FO Tryz.prog 25 4 4 1 false := FO.of U25 rfl rfl (by kernel_rfl) U22 rfl rfl
theorem fo25_5 : FO Tryz.prog 25 5 5 1 false := FO.of U25 rfl rfl (by kernel_rfl) U23 rfl rfl
inductive V where
  | mk (kind : Int) (b : Bool) (n : Int) (s : List UInt8) (parts : List V) (names : List (List UInt8))
def V.kind : V → Int | .mk k _ _ _ _ _ => k
def V.b : V → Bool | .mk _ b _ _ _ _ => b
def V.n : V → Int | .mk _ _ n _ _ _ => n
def V.s : V → List UInt8 | .mk _ _ _ s _ _ => s
def V.parts : V → List V | .mk _ _ _ _ p _ => p
def V.names : V → List (List UInt8) | .mk _ _ _ _ _ n => n
def vcs (v : V) (Ap : Option Addr) (cp : Nat) (An : Option Addr) (cn : Nat) : List Value := [i64 v.kind, .bool v.b, i64 v.n, str v.s, .slice Ap v.parts.length cp, .slice An v.names.length cn]
def ValR (B : Frag) : Nat → V → List Value → Prop
  | 0, _, _ => False
  | d + 1, v, cs => ∃ Ap cp An cn, cs = vcs v Ap cp An cn ∧ (v.s.length ≤ 4611686018427387904 ∧ -9223372036854775808 ≤ v.n ∧ v.n ≤ 9223372036854775807 ∧ v.names.length ≤ cn ∧ v.parts.length ≤ cp) ∧ v.parts.length ≤ 4611686018427387904 ∧ v.names.length ≤ 4611686018427387904 ∧ RoE B An v.names.length (v.names.map str) ∧ (∀ x ∈ v.names, x.length ≤ 4611686018427387904) ∧
      ∀ i (h : i < v.parts.length), ∃ b o l et fz xs, Ap = some ⟨b, o, none⟩ ∧ B b = some (.cells (List.toArray l) et fz) ∧ (l.drop (o + i * 6)).take 6 = xs ∧ ValR B d v.parts[i] xs
theorem ValR.mono {B B' : Frag} (hB : B.le B') : ∀ {d : Nat} {v : V} {cs : List Value}, ValR B d v cs → ValR B' d v cs := by
  intro d
  induction d with
  | zero => intro v cs h; exact h.elim
  | succ d ih =>
    rintro v cs ⟨Ap, cp, An, cn, h1, h2, h3, h4, h5, h6, h7⟩
    exact ⟨Ap, cp, An, cn, h1, h2, h3, h4, h5.mono hB, h6, fun i hi => let ⟨b, o, l, et, fz, xs, g1, g2, g3, g4⟩ := h7 i hi; ⟨b, o, l, et, fz, xs, g1, hB _ _ g2, g3, ih g4⟩⟩
def BareP (v : V) : Prop := (v.kind = 1 ∨ v.b = false) ∧ (v.kind = 2 ∨ v.n = 0) ∧ (v.kind = 3 ∨ v.kind = 4 ∨ v.s = []) ∧ (v.kind = 5 ∨ v.kind = 6 ∨ v.parts.length = 0) ∧ (v.kind = 6 ∨ v.names.length = 0)
instance (v : V) : Decidable (BareP v) := by unfold BareP; infer_instance
set_option maxHeartbeats 1000000 in
theorem bare_ct (v : V) (Ap : Option Addr) (cp : Nat) (An : Option Addr) (cn : Nat) (B : Frag) : CtP Tryz.prog 53 [.agg (vcs v Ap cp An cn).toArray] B (.bool (decide (BareP v))) := by
 refine CtB.of_body Tryz.func53 rfl (nt := 67) rfl (by kernel_rfl) rfl ?_
 intro N0 w0 R
 refine Cx.seq (fun K1 k1 => ?_)
 refine Cx.region ?_
 refine Lx.new (boxA rfl) rfl (fun b1 => ?_)
 refine Lx.y (asg rfl) rfl <| Lx.nil <| ?_
 refine Xx.tn (k1 _ _ _ _ ?_)
 refine Cx.cutK (ds' := []) (Sc 0 rfl (Sc 1 rfl (Sc 2 rfl (Sub.nil _)))) (fun ρ' B' H' => ρ' = [(3, .bool (decide (v.kind = 3 ∨ v.kind = 4)))] ∧ B = B' ∧ row b1 25 (vcs v Ap cp An cn) * R = H') ?_ ?_
 ·
  refine Cx.region <| Lx.y (fa' fo25_0 rfl) rfl <| Lx.y (ld U3 rfl rfl rfl) rfl <| Lx.y (eqI rfl rfl) rfl <| Lx.y (mv rfl) rfl <| ?_
  refine Xx.ifD (t := 8) rfl (fun h2 => ?_) (fun h2 => ?_)
  ·
   refine Lx.gF rfl rfl rfl rfl <| Lx.gF rfl rfl rfl rfl <| Lx.gF rfl rfl rfl rfl <| Lx.y (pickT rfl rfl) rfl <| Lx.y (asg rfl) rfl <| Lx.nil <| ?_
   exact Xx.mkK (⟨rfl, rfl, rfl⟩) (Sub.consE (s := 3) rfl (by first | exact congrArg Value.bool (decide_eq_true (by omega)).symm | exact congrArg Value.bool (decide_eq_decide.2 (by omega))) (Sc 0 rfl (Sc 1 rfl (Sc 2 rfl (Sub.nil _)))))
  ·
   refine Lx.gT rfl rfl rfl <| Lx.y (fa' fo25_0 rfl) rfl <| Lx.gT rfl rfl rfl <| Lx.y (ld U3 rfl rfl rfl) rfl <| Lx.gT rfl rfl rfl <| Lx.y (eqI rfl rfl) rfl <| Lx.y (pickF rfl rfl) rfl <| Lx.y (asg rfl) rfl <| Lx.nil <| ?_
   exact Xx.mkK (⟨rfl, rfl, rfl⟩) (Sub.consE (s := 3) rfl (by first | exact congrArg Value.bool (decide_eq_true (by omega)).symm | exact congrArg Value.bool (decide_eq_decide.2 (by omega))) (Sc 0 rfl (Sc 1 rfl (Sc 2 rfl (Sub.nil _)))))
 ·rintro ρ' B' H' ⟨rfl, rfl, rfl⟩
  refine Cx.cutK (ds' := []) (Sc 0 rfl (Sc 1 rfl (Sc 2 rfl (Sc 3 rfl (Sub.nil _))))) (fun ρ' B' H' => ρ' = [(4, .bool (decide (v.kind = 5 ∨ v.kind = 6)))] ∧ B = B' ∧ row b1 25 (vcs v Ap cp An cn) * R = H') ?_ ?_
  ·
   refine Cx.region <| Lx.y (fa' fo25_0 rfl) rfl <| Lx.y (ld U3 rfl rfl rfl) rfl <| Lx.y (eqI rfl rfl) rfl <| Lx.y (mv rfl) rfl <| ?_
   refine Xx.ifD (t := 16) rfl (fun h3 => ?_) (fun h3 => ?_)
   ·
    refine Lx.gF rfl rfl rfl rfl <| Lx.gF rfl rfl rfl rfl <| Lx.gF rfl rfl rfl rfl <| Lx.y (pickT rfl rfl) rfl <| Lx.y (asg rfl) rfl <| Lx.nil <| ?_
    exact Xx.mkK (⟨rfl, rfl, rfl⟩) (Sub.consE (s := 4) rfl (by first | exact congrArg Value.bool (decide_eq_true (by omega)).symm | exact congrArg Value.bool (decide_eq_decide.2 (by omega))) (Sc 0 rfl (Sc 1 rfl (Sc 2 rfl (Sc 3 rfl (Sub.nil _))))))
   ·
    refine Lx.gT rfl rfl rfl <| Lx.y (fa' fo25_0 rfl) rfl <| Lx.gT rfl rfl rfl <| Lx.y (ld U3 rfl rfl rfl) rfl <| Lx.gT rfl rfl rfl <| Lx.y (eqI rfl rfl) rfl <| Lx.y (pickF rfl rfl) rfl <| Lx.y (asg rfl) rfl <| Lx.nil <| ?_
    exact Xx.mkK (⟨rfl, rfl, rfl⟩) (Sub.consE (s := 4) rfl (by first | exact congrArg Value.bool (decide_eq_true (by omega)).symm | exact congrArg Value.bool (decide_eq_decide.2 (by omega))) (Sc 0 rfl (Sc 1 rfl (Sc 2 rfl (Sc 3 rfl (Sub.nil _))))))
  ·rintro ρ' B' H' ⟨rfl, rfl, rfl⟩
   refine Cx.seq (fun K4 k4 => ?_)
   refine Cx.region <| Lx.y (fa' fo25_0 rfl) rfl <| Lx.y (ld U3 rfl rfl rfl) rfl <| Lx.y (eqI rfl rfl) rfl <| Lx.y (mv rfl) rfl <| ?_
   refine Xx.ifD (t := 24) rfl (fun h5 => ?_) (fun h5 => ?_)
   ·
    refine Lx.gF rfl rfl rfl rfl <| Lx.gF rfl rfl rfl rfl <| Lx.gF rfl rfl rfl rfl <| Lx.y (pickT rfl rfl) rfl <| Lx.y (mv rfl) rfl <| Lx.gT rfl rfl rfl <| Lx.y (fa' fo25_0 rfl) rfl <| Lx.gT rfl rfl rfl <| Lx.y (ld U3 rfl rfl rfl) rfl <| Lx.gT rfl rfl rfl <| Lx.y (eqI rfl rfl) rfl <| Lx.gT rfl rfl rfl <| ?_
    refine Lx.y (mv rfl) rfl ?_
    refine Xx.ifD (t := 33) rfl (fun h6 => ?_) (fun h6 => ?_)
    ·
     refine Lx.gF rfl rfl rfl rfl <| Lx.gF rfl rfl rfl rfl <| Lx.gF rfl rfl rfl rfl <| Lx.gT rfl rfl rfl <| Lx.y (pickT rfl rfl) rfl <| Lx.y (pickT rfl rfl) rfl <| Lx.y (mv rfl) rfl <| Lx.gT rfl rfl rfl <| Lx.y (mv rfl) rfl <| Lx.gT rfl rfl rfl <| Lx.y (mv rfl) rfl <| ?_
     refine Xx.ifD (t := 41) rfl (fun h7 => ?_) (fun h7 => ?_)
     ·
      refine Lx.gF rfl rfl rfl rfl <| Lx.gF rfl rfl rfl rfl <| Lx.gF rfl rfl rfl rfl <| Lx.gT rfl rfl rfl <| Lx.y (pickT rfl rfl) rfl <| Lx.y (pickT rfl rfl) rfl <| Lx.y (mv rfl) rfl <| Lx.gT rfl rfl rfl <| Lx.y (mv rfl) rfl <| Lx.gT rfl rfl rfl <| Lx.y (mv rfl) rfl <| ?_
      refine Xx.ifD (t := 49) rfl (fun h8 => ?_) (fun h8 => ?_)
      ·
       refine Lx.gF rfl rfl rfl rfl <| Lx.gF rfl rfl rfl rfl <| Lx.gF rfl rfl rfl rfl <| Lx.gF rfl rfl rfl rfl <| Lx.gT rfl rfl rfl <| Lx.y (pickT rfl rfl) rfl <| Lx.y (pickT rfl rfl) rfl <| Lx.y (mv rfl) rfl <| Lx.gT rfl rfl rfl <| Lx.y (fa' fo25_0 rfl) rfl <| Lx.gT rfl rfl rfl <| Lx.y (ld U3 rfl rfl rfl) rfl <| ?_
       refine Lx.gT rfl rfl rfl <| Lx.y (eqI rfl rfl) rfl <| Lx.gT rfl rfl rfl <| Lx.y (mv rfl) rfl <| ?_
       refine Xx.ifD (t := 60) rfl (fun h9 => ?_) (fun h9 => ?_)
       ·
        refine Lx.gF rfl rfl rfl rfl <| Lx.gF rfl rfl rfl rfl <| Lx.gF rfl rfl rfl rfl <| Lx.gF rfl rfl rfl rfl <| Lx.gT rfl rfl rfl <| Lx.y (pickT rfl rfl) rfl <| Lx.y (pickT rfl rfl) rfl <| Lx.y (asg rfl) rfl <| Lx.nil <| ?_
        refine Xx.tn (k4 _ _ _ _ ?_)
        refine Cx.ret ?_
        refine Xx.dropB b1 (Xx.rB1 rfl rfl ⟨congrArg Value.bool ?_, rfl⟩ (Frag.le_refl _) rfl)
        first | exact (decide_eq_false (by unfold BareP; grind)).symm | exact (decide_eq_true (by unfold BareP; grind)).symm | exact decide_eq_decide.2 (by unfold BareP; grind)
       ·
        refine Lx.gT rfl rfl rfl <| Lx.y (fa' fo25_5 rfl) rfl <| Lx.gT rfl rfl rfl <| Lx.y (ld U23 rfl rfl rfl) rfl <| Lx.gT rfl rfl rfl <| Lx.y (lenV (ty' := 0) U23 rfl) rfl <| Lx.gT rfl rfl rfl <| Lx.y (eqI rfl rfl) rfl <| Lx.gT rfl rfl rfl <| Lx.y (pickF rfl rfl) rfl <| Lx.y (pickT rfl rfl) rfl <| Lx.y (asg rfl) rfl <| ?_
        refine Lx.nil ?_
        refine Xx.tn (k4 _ _ _ _ ?_)
        refine Cx.ret ?_
        refine Xx.dropB b1 (Xx.rB1 rfl rfl ⟨congrArg Value.bool ?_, rfl⟩ (Frag.le_refl _) rfl)
        first | exact (decide_eq_false (by unfold BareP; grind)).symm | exact (decide_eq_true (by unfold BareP; grind)).symm | exact decide_eq_decide.2 (by unfold BareP; grind)
      ·
       refine Lx.gT rfl rfl rfl <| Lx.y (fa' fo25_4 rfl) rfl <| Lx.gT rfl rfl rfl <| Lx.y (ld U22 rfl rfl rfl) rfl <| Lx.gT rfl rfl rfl <| Lx.y (lenV (ty' := 0) U22 rfl) rfl <| Lx.gT rfl rfl rfl <| Lx.y (eqI rfl rfl) rfl <| Lx.gT rfl rfl rfl <| Lx.y (pickF rfl rfl) rfl <| Lx.y (pickT rfl rfl) rfl <| Lx.y (mv rfl) rfl <| ?_
       refine Xx.ifD (t := 56) rfl (fun h10 => ?_) (fun h10 => ?_)
       ·
        refine Lx.gT rfl rfl rfl <| Lx.y (fa' fo25_0 rfl) rfl <| Lx.gT rfl rfl rfl <| Lx.y (ld U3 rfl rfl rfl) rfl <| Lx.gT rfl rfl rfl <| Lx.y (eqI rfl rfl) rfl <| Lx.gT rfl rfl rfl <| Lx.y (mv rfl) rfl <| ?_
        refine Xx.ifD (t := 60) rfl (fun h11 => ?_) (fun h11 => ?_)
        ·
         refine Lx.gF rfl rfl rfl rfl <| Lx.gF rfl rfl rfl rfl <| Lx.gF rfl rfl rfl rfl <| Lx.gF rfl rfl rfl rfl <| Lx.gT rfl rfl rfl <| Lx.y (pickT rfl rfl) rfl <| Lx.y (pickT rfl rfl) rfl <| Lx.y (asg rfl) rfl <| Lx.nil <| ?_
         refine Xx.tn (k4 _ _ _ _ ?_)
         refine Cx.ret ?_
         refine Xx.dropB b1 (Xx.rB1 rfl rfl ⟨congrArg Value.bool ?_, rfl⟩ (Frag.le_refl _) rfl)
         first | exact (decide_eq_false (by unfold BareP; grind)).symm | exact (decide_eq_true (by unfold BareP; grind)).symm | exact decide_eq_decide.2 (by unfold BareP; grind)
        ·
         refine Lx.gT rfl rfl rfl <| Lx.y (fa' fo25_5 rfl) rfl <| Lx.gT rfl rfl rfl <| Lx.y (ld U23 rfl rfl rfl) rfl <| Lx.gT rfl rfl rfl <| Lx.y (lenV (ty' := 0) U23 rfl) rfl <| Lx.gT rfl rfl rfl <| Lx.y (eqI rfl rfl) rfl <| Lx.gT rfl rfl rfl <| Lx.y (pickF rfl rfl) rfl <| Lx.y (pickT rfl rfl) rfl <| Lx.y (asg rfl) rfl <| ?_
         refine Lx.nil ?_
         refine Xx.tn (k4 _ _ _ _ ?_)
         refine Cx.ret ?_
         refine Xx.dropB b1 (Xx.rB1 rfl rfl ⟨congrArg Value.bool ?_, rfl⟩ (Frag.le_refl _) rfl)
         first | exact (decide_eq_false (by unfold BareP; grind)).symm | exact (decide_eq_true (by unfold BareP; grind)).symm | exact decide_eq_decide.2 (by unfold BareP; grind)
       ·
        refine Lx.gF rfl rfl rfl rfl <| Lx.gF rfl rfl rfl rfl <| Lx.gF rfl rfl rfl rfl <| Lx.gF rfl rfl rfl rfl <| Lx.gU rfl rfl rfl rfl <| Lx.gU rfl rfl rfl rfl <| Lx.gU rfl rfl rfl rfl <| Lx.gU rfl rfl rfl rfl <| Lx.gF rfl rfl rfl rfl <| Lx.y (pickF rfl rfl) rfl <| Lx.y (asg rfl) rfl <| Lx.nil <| ?_
        refine Xx.tn (k4 _ _ _ _ ?_)
        refine Cx.ret ?_
        refine Xx.dropB b1 (Xx.rB1 rfl rfl ⟨congrArg Value.bool ?_, rfl⟩ (Frag.le_refl _) rfl)
        first | exact (decide_eq_false (by unfold BareP; grind)).symm | exact (decide_eq_true (by unfold BareP; grind)).symm | exact decide_eq_decide.2 (by unfold BareP; grind)
     ·
      refine Lx.gT rfl rfl rfl <| Lx.y (fa' fo25_3 rfl) rfl <| Lx.gT rfl rfl rfl <| Lx.y (ld U9 rfl rfl rfl) rfl <| Lx.gT rfl rfl rfl <| Lx.y (eqS rfl rfl) rfl <| Lx.gT rfl rfl rfl <| Lx.y (pickF rfl rfl) rfl <| Lx.y (pickT rfl rfl) rfl <| Lx.y (mv rfl) rfl <| ?_
      refine Xx.ifD (t := 47) rfl (fun h12 => ?_) (fun h12 => ?_)
      ·
       refine Lx.gT rfl rfl rfl <| Lx.y (mv rfl) rfl <| Lx.gT rfl rfl rfl <| Lx.y (mv rfl) rfl <| ?_
       refine Xx.ifD (t := 49) rfl (fun h13 => ?_) (fun h13 => ?_)
       ·
        refine Lx.gF rfl rfl rfl rfl <| Lx.gF rfl rfl rfl rfl <| Lx.gF rfl rfl rfl rfl <| Lx.gF rfl rfl rfl rfl <| Lx.gT rfl rfl rfl <| Lx.y (pickT rfl rfl) rfl <| Lx.y (pickT rfl rfl) rfl <| Lx.y (mv rfl) rfl <| Lx.gT rfl rfl rfl <| Lx.y (fa' fo25_0 rfl) rfl <| Lx.gT rfl rfl rfl <| Lx.y (ld U3 rfl rfl rfl) rfl <| ?_
        refine Lx.gT rfl rfl rfl <| Lx.y (eqI rfl rfl) rfl <| Lx.gT rfl rfl rfl <| Lx.y (mv rfl) rfl <| ?_
        refine Xx.ifD (t := 60) rfl (fun h14 => ?_) (fun h14 => ?_)
        ·
         refine Lx.gF rfl rfl rfl rfl <| Lx.gF rfl rfl rfl rfl <| Lx.gF rfl rfl rfl rfl <| Lx.gF rfl rfl rfl rfl <| Lx.gT rfl rfl rfl <| Lx.y (pickT rfl rfl) rfl <| Lx.y (pickT rfl rfl) rfl <| Lx.y (asg rfl) rfl <| Lx.nil <| ?_
         refine Xx.tn (k4 _ _ _ _ ?_)
         refine Cx.ret ?_
         refine Xx.dropB b1 (Xx.rB1 rfl rfl ⟨congrArg Value.bool ?_, rfl⟩ (Frag.le_refl _) rfl)
         first | exact (decide_eq_false (by unfold BareP; grind)).symm | exact (decide_eq_true (by unfold BareP; grind)).symm | exact decide_eq_decide.2 (by unfold BareP; grind)
        ·
         refine Lx.gT rfl rfl rfl <| Lx.y (fa' fo25_5 rfl) rfl <| Lx.gT rfl rfl rfl <| Lx.y (ld U23 rfl rfl rfl) rfl <| Lx.gT rfl rfl rfl <| Lx.y (lenV (ty' := 0) U23 rfl) rfl <| Lx.gT rfl rfl rfl <| Lx.y (eqI rfl rfl) rfl <| Lx.gT rfl rfl rfl <| Lx.y (pickF rfl rfl) rfl <| Lx.y (pickT rfl rfl) rfl <| Lx.y (asg rfl) rfl <| ?_
         refine Lx.nil ?_
         refine Xx.tn (k4 _ _ _ _ ?_)
         refine Cx.ret ?_
         refine Xx.dropB b1 (Xx.rB1 rfl rfl ⟨congrArg Value.bool ?_, rfl⟩ (Frag.le_refl _) rfl)
         first | exact (decide_eq_false (by unfold BareP; grind)).symm | exact (decide_eq_true (by unfold BareP; grind)).symm | exact decide_eq_decide.2 (by unfold BareP; grind)
       ·
        refine Lx.gT rfl rfl rfl <| Lx.y (fa' fo25_4 rfl) rfl <| Lx.gT rfl rfl rfl <| Lx.y (ld U22 rfl rfl rfl) rfl <| Lx.gT rfl rfl rfl <| Lx.y (lenV (ty' := 0) U22 rfl) rfl <| Lx.gT rfl rfl rfl <| Lx.y (eqI rfl rfl) rfl <| Lx.gT rfl rfl rfl <| Lx.y (pickF rfl rfl) rfl <| Lx.y (pickT rfl rfl) rfl <| Lx.y (mv rfl) rfl <| ?_
        refine Xx.ifD (t := 56) rfl (fun h15 => ?_) (fun h15 => ?_)
        ·
         refine Lx.gT rfl rfl rfl <| Lx.y (fa' fo25_0 rfl) rfl <| Lx.gT rfl rfl rfl <| Lx.y (ld U3 rfl rfl rfl) rfl <| Lx.gT rfl rfl rfl <| Lx.y (eqI rfl rfl) rfl <| Lx.gT rfl rfl rfl <| Lx.y (mv rfl) rfl <| ?_
         refine Xx.ifD (t := 60) rfl (fun h16 => ?_) (fun h16 => ?_)
         ·
          refine Lx.gF rfl rfl rfl rfl <| Lx.gF rfl rfl rfl rfl <| Lx.gF rfl rfl rfl rfl <| Lx.gF rfl rfl rfl rfl <| Lx.gT rfl rfl rfl <| Lx.y (pickT rfl rfl) rfl <| Lx.y (pickT rfl rfl) rfl <| Lx.y (asg rfl) rfl <| Lx.nil <| ?_
          refine Xx.tn (k4 _ _ _ _ ?_)
          refine Cx.ret ?_
          refine Xx.dropB b1 (Xx.rB1 rfl rfl ⟨congrArg Value.bool ?_, rfl⟩ (Frag.le_refl _) rfl)
          first | exact (decide_eq_false (by unfold BareP; grind)).symm | exact (decide_eq_true (by unfold BareP; grind)).symm | exact decide_eq_decide.2 (by unfold BareP; grind)
         ·
          refine Lx.gT rfl rfl rfl <| Lx.y (fa' fo25_5 rfl) rfl <| Lx.gT rfl rfl rfl <| Lx.y (ld U23 rfl rfl rfl) rfl <| Lx.gT rfl rfl rfl <| Lx.y (lenV (ty' := 0) U23 rfl) rfl <| Lx.gT rfl rfl rfl <| Lx.y (eqI rfl rfl) rfl <| Lx.gT rfl rfl rfl <| Lx.y (pickF rfl rfl) rfl <| Lx.y (pickT rfl rfl) rfl <| Lx.y (asg rfl) rfl <| ?_
          refine Lx.nil ?_
          refine Xx.tn (k4 _ _ _ _ ?_)
          refine Cx.ret ?_
          refine Xx.dropB b1 (Xx.rB1 rfl rfl ⟨congrArg Value.bool ?_, rfl⟩ (Frag.le_refl _) rfl)
          first | exact (decide_eq_false (by unfold BareP; grind)).symm | exact (decide_eq_true (by unfold BareP; grind)).symm | exact decide_eq_decide.2 (by unfold BareP; grind)
        ·
         refine Lx.gF rfl rfl rfl rfl <| Lx.gF rfl rfl rfl rfl <| Lx.gF rfl rfl rfl rfl <| Lx.gF rfl rfl rfl rfl <| Lx.gU rfl rfl rfl rfl <| Lx.gU rfl rfl rfl rfl <| Lx.gU rfl rfl rfl rfl <| Lx.gU rfl rfl rfl rfl <| Lx.gF rfl rfl rfl rfl <| Lx.y (pickF rfl rfl) rfl <| Lx.y (asg rfl) rfl <| Lx.nil <| ?_
         refine Xx.tn (k4 _ _ _ _ ?_)
         refine Cx.ret ?_
         refine Xx.dropB b1 (Xx.rB1 rfl rfl ⟨congrArg Value.bool ?_, rfl⟩ (Frag.le_refl _) rfl)
         first | exact (decide_eq_false (by unfold BareP; grind)).symm | exact (decide_eq_true (by unfold BareP; grind)).symm | exact decide_eq_decide.2 (by unfold BareP; grind)
      ·
       refine Lx.gF rfl rfl rfl rfl <| Lx.gF rfl rfl rfl rfl <| Lx.gU rfl rfl rfl rfl <| Lx.gU rfl rfl rfl rfl <| Lx.gU rfl rfl rfl rfl <| Lx.gU rfl rfl rfl rfl <| Lx.gF rfl rfl rfl rfl <| Lx.y (pickF rfl rfl) rfl <| Lx.y (mv rfl) rfl <| Lx.gF rfl rfl rfl rfl <| Lx.gF rfl rfl rfl rfl <| Lx.gF rfl rfl rfl rfl <| ?_
       refine Lx.gF rfl rfl rfl rfl <| Lx.gU rfl rfl rfl rfl <| Lx.gU rfl rfl rfl rfl <| Lx.gU rfl rfl rfl rfl <| Lx.gU rfl rfl rfl rfl <| Lx.gF rfl rfl rfl rfl <| Lx.y (pickF rfl rfl) rfl <| Lx.y (asg rfl) rfl <| Lx.nil <| ?_
       refine Xx.tn (k4 _ _ _ _ ?_)
       refine Cx.ret ?_
       refine Xx.dropB b1 (Xx.rB1 rfl rfl ⟨congrArg Value.bool ?_, rfl⟩ (Frag.le_refl _) rfl)
       first | exact (decide_eq_false (by unfold BareP; grind)).symm | exact (decide_eq_true (by unfold BareP; grind)).symm | exact decide_eq_decide.2 (by unfold BareP; grind)
    ·
     refine Lx.gT rfl rfl rfl <| Lx.y (fa' fo25_2 rfl) rfl <| Lx.gT rfl rfl rfl <| Lx.y (ld U2 rfl rfl rfl) rfl <| Lx.gT rfl rfl rfl <| Lx.y (eqI rfl rfl) rfl <| Lx.gT rfl rfl rfl <| Lx.y (pickF rfl rfl) rfl <| Lx.y (pickT rfl rfl) rfl <| Lx.y (mv rfl) rfl <| ?_
     refine Xx.ifD (t := 39) rfl (fun h17 => ?_) (fun h17 => ?_)
     ·
      refine Lx.gT rfl rfl rfl <| Lx.y (mv rfl) rfl <| Lx.gT rfl rfl rfl <| Lx.y (mv rfl) rfl <| ?_
      refine Xx.ifD (t := 41) rfl (fun h18 => ?_) (fun h18 => ?_)
      ·
       refine Lx.gF rfl rfl rfl rfl <| Lx.gF rfl rfl rfl rfl <| Lx.gF rfl rfl rfl rfl <| Lx.gT rfl rfl rfl <| Lx.y (pickT rfl rfl) rfl <| Lx.y (pickT rfl rfl) rfl <| Lx.y (mv rfl) rfl <| Lx.gT rfl rfl rfl <| Lx.y (mv rfl) rfl <| Lx.gT rfl rfl rfl <| Lx.y (mv rfl) rfl <| ?_
       refine Xx.ifD (t := 49) rfl (fun h19 => ?_) (fun h19 => ?_)
       ·
        refine Lx.gF rfl rfl rfl rfl <| Lx.gF rfl rfl rfl rfl <| Lx.gF rfl rfl rfl rfl <| Lx.gF rfl rfl rfl rfl <| Lx.gT rfl rfl rfl <| Lx.y (pickT rfl rfl) rfl <| Lx.y (pickT rfl rfl) rfl <| Lx.y (mv rfl) rfl <| Lx.gT rfl rfl rfl <| Lx.y (fa' fo25_0 rfl) rfl <| Lx.gT rfl rfl rfl <| Lx.y (ld U3 rfl rfl rfl) rfl <| ?_
        refine Lx.gT rfl rfl rfl <| Lx.y (eqI rfl rfl) rfl <| Lx.gT rfl rfl rfl <| Lx.y (mv rfl) rfl <| ?_
        refine Xx.ifD (t := 60) rfl (fun h20 => ?_) (fun h20 => ?_)
        ·
         refine Lx.gF rfl rfl rfl rfl <| Lx.gF rfl rfl rfl rfl <| Lx.gF rfl rfl rfl rfl <| Lx.gF rfl rfl rfl rfl <| Lx.gT rfl rfl rfl <| Lx.y (pickT rfl rfl) rfl <| Lx.y (pickT rfl rfl) rfl <| Lx.y (asg rfl) rfl <| Lx.nil <| ?_
         refine Xx.tn (k4 _ _ _ _ ?_)
         refine Cx.ret ?_
         refine Xx.dropB b1 (Xx.rB1 rfl rfl ⟨congrArg Value.bool ?_, rfl⟩ (Frag.le_refl _) rfl)
         first | exact (decide_eq_false (by unfold BareP; grind)).symm | exact (decide_eq_true (by unfold BareP; grind)).symm | exact decide_eq_decide.2 (by unfold BareP; grind)
        ·
         refine Lx.gT rfl rfl rfl <| Lx.y (fa' fo25_5 rfl) rfl <| Lx.gT rfl rfl rfl <| Lx.y (ld U23 rfl rfl rfl) rfl <| Lx.gT rfl rfl rfl <| Lx.y (lenV (ty' := 0) U23 rfl) rfl <| Lx.gT rfl rfl rfl <| Lx.y (eqI rfl rfl) rfl <| Lx.gT rfl rfl rfl <| Lx.y (pickF rfl rfl) rfl <| Lx.y (pickT rfl rfl) rfl <| Lx.y (asg rfl) rfl <| ?_
         refine Lx.nil ?_
         refine Xx.tn (k4 _ _ _ _ ?_)
         refine Cx.ret ?_
         refine Xx.dropB b1 (Xx.rB1 rfl rfl ⟨congrArg Value.bool ?_, rfl⟩ (Frag.le_refl _) rfl)
         first | exact (decide_eq_false (by unfold BareP; grind)).symm | exact (decide_eq_true (by unfold BareP; grind)).symm | exact decide_eq_decide.2 (by unfold BareP; grind)
       ·
        refine Lx.gT rfl rfl rfl <| Lx.y (fa' fo25_4 rfl) rfl <| Lx.gT rfl rfl rfl <| Lx.y (ld U22 rfl rfl rfl) rfl <| Lx.gT rfl rfl rfl <| Lx.y (lenV (ty' := 0) U22 rfl) rfl <| Lx.gT rfl rfl rfl <| Lx.y (eqI rfl rfl) rfl <| Lx.gT rfl rfl rfl <| Lx.y (pickF rfl rfl) rfl <| Lx.y (pickT rfl rfl) rfl <| Lx.y (mv rfl) rfl <| ?_
        refine Xx.ifD (t := 56) rfl (fun h21 => ?_) (fun h21 => ?_)
        ·
         refine Lx.gT rfl rfl rfl <| Lx.y (fa' fo25_0 rfl) rfl <| Lx.gT rfl rfl rfl <| Lx.y (ld U3 rfl rfl rfl) rfl <| Lx.gT rfl rfl rfl <| Lx.y (eqI rfl rfl) rfl <| Lx.gT rfl rfl rfl <| Lx.y (mv rfl) rfl <| ?_
         refine Xx.ifD (t := 60) rfl (fun h22 => ?_) (fun h22 => ?_)
         ·
          refine Lx.gF rfl rfl rfl rfl <| Lx.gF rfl rfl rfl rfl <| Lx.gF rfl rfl rfl rfl <| Lx.gF rfl rfl rfl rfl <| Lx.gT rfl rfl rfl <| Lx.y (pickT rfl rfl) rfl <| Lx.y (pickT rfl rfl) rfl <| Lx.y (asg rfl) rfl <| Lx.nil <| ?_
          refine Xx.tn (k4 _ _ _ _ ?_)
          refine Cx.ret ?_
          refine Xx.dropB b1 (Xx.rB1 rfl rfl ⟨congrArg Value.bool ?_, rfl⟩ (Frag.le_refl _) rfl)
          first | exact (decide_eq_false (by unfold BareP; grind)).symm | exact (decide_eq_true (by unfold BareP; grind)).symm | exact decide_eq_decide.2 (by unfold BareP; grind)
         ·
          refine Lx.gT rfl rfl rfl <| Lx.y (fa' fo25_5 rfl) rfl <| Lx.gT rfl rfl rfl <| Lx.y (ld U23 rfl rfl rfl) rfl <| Lx.gT rfl rfl rfl <| Lx.y (lenV (ty' := 0) U23 rfl) rfl <| Lx.gT rfl rfl rfl <| Lx.y (eqI rfl rfl) rfl <| Lx.gT rfl rfl rfl <| Lx.y (pickF rfl rfl) rfl <| Lx.y (pickT rfl rfl) rfl <| Lx.y (asg rfl) rfl <| ?_
          refine Lx.nil ?_
          refine Xx.tn (k4 _ _ _ _ ?_)
          refine Cx.ret ?_
          refine Xx.dropB b1 (Xx.rB1 rfl rfl ⟨congrArg Value.bool ?_, rfl⟩ (Frag.le_refl _) rfl)
          first | exact (decide_eq_false (by unfold BareP; grind)).symm | exact (decide_eq_true (by unfold BareP; grind)).symm | exact decide_eq_decide.2 (by unfold BareP; grind)
        ·
         refine Lx.gF rfl rfl rfl rfl <| Lx.gF rfl rfl rfl rfl <| Lx.gF rfl rfl rfl rfl <| Lx.gF rfl rfl rfl rfl <| Lx.gU rfl rfl rfl rfl <| Lx.gU rfl rfl rfl rfl <| Lx.gU rfl rfl rfl rfl <| Lx.gU rfl rfl rfl rfl <| Lx.gF rfl rfl rfl rfl <| Lx.y (pickF rfl rfl) rfl <| Lx.y (asg rfl) rfl <| Lx.nil <| ?_
         refine Xx.tn (k4 _ _ _ _ ?_)
         refine Cx.ret ?_
         refine Xx.dropB b1 (Xx.rB1 rfl rfl ⟨congrArg Value.bool ?_, rfl⟩ (Frag.le_refl _) rfl)
         first | exact (decide_eq_false (by unfold BareP; grind)).symm | exact (decide_eq_true (by unfold BareP; grind)).symm | exact decide_eq_decide.2 (by unfold BareP; grind)
      ·
       refine Lx.gT rfl rfl rfl <| Lx.y (fa' fo25_3 rfl) rfl <| Lx.gT rfl rfl rfl <| Lx.y (ld U9 rfl rfl rfl) rfl <| Lx.gT rfl rfl rfl <| Lx.y (eqS rfl rfl) rfl <| Lx.gT rfl rfl rfl <| Lx.y (pickF rfl rfl) rfl <| Lx.y (pickT rfl rfl) rfl <| Lx.y (mv rfl) rfl <| ?_
       refine Xx.ifD (t := 47) rfl (fun h23 => ?_) (fun h23 => ?_)
       ·
        refine Lx.gT rfl rfl rfl <| Lx.y (mv rfl) rfl <| Lx.gT rfl rfl rfl <| Lx.y (mv rfl) rfl <| ?_
        refine Xx.ifD (t := 49) rfl (fun h24 => ?_) (fun h24 => ?_)
        ·
         refine Lx.gF rfl rfl rfl rfl <| Lx.gF rfl rfl rfl rfl <| Lx.gF rfl rfl rfl rfl <| Lx.gF rfl rfl rfl rfl <| Lx.gT rfl rfl rfl <| Lx.y (pickT rfl rfl) rfl <| Lx.y (pickT rfl rfl) rfl <| Lx.y (mv rfl) rfl <| Lx.gT rfl rfl rfl <| Lx.y (fa' fo25_0 rfl) rfl <| Lx.gT rfl rfl rfl <| Lx.y (ld U3 rfl rfl rfl) rfl <| ?_
         refine Lx.gT rfl rfl rfl <| Lx.y (eqI rfl rfl) rfl <| Lx.gT rfl rfl rfl <| Lx.y (mv rfl) rfl <| ?_
         refine Xx.ifD (t := 60) rfl (fun h25 => ?_) (fun h25 => ?_)
         ·
          refine Lx.gF rfl rfl rfl rfl <| Lx.gF rfl rfl rfl rfl <| Lx.gF rfl rfl rfl rfl <| Lx.gF rfl rfl rfl rfl <| Lx.gT rfl rfl rfl <| Lx.y (pickT rfl rfl) rfl <| Lx.y (pickT rfl rfl) rfl <| Lx.y (asg rfl) rfl <| Lx.nil <| ?_
          refine Xx.tn (k4 _ _ _ _ ?_)
          refine Cx.ret ?_
          refine Xx.dropB b1 (Xx.rB1 rfl rfl ⟨congrArg Value.bool ?_, rfl⟩ (Frag.le_refl _) rfl)
          first | exact (decide_eq_false (by unfold BareP; grind)).symm | exact (decide_eq_true (by unfold BareP; grind)).symm | exact decide_eq_decide.2 (by unfold BareP; grind)
         ·
          refine Lx.gT rfl rfl rfl <| Lx.y (fa' fo25_5 rfl) rfl <| Lx.gT rfl rfl rfl <| Lx.y (ld U23 rfl rfl rfl) rfl <| Lx.gT rfl rfl rfl <| Lx.y (lenV (ty' := 0) U23 rfl) rfl <| Lx.gT rfl rfl rfl <| Lx.y (eqI rfl rfl) rfl <| Lx.gT rfl rfl rfl <| Lx.y (pickF rfl rfl) rfl <| Lx.y (pickT rfl rfl) rfl <| Lx.y (asg rfl) rfl <| ?_
          refine Lx.nil ?_
          refine Xx.tn (k4 _ _ _ _ ?_)
          refine Cx.ret ?_
          refine Xx.dropB b1 (Xx.rB1 rfl rfl ⟨congrArg Value.bool ?_, rfl⟩ (Frag.le_refl _) rfl)
          first | exact (decide_eq_false (by unfold BareP; grind)).symm | exact (decide_eq_true (by unfold BareP; grind)).symm | exact decide_eq_decide.2 (by unfold BareP; grind)
        ·
         refine Lx.gT rfl rfl rfl <| Lx.y (fa' fo25_4 rfl) rfl <| Lx.gT rfl rfl rfl <| Lx.y (ld U22 rfl rfl rfl) rfl <| Lx.gT rfl rfl rfl <| Lx.y (lenV (ty' := 0) U22 rfl) rfl <| Lx.gT rfl rfl rfl <| Lx.y (eqI rfl rfl) rfl <| Lx.gT rfl rfl rfl <| Lx.y (pickF rfl rfl) rfl <| Lx.y (pickT rfl rfl) rfl <| Lx.y (mv rfl) rfl <| ?_
         refine Xx.ifD (t := 56) rfl (fun h26 => ?_) (fun h26 => ?_)
         ·
          refine Lx.gT rfl rfl rfl <| Lx.y (fa' fo25_0 rfl) rfl <| Lx.gT rfl rfl rfl <| Lx.y (ld U3 rfl rfl rfl) rfl <| Lx.gT rfl rfl rfl <| Lx.y (eqI rfl rfl) rfl <| Lx.gT rfl rfl rfl <| Lx.y (mv rfl) rfl <| ?_
          refine Xx.ifD (t := 60) rfl (fun h27 => ?_) (fun h27 => ?_)
          ·
           refine Lx.gF rfl rfl rfl rfl <| Lx.gF rfl rfl rfl rfl <| Lx.gF rfl rfl rfl rfl <| Lx.gF rfl rfl rfl rfl <| Lx.gT rfl rfl rfl <| Lx.y (pickT rfl rfl) rfl <| Lx.y (pickT rfl rfl) rfl <| Lx.y (asg rfl) rfl <| Lx.nil <| ?_
           refine Xx.tn (k4 _ _ _ _ ?_)
           refine Cx.ret ?_
           refine Xx.dropB b1 (Xx.rB1 rfl rfl ⟨congrArg Value.bool ?_, rfl⟩ (Frag.le_refl _) rfl)
           first | exact (decide_eq_false (by unfold BareP; grind)).symm | exact (decide_eq_true (by unfold BareP; grind)).symm | exact decide_eq_decide.2 (by unfold BareP; grind)
          ·
           refine Lx.gT rfl rfl rfl <| Lx.y (fa' fo25_5 rfl) rfl <| Lx.gT rfl rfl rfl <| Lx.y (ld U23 rfl rfl rfl) rfl <| Lx.gT rfl rfl rfl <| Lx.y (lenV (ty' := 0) U23 rfl) rfl <| Lx.gT rfl rfl rfl <| Lx.y (eqI rfl rfl) rfl <| Lx.gT rfl rfl rfl <| Lx.y (pickF rfl rfl) rfl <| Lx.y (pickT rfl rfl) rfl <| Lx.y (asg rfl) rfl <| ?_
           refine Lx.nil ?_
           refine Xx.tn (k4 _ _ _ _ ?_)
           refine Cx.ret ?_
           refine Xx.dropB b1 (Xx.rB1 rfl rfl ⟨congrArg Value.bool ?_, rfl⟩ (Frag.le_refl _) rfl)
           first | exact (decide_eq_false (by unfold BareP; grind)).symm | exact (decide_eq_true (by unfold BareP; grind)).symm | exact decide_eq_decide.2 (by unfold BareP; grind)
         ·
          refine Lx.gF rfl rfl rfl rfl <| Lx.gF rfl rfl rfl rfl <| Lx.gF rfl rfl rfl rfl <| Lx.gF rfl rfl rfl rfl <| Lx.gU rfl rfl rfl rfl <| Lx.gU rfl rfl rfl rfl <| Lx.gU rfl rfl rfl rfl <| Lx.gU rfl rfl rfl rfl <| Lx.gF rfl rfl rfl rfl <| Lx.y (pickF rfl rfl) rfl <| Lx.y (asg rfl) rfl <| Lx.nil <| ?_
          refine Xx.tn (k4 _ _ _ _ ?_)
          refine Cx.ret ?_
          refine Xx.dropB b1 (Xx.rB1 rfl rfl ⟨congrArg Value.bool ?_, rfl⟩ (Frag.le_refl _) rfl)
          first | exact (decide_eq_false (by unfold BareP; grind)).symm | exact (decide_eq_true (by unfold BareP; grind)).symm | exact decide_eq_decide.2 (by unfold BareP; grind)
       ·
        refine Lx.gF rfl rfl rfl rfl <| Lx.gF rfl rfl rfl rfl <| Lx.gU rfl rfl rfl rfl <| Lx.gU rfl rfl rfl rfl <| Lx.gU rfl rfl rfl rfl <| Lx.gU rfl rfl rfl rfl <| Lx.gF rfl rfl rfl rfl <| Lx.y (pickF rfl rfl) rfl <| Lx.y (mv rfl) rfl <| Lx.gF rfl rfl rfl rfl <| Lx.gF rfl rfl rfl rfl <| Lx.gF rfl rfl rfl rfl <| ?_
        refine Lx.gF rfl rfl rfl rfl <| Lx.gU rfl rfl rfl rfl <| Lx.gU rfl rfl rfl rfl <| Lx.gU rfl rfl rfl rfl <| Lx.gU rfl rfl rfl rfl <| Lx.gF rfl rfl rfl rfl <| Lx.y (pickF rfl rfl) rfl <| Lx.y (asg rfl) rfl <| Lx.nil <| ?_
        refine Xx.tn (k4 _ _ _ _ ?_)
        refine Cx.ret ?_
        refine Xx.dropB b1 (Xx.rB1 rfl rfl ⟨congrArg Value.bool ?_, rfl⟩ (Frag.le_refl _) rfl)
        first | exact (decide_eq_false (by unfold BareP; grind)).symm | exact (decide_eq_true (by unfold BareP; grind)).symm | exact decide_eq_decide.2 (by unfold BareP; grind)
     ·
      refine Lx.gF rfl rfl rfl rfl <| Lx.gF rfl rfl rfl rfl <| Lx.gU rfl rfl rfl rfl <| Lx.gU rfl rfl rfl rfl <| Lx.gU rfl rfl rfl rfl <| Lx.gF rfl rfl rfl rfl <| Lx.y (pickF rfl rfl) rfl <| Lx.y (mv rfl) rfl <| Lx.gF rfl rfl rfl rfl <| Lx.gF rfl rfl rfl rfl <| Lx.gU rfl rfl rfl rfl <| Lx.gU rfl rfl rfl rfl <| ?_
      refine Lx.gU rfl rfl rfl rfl <| Lx.gU rfl rfl rfl rfl <| Lx.gF rfl rfl rfl rfl <| Lx.y (pickF rfl rfl) rfl <| Lx.y (mv rfl) rfl <| Lx.gF rfl rfl rfl rfl <| Lx.gF rfl rfl rfl rfl <| Lx.gF rfl rfl rfl rfl <| Lx.gF rfl rfl rfl rfl <| Lx.gU rfl rfl rfl rfl <| Lx.gU rfl rfl rfl rfl <| Lx.gU rfl rfl rfl rfl <| ?_
      refine Lx.gU rfl rfl rfl rfl <| Lx.gF rfl rfl rfl rfl <| Lx.y (pickF rfl rfl) rfl <| Lx.y (asg rfl) rfl <| Lx.nil <| ?_
      refine Xx.tn (k4 _ _ _ _ ?_)
      refine Cx.ret ?_
      refine Xx.dropB b1 (Xx.rB1 rfl rfl ⟨congrArg Value.bool ?_, rfl⟩ (Frag.le_refl _) rfl)
      first | exact (decide_eq_false (by unfold BareP; grind)).symm | exact (decide_eq_true (by unfold BareP; grind)).symm | exact decide_eq_decide.2 (by unfold BareP; grind)
   ·
    refine Lx.gT rfl rfl rfl <| Lx.y (fa' fo25_1 rfl) rfl <| Lx.gT rfl rfl rfl <| Lx.y (ld U4 rfl rfl rfl) rfl <| Lx.gT rfl rfl rfl <| Lx.y (not' rfl) rfl <| Lx.y (pickF rfl rfl) rfl <| Lx.y (mv rfl) rfl <| ?_
    refine Xx.ifB (t := 29) rfl (fun h28 => ?_) (fun h28 => ?_)
    ·
     refine Lx.gT rfl rfl rfl <| Lx.y (fa' fo25_0 rfl) rfl <| Lx.gT rfl rfl rfl <| Lx.y (ld U3 rfl rfl rfl) rfl <| Lx.gT rfl rfl rfl <| Lx.y (eqI rfl rfl) rfl <| Lx.gT rfl rfl rfl <| Lx.y (mv rfl) rfl <| ?_
     refine Xx.ifD (t := 33) rfl (fun h29 => ?_) (fun h29 => ?_)
     ·
      refine Lx.gF rfl rfl rfl rfl <| Lx.gF rfl rfl rfl rfl <| Lx.gF rfl rfl rfl rfl <| Lx.gT rfl rfl rfl <| Lx.y (pickT rfl rfl) rfl <| Lx.y (pickT rfl rfl) rfl <| Lx.y (mv rfl) rfl <| Lx.gT rfl rfl rfl <| Lx.y (mv rfl) rfl <| Lx.gT rfl rfl rfl <| Lx.y (mv rfl) rfl <| ?_
      refine Xx.ifD (t := 41) rfl (fun h30 => ?_) (fun h30 => ?_)
      ·
       refine Lx.gF rfl rfl rfl rfl <| Lx.gF rfl rfl rfl rfl <| Lx.gF rfl rfl rfl rfl <| Lx.gT rfl rfl rfl <| Lx.y (pickT rfl rfl) rfl <| Lx.y (pickT rfl rfl) rfl <| Lx.y (mv rfl) rfl <| Lx.gT rfl rfl rfl <| Lx.y (mv rfl) rfl <| Lx.gT rfl rfl rfl <| Lx.y (mv rfl) rfl <| ?_
       refine Xx.ifD (t := 49) rfl (fun h31 => ?_) (fun h31 => ?_)
       ·
        refine Lx.gF rfl rfl rfl rfl <| Lx.gF rfl rfl rfl rfl <| Lx.gF rfl rfl rfl rfl <| Lx.gF rfl rfl rfl rfl <| Lx.gT rfl rfl rfl <| Lx.y (pickT rfl rfl) rfl <| Lx.y (pickT rfl rfl) rfl <| Lx.y (mv rfl) rfl <| Lx.gT rfl rfl rfl <| Lx.y (fa' fo25_0 rfl) rfl <| Lx.gT rfl rfl rfl <| Lx.y (ld U3 rfl rfl rfl) rfl <| ?_
        refine Lx.gT rfl rfl rfl <| Lx.y (eqI rfl rfl) rfl <| Lx.gT rfl rfl rfl <| Lx.y (mv rfl) rfl <| ?_
        refine Xx.ifD (t := 60) rfl (fun h32 => ?_) (fun h32 => ?_)
        ·
         refine Lx.gF rfl rfl rfl rfl <| Lx.gF rfl rfl rfl rfl <| Lx.gF rfl rfl rfl rfl <| Lx.gF rfl rfl rfl rfl <| Lx.gT rfl rfl rfl <| Lx.y (pickT rfl rfl) rfl <| Lx.y (pickT rfl rfl) rfl <| Lx.y (asg rfl) rfl <| Lx.nil <| ?_
         refine Xx.tn (k4 _ _ _ _ ?_)
         refine Cx.ret ?_
         refine Xx.dropB b1 (Xx.rB1 rfl rfl ⟨congrArg Value.bool ?_, rfl⟩ (Frag.le_refl _) rfl)
         first | exact (decide_eq_false (by unfold BareP; grind)).symm | exact (decide_eq_true (by unfold BareP; grind)).symm | exact decide_eq_decide.2 (by unfold BareP; grind)
        ·
         refine Lx.gT rfl rfl rfl <| Lx.y (fa' fo25_5 rfl) rfl <| Lx.gT rfl rfl rfl <| Lx.y (ld U23 rfl rfl rfl) rfl <| Lx.gT rfl rfl rfl <| Lx.y (lenV (ty' := 0) U23 rfl) rfl <| Lx.gT rfl rfl rfl <| Lx.y (eqI rfl rfl) rfl <| Lx.gT rfl rfl rfl <| Lx.y (pickF rfl rfl) rfl <| Lx.y (pickT rfl rfl) rfl <| Lx.y (asg rfl) rfl <| ?_
         refine Lx.nil ?_
         refine Xx.tn (k4 _ _ _ _ ?_)
         refine Cx.ret ?_
         refine Xx.dropB b1 (Xx.rB1 rfl rfl ⟨congrArg Value.bool ?_, rfl⟩ (Frag.le_refl _) rfl)
         first | exact (decide_eq_false (by unfold BareP; grind)).symm | exact (decide_eq_true (by unfold BareP; grind)).symm | exact decide_eq_decide.2 (by unfold BareP; grind)
       ·
        refine Lx.gT rfl rfl rfl <| Lx.y (fa' fo25_4 rfl) rfl <| Lx.gT rfl rfl rfl <| Lx.y (ld U22 rfl rfl rfl) rfl <| Lx.gT rfl rfl rfl <| Lx.y (lenV (ty' := 0) U22 rfl) rfl <| Lx.gT rfl rfl rfl <| Lx.y (eqI rfl rfl) rfl <| Lx.gT rfl rfl rfl <| Lx.y (pickF rfl rfl) rfl <| Lx.y (pickT rfl rfl) rfl <| Lx.y (mv rfl) rfl <| ?_
        refine Xx.ifD (t := 56) rfl (fun h33 => ?_) (fun h33 => ?_)
        ·
         refine Lx.gT rfl rfl rfl <| Lx.y (fa' fo25_0 rfl) rfl <| Lx.gT rfl rfl rfl <| Lx.y (ld U3 rfl rfl rfl) rfl <| Lx.gT rfl rfl rfl <| Lx.y (eqI rfl rfl) rfl <| Lx.gT rfl rfl rfl <| Lx.y (mv rfl) rfl <| ?_
         refine Xx.ifD (t := 60) rfl (fun h34 => ?_) (fun h34 => ?_)
         ·
          refine Lx.gF rfl rfl rfl rfl <| Lx.gF rfl rfl rfl rfl <| Lx.gF rfl rfl rfl rfl <| Lx.gF rfl rfl rfl rfl <| Lx.gT rfl rfl rfl <| Lx.y (pickT rfl rfl) rfl <| Lx.y (pickT rfl rfl) rfl <| Lx.y (asg rfl) rfl <| Lx.nil <| ?_
          refine Xx.tn (k4 _ _ _ _ ?_)
          refine Cx.ret ?_
          refine Xx.dropB b1 (Xx.rB1 rfl rfl ⟨congrArg Value.bool ?_, rfl⟩ (Frag.le_refl _) rfl)
          first | exact (decide_eq_false (by unfold BareP; grind)).symm | exact (decide_eq_true (by unfold BareP; grind)).symm | exact decide_eq_decide.2 (by unfold BareP; grind)
         ·
          refine Lx.gT rfl rfl rfl <| Lx.y (fa' fo25_5 rfl) rfl <| Lx.gT rfl rfl rfl <| Lx.y (ld U23 rfl rfl rfl) rfl <| Lx.gT rfl rfl rfl <| Lx.y (lenV (ty' := 0) U23 rfl) rfl <| Lx.gT rfl rfl rfl <| Lx.y (eqI rfl rfl) rfl <| Lx.gT rfl rfl rfl <| Lx.y (pickF rfl rfl) rfl <| Lx.y (pickT rfl rfl) rfl <| Lx.y (asg rfl) rfl <| ?_
          refine Lx.nil ?_
          refine Xx.tn (k4 _ _ _ _ ?_)
          refine Cx.ret ?_
          refine Xx.dropB b1 (Xx.rB1 rfl rfl ⟨congrArg Value.bool ?_, rfl⟩ (Frag.le_refl _) rfl)
          first | exact (decide_eq_false (by unfold BareP; grind)).symm | exact (decide_eq_true (by unfold BareP; grind)).symm | exact decide_eq_decide.2 (by unfold BareP; grind)
        ·
         refine Lx.gF rfl rfl rfl rfl <| Lx.gF rfl rfl rfl rfl <| Lx.gF rfl rfl rfl rfl <| Lx.gF rfl rfl rfl rfl <| Lx.gU rfl rfl rfl rfl <| Lx.gU rfl rfl rfl rfl <| Lx.gU rfl rfl rfl rfl <| Lx.gU rfl rfl rfl rfl <| Lx.gF rfl rfl rfl rfl <| Lx.y (pickF rfl rfl) rfl <| Lx.y (asg rfl) rfl <| Lx.nil <| ?_
         refine Xx.tn (k4 _ _ _ _ ?_)
         refine Cx.ret ?_
         refine Xx.dropB b1 (Xx.rB1 rfl rfl ⟨congrArg Value.bool ?_, rfl⟩ (Frag.le_refl _) rfl)
         first | exact (decide_eq_false (by unfold BareP; grind)).symm | exact (decide_eq_true (by unfold BareP; grind)).symm | exact decide_eq_decide.2 (by unfold BareP; grind)
      ·
       refine Lx.gT rfl rfl rfl <| Lx.y (fa' fo25_3 rfl) rfl <| Lx.gT rfl rfl rfl <| Lx.y (ld U9 rfl rfl rfl) rfl <| Lx.gT rfl rfl rfl <| Lx.y (eqS rfl rfl) rfl <| Lx.gT rfl rfl rfl <| Lx.y (pickF rfl rfl) rfl <| Lx.y (pickT rfl rfl) rfl <| Lx.y (mv rfl) rfl <| ?_
       refine Xx.ifD (t := 47) rfl (fun h35 => ?_) (fun h35 => ?_)
       ·
        refine Lx.gT rfl rfl rfl <| Lx.y (mv rfl) rfl <| Lx.gT rfl rfl rfl <| Lx.y (mv rfl) rfl <| ?_
        refine Xx.ifD (t := 49) rfl (fun h36 => ?_) (fun h36 => ?_)
        ·
         refine Lx.gF rfl rfl rfl rfl <| Lx.gF rfl rfl rfl rfl <| Lx.gF rfl rfl rfl rfl <| Lx.gF rfl rfl rfl rfl <| Lx.gT rfl rfl rfl <| Lx.y (pickT rfl rfl) rfl <| Lx.y (pickT rfl rfl) rfl <| Lx.y (mv rfl) rfl <| Lx.gT rfl rfl rfl <| Lx.y (fa' fo25_0 rfl) rfl <| Lx.gT rfl rfl rfl <| Lx.y (ld U3 rfl rfl rfl) rfl <| ?_
         refine Lx.gT rfl rfl rfl <| Lx.y (eqI rfl rfl) rfl <| Lx.gT rfl rfl rfl <| Lx.y (mv rfl) rfl <| ?_
         refine Xx.ifD (t := 60) rfl (fun h37 => ?_) (fun h37 => ?_)
         ·
          refine Lx.gF rfl rfl rfl rfl <| Lx.gF rfl rfl rfl rfl <| Lx.gF rfl rfl rfl rfl <| Lx.gF rfl rfl rfl rfl <| Lx.gT rfl rfl rfl <| Lx.y (pickT rfl rfl) rfl <| Lx.y (pickT rfl rfl) rfl <| Lx.y (asg rfl) rfl <| Lx.nil <| ?_
          refine Xx.tn (k4 _ _ _ _ ?_)
          refine Cx.ret ?_
          refine Xx.dropB b1 (Xx.rB1 rfl rfl ⟨congrArg Value.bool ?_, rfl⟩ (Frag.le_refl _) rfl)
          first | exact (decide_eq_false (by unfold BareP; grind)).symm | exact (decide_eq_true (by unfold BareP; grind)).symm | exact decide_eq_decide.2 (by unfold BareP; grind)
         ·
          refine Lx.gT rfl rfl rfl <| Lx.y (fa' fo25_5 rfl) rfl <| Lx.gT rfl rfl rfl <| Lx.y (ld U23 rfl rfl rfl) rfl <| Lx.gT rfl rfl rfl <| Lx.y (lenV (ty' := 0) U23 rfl) rfl <| Lx.gT rfl rfl rfl <| Lx.y (eqI rfl rfl) rfl <| Lx.gT rfl rfl rfl <| Lx.y (pickF rfl rfl) rfl <| Lx.y (pickT rfl rfl) rfl <| Lx.y (asg rfl) rfl <| ?_
          refine Lx.nil ?_
          refine Xx.tn (k4 _ _ _ _ ?_)
          refine Cx.ret ?_
          refine Xx.dropB b1 (Xx.rB1 rfl rfl ⟨congrArg Value.bool ?_, rfl⟩ (Frag.le_refl _) rfl)
          first | exact (decide_eq_false (by unfold BareP; grind)).symm | exact (decide_eq_true (by unfold BareP; grind)).symm | exact decide_eq_decide.2 (by unfold BareP; grind)
        ·
         refine Lx.gT rfl rfl rfl <| Lx.y (fa' fo25_4 rfl) rfl <| Lx.gT rfl rfl rfl <| Lx.y (ld U22 rfl rfl rfl) rfl <| Lx.gT rfl rfl rfl <| Lx.y (lenV (ty' := 0) U22 rfl) rfl <| Lx.gT rfl rfl rfl <| Lx.y (eqI rfl rfl) rfl <| Lx.gT rfl rfl rfl <| Lx.y (pickF rfl rfl) rfl <| Lx.y (pickT rfl rfl) rfl <| Lx.y (mv rfl) rfl <| ?_
         refine Xx.ifD (t := 56) rfl (fun h38 => ?_) (fun h38 => ?_)
         ·
          refine Lx.gT rfl rfl rfl <| Lx.y (fa' fo25_0 rfl) rfl <| Lx.gT rfl rfl rfl <| Lx.y (ld U3 rfl rfl rfl) rfl <| Lx.gT rfl rfl rfl <| Lx.y (eqI rfl rfl) rfl <| Lx.gT rfl rfl rfl <| Lx.y (mv rfl) rfl <| ?_
          refine Xx.ifD (t := 60) rfl (fun h39 => ?_) (fun h39 => ?_)
          ·
           refine Lx.gF rfl rfl rfl rfl <| Lx.gF rfl rfl rfl rfl <| Lx.gF rfl rfl rfl rfl <| Lx.gF rfl rfl rfl rfl <| Lx.gT rfl rfl rfl <| Lx.y (pickT rfl rfl) rfl <| Lx.y (pickT rfl rfl) rfl <| Lx.y (asg rfl) rfl <| Lx.nil <| ?_
           refine Xx.tn (k4 _ _ _ _ ?_)
           refine Cx.ret ?_
           refine Xx.dropB b1 (Xx.rB1 rfl rfl ⟨congrArg Value.bool ?_, rfl⟩ (Frag.le_refl _) rfl)
           first | exact (decide_eq_false (by unfold BareP; grind)).symm | exact (decide_eq_true (by unfold BareP; grind)).symm | exact decide_eq_decide.2 (by unfold BareP; grind)
          ·
           refine Lx.gT rfl rfl rfl <| Lx.y (fa' fo25_5 rfl) rfl <| Lx.gT rfl rfl rfl <| Lx.y (ld U23 rfl rfl rfl) rfl <| Lx.gT rfl rfl rfl <| Lx.y (lenV (ty' := 0) U23 rfl) rfl <| Lx.gT rfl rfl rfl <| Lx.y (eqI rfl rfl) rfl <| Lx.gT rfl rfl rfl <| Lx.y (pickF rfl rfl) rfl <| Lx.y (pickT rfl rfl) rfl <| Lx.y (asg rfl) rfl <| ?_
           refine Lx.nil ?_
           refine Xx.tn (k4 _ _ _ _ ?_)
           refine Cx.ret ?_
           refine Xx.dropB b1 (Xx.rB1 rfl rfl ⟨congrArg Value.bool ?_, rfl⟩ (Frag.le_refl _) rfl)
           first | exact (decide_eq_false (by unfold BareP; grind)).symm | exact (decide_eq_true (by unfold BareP; grind)).symm | exact decide_eq_decide.2 (by unfold BareP; grind)
         ·
          refine Lx.gF rfl rfl rfl rfl <| Lx.gF rfl rfl rfl rfl <| Lx.gF rfl rfl rfl rfl <| Lx.gF rfl rfl rfl rfl <| Lx.gU rfl rfl rfl rfl <| Lx.gU rfl rfl rfl rfl <| Lx.gU rfl rfl rfl rfl <| Lx.gU rfl rfl rfl rfl <| Lx.gF rfl rfl rfl rfl <| Lx.y (pickF rfl rfl) rfl <| Lx.y (asg rfl) rfl <| Lx.nil <| ?_
          refine Xx.tn (k4 _ _ _ _ ?_)
          refine Cx.ret ?_
          refine Xx.dropB b1 (Xx.rB1 rfl rfl ⟨congrArg Value.bool ?_, rfl⟩ (Frag.le_refl _) rfl)
          first | exact (decide_eq_false (by unfold BareP; grind)).symm | exact (decide_eq_true (by unfold BareP; grind)).symm | exact decide_eq_decide.2 (by unfold BareP; grind)
       ·
        refine Lx.gF rfl rfl rfl rfl <| Lx.gF rfl rfl rfl rfl <| Lx.gU rfl rfl rfl rfl <| Lx.gU rfl rfl rfl rfl <| Lx.gU rfl rfl rfl rfl <| Lx.gU rfl rfl rfl rfl <| Lx.gF rfl rfl rfl rfl <| Lx.y (pickF rfl rfl) rfl <| Lx.y (mv rfl) rfl <| Lx.gF rfl rfl rfl rfl <| Lx.gF rfl rfl rfl rfl <| Lx.gF rfl rfl rfl rfl <| ?_
        refine Lx.gF rfl rfl rfl rfl <| Lx.gU rfl rfl rfl rfl <| Lx.gU rfl rfl rfl rfl <| Lx.gU rfl rfl rfl rfl <| Lx.gU rfl rfl rfl rfl <| Lx.gF rfl rfl rfl rfl <| Lx.y (pickF rfl rfl) rfl <| Lx.y (asg rfl) rfl <| Lx.nil <| ?_
        refine Xx.tn (k4 _ _ _ _ ?_)
        refine Cx.ret ?_
        refine Xx.dropB b1 (Xx.rB1 rfl rfl ⟨congrArg Value.bool ?_, rfl⟩ (Frag.le_refl _) rfl)
        first | exact (decide_eq_false (by unfold BareP; grind)).symm | exact (decide_eq_true (by unfold BareP; grind)).symm | exact decide_eq_decide.2 (by unfold BareP; grind)
     ·
      refine Lx.gT rfl rfl rfl <| Lx.y (fa' fo25_2 rfl) rfl <| Lx.gT rfl rfl rfl <| Lx.y (ld U2 rfl rfl rfl) rfl <| Lx.gT rfl rfl rfl <| Lx.y (eqI rfl rfl) rfl <| Lx.gT rfl rfl rfl <| Lx.y (pickF rfl rfl) rfl <| Lx.y (pickT rfl rfl) rfl <| Lx.y (mv rfl) rfl <| ?_
      refine Xx.ifD (t := 39) rfl (fun h40 => ?_) (fun h40 => ?_)
      ·
       refine Lx.gT rfl rfl rfl <| Lx.y (mv rfl) rfl <| Lx.gT rfl rfl rfl <| Lx.y (mv rfl) rfl <| ?_
       refine Xx.ifD (t := 41) rfl (fun h41 => ?_) (fun h41 => ?_)
       ·
        refine Lx.gF rfl rfl rfl rfl <| Lx.gF rfl rfl rfl rfl <| Lx.gF rfl rfl rfl rfl <| Lx.gT rfl rfl rfl <| Lx.y (pickT rfl rfl) rfl <| Lx.y (pickT rfl rfl) rfl <| Lx.y (mv rfl) rfl <| Lx.gT rfl rfl rfl <| Lx.y (mv rfl) rfl <| Lx.gT rfl rfl rfl <| Lx.y (mv rfl) rfl <| ?_
        refine Xx.ifD (t := 49) rfl (fun h42 => ?_) (fun h42 => ?_)
        ·
         refine Lx.gF rfl rfl rfl rfl <| Lx.gF rfl rfl rfl rfl <| Lx.gF rfl rfl rfl rfl <| Lx.gF rfl rfl rfl rfl <| Lx.gT rfl rfl rfl <| Lx.y (pickT rfl rfl) rfl <| Lx.y (pickT rfl rfl) rfl <| Lx.y (mv rfl) rfl <| Lx.gT rfl rfl rfl <| Lx.y (fa' fo25_0 rfl) rfl <| Lx.gT rfl rfl rfl <| Lx.y (ld U3 rfl rfl rfl) rfl <| ?_
         refine Lx.gT rfl rfl rfl <| Lx.y (eqI rfl rfl) rfl <| Lx.gT rfl rfl rfl <| Lx.y (mv rfl) rfl <| ?_
         refine Xx.ifD (t := 60) rfl (fun h43 => ?_) (fun h43 => ?_)
         ·
          refine Lx.gF rfl rfl rfl rfl <| Lx.gF rfl rfl rfl rfl <| Lx.gF rfl rfl rfl rfl <| Lx.gF rfl rfl rfl rfl <| Lx.gT rfl rfl rfl <| Lx.y (pickT rfl rfl) rfl <| Lx.y (pickT rfl rfl) rfl <| Lx.y (asg rfl) rfl <| Lx.nil <| ?_
          refine Xx.tn (k4 _ _ _ _ ?_)
          refine Cx.ret ?_
          refine Xx.dropB b1 (Xx.rB1 rfl rfl ⟨congrArg Value.bool ?_, rfl⟩ (Frag.le_refl _) rfl)
          first | exact (decide_eq_false (by unfold BareP; grind)).symm | exact (decide_eq_true (by unfold BareP; grind)).symm | exact decide_eq_decide.2 (by unfold BareP; grind)
         ·
          refine Lx.gT rfl rfl rfl <| Lx.y (fa' fo25_5 rfl) rfl <| Lx.gT rfl rfl rfl <| Lx.y (ld U23 rfl rfl rfl) rfl <| Lx.gT rfl rfl rfl <| Lx.y (lenV (ty' := 0) U23 rfl) rfl <| Lx.gT rfl rfl rfl <| Lx.y (eqI rfl rfl) rfl <| Lx.gT rfl rfl rfl <| Lx.y (pickF rfl rfl) rfl <| Lx.y (pickT rfl rfl) rfl <| Lx.y (asg rfl) rfl <| ?_
          refine Lx.nil ?_
          refine Xx.tn (k4 _ _ _ _ ?_)
          refine Cx.ret ?_
          refine Xx.dropB b1 (Xx.rB1 rfl rfl ⟨congrArg Value.bool ?_, rfl⟩ (Frag.le_refl _) rfl)
          first | exact (decide_eq_false (by unfold BareP; grind)).symm | exact (decide_eq_true (by unfold BareP; grind)).symm | exact decide_eq_decide.2 (by unfold BareP; grind)
        ·
         refine Lx.gT rfl rfl rfl <| Lx.y (fa' fo25_4 rfl) rfl <| Lx.gT rfl rfl rfl <| Lx.y (ld U22 rfl rfl rfl) rfl <| Lx.gT rfl rfl rfl <| Lx.y (lenV (ty' := 0) U22 rfl) rfl <| Lx.gT rfl rfl rfl <| Lx.y (eqI rfl rfl) rfl <| Lx.gT rfl rfl rfl <| Lx.y (pickF rfl rfl) rfl <| Lx.y (pickT rfl rfl) rfl <| Lx.y (mv rfl) rfl <| ?_
         refine Xx.ifD (t := 56) rfl (fun h44 => ?_) (fun h44 => ?_)
         ·
          refine Lx.gT rfl rfl rfl <| Lx.y (fa' fo25_0 rfl) rfl <| Lx.gT rfl rfl rfl <| Lx.y (ld U3 rfl rfl rfl) rfl <| Lx.gT rfl rfl rfl <| Lx.y (eqI rfl rfl) rfl <| Lx.gT rfl rfl rfl <| Lx.y (mv rfl) rfl <| ?_
          refine Xx.ifD (t := 60) rfl (fun h45 => ?_) (fun h45 => ?_)
          ·
           refine Lx.gF rfl rfl rfl rfl <| Lx.gF rfl rfl rfl rfl <| Lx.gF rfl rfl rfl rfl <| Lx.gF rfl rfl rfl rfl <| Lx.gT rfl rfl rfl <| Lx.y (pickT rfl rfl) rfl <| Lx.y (pickT rfl rfl) rfl <| Lx.y (asg rfl) rfl <| Lx.nil <| ?_
           refine Xx.tn (k4 _ _ _ _ ?_)
           refine Cx.ret ?_
           refine Xx.dropB b1 (Xx.rB1 rfl rfl ⟨congrArg Value.bool ?_, rfl⟩ (Frag.le_refl _) rfl)
           first | exact (decide_eq_false (by unfold BareP; grind)).symm | exact (decide_eq_true (by unfold BareP; grind)).symm | exact decide_eq_decide.2 (by unfold BareP; grind)
          ·
           refine Lx.gT rfl rfl rfl <| Lx.y (fa' fo25_5 rfl) rfl <| Lx.gT rfl rfl rfl <| Lx.y (ld U23 rfl rfl rfl) rfl <| Lx.gT rfl rfl rfl <| Lx.y (lenV (ty' := 0) U23 rfl) rfl <| Lx.gT rfl rfl rfl <| Lx.y (eqI rfl rfl) rfl <| Lx.gT rfl rfl rfl <| Lx.y (pickF rfl rfl) rfl <| Lx.y (pickT rfl rfl) rfl <| Lx.y (asg rfl) rfl <| ?_
           refine Lx.nil ?_
           refine Xx.tn (k4 _ _ _ _ ?_)
           refine Cx.ret ?_
           refine Xx.dropB b1 (Xx.rB1 rfl rfl ⟨congrArg Value.bool ?_, rfl⟩ (Frag.le_refl _) rfl)
           first | exact (decide_eq_false (by unfold BareP; grind)).symm | exact (decide_eq_true (by unfold BareP; grind)).symm | exact decide_eq_decide.2 (by unfold BareP; grind)
         ·
          refine Lx.gF rfl rfl rfl rfl <| Lx.gF rfl rfl rfl rfl <| Lx.gF rfl rfl rfl rfl <| Lx.gF rfl rfl rfl rfl <| Lx.gU rfl rfl rfl rfl <| Lx.gU rfl rfl rfl rfl <| Lx.gU rfl rfl rfl rfl <| Lx.gU rfl rfl rfl rfl <| Lx.gF rfl rfl rfl rfl <| Lx.y (pickF rfl rfl) rfl <| Lx.y (asg rfl) rfl <| Lx.nil <| ?_
          refine Xx.tn (k4 _ _ _ _ ?_)
          refine Cx.ret ?_
          refine Xx.dropB b1 (Xx.rB1 rfl rfl ⟨congrArg Value.bool ?_, rfl⟩ (Frag.le_refl _) rfl)
          first | exact (decide_eq_false (by unfold BareP; grind)).symm | exact (decide_eq_true (by unfold BareP; grind)).symm | exact decide_eq_decide.2 (by unfold BareP; grind)
       ·
        refine Lx.gT rfl rfl rfl <| Lx.y (fa' fo25_3 rfl) rfl <| Lx.gT rfl rfl rfl <| Lx.y (ld U9 rfl rfl rfl) rfl <| Lx.gT rfl rfl rfl <| Lx.y (eqS rfl rfl) rfl <| Lx.gT rfl rfl rfl <| Lx.y (pickF rfl rfl) rfl <| Lx.y (pickT rfl rfl) rfl <| Lx.y (mv rfl) rfl <| ?_
        refine Xx.ifD (t := 47) rfl (fun h46 => ?_) (fun h46 => ?_)
        ·
         refine Lx.gT rfl rfl rfl <| Lx.y (mv rfl) rfl <| Lx.gT rfl rfl rfl <| Lx.y (mv rfl) rfl <| ?_
         refine Xx.ifD (t := 49) rfl (fun h47 => ?_) (fun h47 => ?_)
         ·
          refine Lx.gF rfl rfl rfl rfl <| Lx.gF rfl rfl rfl rfl <| Lx.gF rfl rfl rfl rfl <| Lx.gF rfl rfl rfl rfl <| Lx.gT rfl rfl rfl <| Lx.y (pickT rfl rfl) rfl <| Lx.y (pickT rfl rfl) rfl <| Lx.y (mv rfl) rfl <| Lx.gT rfl rfl rfl <| Lx.y (fa' fo25_0 rfl) rfl <| Lx.gT rfl rfl rfl <| Lx.y (ld U3 rfl rfl rfl) rfl <| ?_
          refine Lx.gT rfl rfl rfl <| Lx.y (eqI rfl rfl) rfl <| Lx.gT rfl rfl rfl <| Lx.y (mv rfl) rfl <| ?_
          refine Xx.ifD (t := 60) rfl (fun h48 => ?_) (fun h48 => ?_)
          ·
           refine Lx.gF rfl rfl rfl rfl <| Lx.gF rfl rfl rfl rfl <| Lx.gF rfl rfl rfl rfl <| Lx.gF rfl rfl rfl rfl <| Lx.gT rfl rfl rfl <| Lx.y (pickT rfl rfl) rfl <| Lx.y (pickT rfl rfl) rfl <| Lx.y (asg rfl) rfl <| Lx.nil <| ?_
           refine Xx.tn (k4 _ _ _ _ ?_)
           refine Cx.ret ?_
           refine Xx.dropB b1 (Xx.rB1 rfl rfl ⟨congrArg Value.bool ?_, rfl⟩ (Frag.le_refl _) rfl)
           first | exact (decide_eq_false (by unfold BareP; grind)).symm | exact (decide_eq_true (by unfold BareP; grind)).symm | exact decide_eq_decide.2 (by unfold BareP; grind)
          ·
           refine Lx.gT rfl rfl rfl <| Lx.y (fa' fo25_5 rfl) rfl <| Lx.gT rfl rfl rfl <| Lx.y (ld U23 rfl rfl rfl) rfl <| Lx.gT rfl rfl rfl <| Lx.y (lenV (ty' := 0) U23 rfl) rfl <| Lx.gT rfl rfl rfl <| Lx.y (eqI rfl rfl) rfl <| Lx.gT rfl rfl rfl <| Lx.y (pickF rfl rfl) rfl <| Lx.y (pickT rfl rfl) rfl <| Lx.y (asg rfl) rfl <| ?_
           refine Lx.nil ?_
           refine Xx.tn (k4 _ _ _ _ ?_)
           refine Cx.ret ?_
           refine Xx.dropB b1 (Xx.rB1 rfl rfl ⟨congrArg Value.bool ?_, rfl⟩ (Frag.le_refl _) rfl)
           first | exact (decide_eq_false (by unfold BareP; grind)).symm | exact (decide_eq_true (by unfold BareP; grind)).symm | exact decide_eq_decide.2 (by unfold BareP; grind)
         ·
          refine Lx.gT rfl rfl rfl <| Lx.y (fa' fo25_4 rfl) rfl <| Lx.gT rfl rfl rfl <| Lx.y (ld U22 rfl rfl rfl) rfl <| Lx.gT rfl rfl rfl <| Lx.y (lenV (ty' := 0) U22 rfl) rfl <| Lx.gT rfl rfl rfl <| Lx.y (eqI rfl rfl) rfl <| Lx.gT rfl rfl rfl <| Lx.y (pickF rfl rfl) rfl <| Lx.y (pickT rfl rfl) rfl <| Lx.y (mv rfl) rfl <| ?_
          refine Xx.ifD (t := 56) rfl (fun h49 => ?_) (fun h49 => ?_)
          ·
           refine Lx.gT rfl rfl rfl <| Lx.y (fa' fo25_0 rfl) rfl <| Lx.gT rfl rfl rfl <| Lx.y (ld U3 rfl rfl rfl) rfl <| Lx.gT rfl rfl rfl <| Lx.y (eqI rfl rfl) rfl <| Lx.gT rfl rfl rfl <| Lx.y (mv rfl) rfl <| ?_
           refine Xx.ifD (t := 60) rfl (fun h50 => ?_) (fun h50 => ?_)
           ·
            refine Lx.gF rfl rfl rfl rfl <| Lx.gF rfl rfl rfl rfl <| Lx.gF rfl rfl rfl rfl <| Lx.gF rfl rfl rfl rfl <| Lx.gT rfl rfl rfl <| Lx.y (pickT rfl rfl) rfl <| Lx.y (pickT rfl rfl) rfl <| Lx.y (asg rfl) rfl <| Lx.nil <| ?_
            refine Xx.tn (k4 _ _ _ _ ?_)
            refine Cx.ret ?_
            refine Xx.dropB b1 (Xx.rB1 rfl rfl ⟨congrArg Value.bool ?_, rfl⟩ (Frag.le_refl _) rfl)
            first | exact (decide_eq_false (by unfold BareP; grind)).symm | exact (decide_eq_true (by unfold BareP; grind)).symm | exact decide_eq_decide.2 (by unfold BareP; grind)
           ·
            refine Lx.gT rfl rfl rfl <| Lx.y (fa' fo25_5 rfl) rfl <| Lx.gT rfl rfl rfl <| Lx.y (ld U23 rfl rfl rfl) rfl <| Lx.gT rfl rfl rfl <| Lx.y (lenV (ty' := 0) U23 rfl) rfl <| Lx.gT rfl rfl rfl <| Lx.y (eqI rfl rfl) rfl <| Lx.gT rfl rfl rfl <| Lx.y (pickF rfl rfl) rfl <| Lx.y (pickT rfl rfl) rfl <| Lx.y (asg rfl) rfl <| ?_
            refine Lx.nil ?_
            refine Xx.tn (k4 _ _ _ _ ?_)
            refine Cx.ret ?_
            refine Xx.dropB b1 (Xx.rB1 rfl rfl ⟨congrArg Value.bool ?_, rfl⟩ (Frag.le_refl _) rfl)
            first | exact (decide_eq_false (by unfold BareP; grind)).symm | exact (decide_eq_true (by unfold BareP; grind)).symm | exact decide_eq_decide.2 (by unfold BareP; grind)
          ·
           refine Lx.gF rfl rfl rfl rfl <| Lx.gF rfl rfl rfl rfl <| Lx.gF rfl rfl rfl rfl <| Lx.gF rfl rfl rfl rfl <| Lx.gU rfl rfl rfl rfl <| Lx.gU rfl rfl rfl rfl <| Lx.gU rfl rfl rfl rfl <| Lx.gU rfl rfl rfl rfl <| Lx.gF rfl rfl rfl rfl <| Lx.y (pickF rfl rfl) rfl <| Lx.y (asg rfl) rfl <| Lx.nil <| ?_
           refine Xx.tn (k4 _ _ _ _ ?_)
           refine Cx.ret ?_
           refine Xx.dropB b1 (Xx.rB1 rfl rfl ⟨congrArg Value.bool ?_, rfl⟩ (Frag.le_refl _) rfl)
           first | exact (decide_eq_false (by unfold BareP; grind)).symm | exact (decide_eq_true (by unfold BareP; grind)).symm | exact decide_eq_decide.2 (by unfold BareP; grind)
        ·
         refine Lx.gF rfl rfl rfl rfl <| Lx.gF rfl rfl rfl rfl <| Lx.gU rfl rfl rfl rfl <| Lx.gU rfl rfl rfl rfl <| Lx.gU rfl rfl rfl rfl <| Lx.gU rfl rfl rfl rfl <| Lx.gF rfl rfl rfl rfl <| Lx.y (pickF rfl rfl) rfl <| Lx.y (mv rfl) rfl <| Lx.gF rfl rfl rfl rfl <| Lx.gF rfl rfl rfl rfl <| Lx.gF rfl rfl rfl rfl <| ?_
         refine Lx.gF rfl rfl rfl rfl <| Lx.gU rfl rfl rfl rfl <| Lx.gU rfl rfl rfl rfl <| Lx.gU rfl rfl rfl rfl <| Lx.gU rfl rfl rfl rfl <| Lx.gF rfl rfl rfl rfl <| Lx.y (pickF rfl rfl) rfl <| Lx.y (asg rfl) rfl <| Lx.nil <| ?_
         refine Xx.tn (k4 _ _ _ _ ?_)
         refine Cx.ret ?_
         refine Xx.dropB b1 (Xx.rB1 rfl rfl ⟨congrArg Value.bool ?_, rfl⟩ (Frag.le_refl _) rfl)
         first | exact (decide_eq_false (by unfold BareP; grind)).symm | exact (decide_eq_true (by unfold BareP; grind)).symm | exact decide_eq_decide.2 (by unfold BareP; grind)
      ·
       refine Lx.gF rfl rfl rfl rfl <| Lx.gF rfl rfl rfl rfl <| Lx.gU rfl rfl rfl rfl <| Lx.gU rfl rfl rfl rfl <| Lx.gU rfl rfl rfl rfl <| Lx.gF rfl rfl rfl rfl <| Lx.y (pickF rfl rfl) rfl <| Lx.y (mv rfl) rfl <| Lx.gF rfl rfl rfl rfl <| Lx.gF rfl rfl rfl rfl <| Lx.gU rfl rfl rfl rfl <| Lx.gU rfl rfl rfl rfl <| ?_
       refine Lx.gU rfl rfl rfl rfl <| Lx.gU rfl rfl rfl rfl <| Lx.gF rfl rfl rfl rfl <| Lx.y (pickF rfl rfl) rfl <| Lx.y (mv rfl) rfl <| Lx.gF rfl rfl rfl rfl <| Lx.gF rfl rfl rfl rfl <| Lx.gF rfl rfl rfl rfl <| Lx.gF rfl rfl rfl rfl <| Lx.gU rfl rfl rfl rfl <| Lx.gU rfl rfl rfl rfl <| Lx.gU rfl rfl rfl rfl <| ?_
       refine Lx.gU rfl rfl rfl rfl <| Lx.gF rfl rfl rfl rfl <| Lx.y (pickF rfl rfl) rfl <| Lx.y (asg rfl) rfl <| Lx.nil <| ?_
       refine Xx.tn (k4 _ _ _ _ ?_)
       refine Cx.ret ?_
       refine Xx.dropB b1 (Xx.rB1 rfl rfl ⟨congrArg Value.bool ?_, rfl⟩ (Frag.le_refl _) rfl)
       first | exact (decide_eq_false (by unfold BareP; grind)).symm | exact (decide_eq_true (by unfold BareP; grind)).symm | exact decide_eq_decide.2 (by unfold BareP; grind)
    ·
     refine Lx.gF rfl rfl rfl rfl <| Lx.gF rfl rfl rfl rfl <| Lx.gF rfl rfl rfl rfl <| Lx.gF rfl rfl rfl rfl <| Lx.gU rfl rfl rfl rfl <| Lx.gU rfl rfl rfl rfl <| Lx.gU rfl rfl rfl rfl <| Lx.gF rfl rfl rfl rfl <| Lx.y (pickF rfl rfl) rfl <| Lx.y (mv rfl) rfl <| Lx.gF rfl rfl rfl rfl <| Lx.gF rfl rfl rfl rfl <| ?_
     refine Lx.gU rfl rfl rfl rfl <| Lx.gU rfl rfl rfl rfl <| Lx.gU rfl rfl rfl rfl <| Lx.gF rfl rfl rfl rfl <| Lx.y (pickF rfl rfl) rfl <| Lx.y (mv rfl) rfl <| Lx.gF rfl rfl rfl rfl <| Lx.gF rfl rfl rfl rfl <| Lx.gU rfl rfl rfl rfl <| Lx.gU rfl rfl rfl rfl <| Lx.gU rfl rfl rfl rfl <| Lx.gU rfl rfl rfl rfl <| ?_
     refine Lx.gF rfl rfl rfl rfl <| Lx.y (pickF rfl rfl) rfl <| Lx.y (mv rfl) rfl <| Lx.gF rfl rfl rfl rfl <| Lx.gF rfl rfl rfl rfl <| Lx.gF rfl rfl rfl rfl <| Lx.gF rfl rfl rfl rfl <| Lx.gU rfl rfl rfl rfl <| Lx.gU rfl rfl rfl rfl <| Lx.gU rfl rfl rfl rfl <| Lx.gU rfl rfl rfl rfl <| Lx.gF rfl rfl rfl rfl <| ?_
     refine Lx.y (pickF rfl rfl) rfl <| Lx.y (asg rfl) rfl <| Lx.nil <| ?_
     refine Xx.tn (k4 _ _ _ _ ?_)
     refine Cx.ret ?_
     refine Xx.dropB b1 (Xx.rB1 rfl rfl ⟨congrArg Value.bool ?_, rfl⟩ (Frag.le_refl _) rfl)
     first | exact (decide_eq_false (by unfold BareP; grind)).symm | exact (decide_eq_true (by unfold BareP; grind)).symm | exact decide_eq_decide.2 (by unfold BareP; grind)
end Ke6
end Go.Proofs.YtdidpocakipinaaGreatDoor
namespace Go.Proofs.YtdidpocakipinaaGreatDoor
open Go.SL Go.RowKit
set_option maxRecDepth 100000
open Ke1 Ke3 Ke4 Ke5 Ke6
namespace Ke7
theorem sz9 : (Tryz.prog.info? 9).map (·.size) = some 1 := by kernel_rfl
theorem fo25_0 : FO Tryz.prog 25 0 0 1 false := FO.of U25 rfl rfl (by kernel_rfl) U3 rfl rfl
theorem fo25_4 : FO Tryz.prog 25 4 4 1 false := FO.of U25 rfl rfl (by kernel_rfl) U22 rfl rfl
theorem fo25_5 : FO Tryz.prog 25 5 5 1 false := FO.of U25 rfl rfl (by kernel_rfl) U23 rfl rfl
theorem get_map {xs : List (List UInt8)} {i : Nat} (h : i < xs.length) : (xs.map str)[i]? = some (str (xs.getD i [])) := by
  simp [List.getD, h]
theorem get_mem {xs : List (List UInt8)} {i : Nat} (h : i < xs.length) : xs.getD i [] ∈ xs := by
  have : xs.getD i [] = xs[i] := by simp [List.getD, h]
  rw [this]; exact List.getElem_mem h
def nOk (ns : List (List UInt8)) (i : Nat) : Prop := NameP (ns.getD i []) ∧ (0 < i → bless (ns.getD (i - 1) []) (ns.getD i []) = true)
def NamesP (v : V) : Prop := (∀ i, i < v.names.length → nOk v.names i) ∧ (v.kind = 6 → v.names.length = v.parts.length)
noncomputable def namesB (v : V) : Bool := @decide (NamesP v) (Classical.propDecidable _)
theorem namesB_yes {v : V} (h : NamesP v) : namesB v = true := by unfold namesB; exact @decide_eq_true _ (Classical.propDecidable _) h
theorem namesB_no {v : V} (h : ¬ NamesP v) : namesB v = false := by unfold namesB; exact @decide_eq_false _ (Classical.propDecidable _) h
theorem nameB_iff {s : List UInt8} : nameB s = true ↔ NameP s := by
  unfold nameB; exact @decide_eq_true_iff _ (Classical.propDecidable _)
theorem namesB_len {v : V} (h : ∀ i, i < v.names.length → nOk v.names i) : decide (((v.names.length : Nat) : Int) = ((v.parts.length : Nat) : Int)) = true ∨ v.kind ≠ 6 → namesB v = true := by
  intro h1
  refine namesB_yes ⟨h, fun h2 => ?_⟩
  rcases h1 with h1 | h1
  · have := of_decide_eq_true h1; omega
  · exact absurd h2 h1
theorem namesB_six {v : V} (h : ∀ i, i < v.names.length → nOk v.names i) (hk : v.kind = 6) : decide (((v.names.length : Nat) : Int) = ((v.parts.length : Nat) : Int)) = namesB v := by
  by_cases e : v.names.length = v.parts.length
  · rw [namesB_yes ⟨h, fun _ => e⟩, decide_eq_true (by omega)]
  · rw [namesB_no (fun z => e (z.2 hk)), decide_eq_false (by omega)]
set_option maxHeartbeats 1000000 in
theorem names_ct (v : V) (Ap : Option Addr) (cp : Nat) (An : Option Addr) (cn : Nat) (B : Frag) (hro : RoE B An v.names.length (v.names.map str)) (hsz : ∀ x ∈ v.names, x.length ≤ 4611686018427387904) (hln : v.names.length ≤ 4611686018427387904) : CtP Tryz.prog 54 [.agg (vcs v Ap cp An cn).toArray] B (.bool (namesB v)) := by
 refine CtB.of_body Tryz.func54 rfl (nt := 43) rfl (by kernel_rfl) rfl ?_
 intro N0 w0 R
 refine Cx.seq (fun K1 k1 => ?_)
 refine Cx.region ?_
 refine Lx.new (boxA rfl) rfl (fun b1 => ?_)
 refine Lx.y (asg rfl) rfl <| Lx.nil <| ?_
 refine Xx.tn (k1 _ _ _ _ ?_)
 refine Cx.seq (fun K2 k2 => ?_)
 refine Cx.seq (fun K3 k3 => ?_)
 refine Cx.region <| Lx.y (fa' fo25_5 rfl) rfl <| Lx.y (ld U23 rfl rfl rfl) rfl <| Lx.y (lenV (ty' := 0) U23 rfl) rfl <| Lx.y (mv rfl) rfl <| Lx.nil <| ?_
 refine Xx.tn (k3 _ _ _ _ ?_)
 refine Cx.block ?_
 refine Cx.loopK (Sc 0 rfl (Sc 1 rfl (Sc 5 rfl (Sc 6 rfl (Sc 7 rfl (Sub.nil _)))))) (fun m ρ' B' H' => ∃ (i : Nat), (i ≤ v.names.length ∧ ∀ k, k < i → nOk v.names k) ∧ m = v.names.length - i ∧ ρ' = [(8, i64 i)] ∧ B = B' ∧ row b1 25 (vcs v Ap cp An cn) * R = H') ⟨0, ⟨by omega, fun k h => absurd h (by omega)⟩, rfl, rfl, rfl, rfl⟩ (Sc 8 rfl (Sc 0 rfl (Sc 1 rfl (Sc 5 rfl (Sc 6 rfl (Sc 7 rfl (Sub.nil _))))))) ?_
 rintro m ρ' B' H' ⟨i, ⟨hi, hall⟩, rfl, rfl, rfl, rfl⟩
 refine Cx.seq (fun K4 k4 => ?_)
 refine Cx.region <| Lx.y (lss rfl rfl) rfl <| Lx.nil <| ?_
 refine Xx.tn (k4 _ _ _ _ ?_)
 refine Cx.seq (fun K5 k5 => ?_)
 refine Cx.condD rfl (fun h6 => ?_) (fun h6 => ?_)
 ·
  refine Cx.skip ?_
  refine Xx.tn (k5 _ _ _ _ ?_)
  refine Cx.seq (fun K7 k7 => ?_)
  refine Cx.block ?_
  refine Cx.seq (fun K8 k8 => ?_)
  have hil : i < v.names.length := by omega
  obtain ⟨bq, oq, cq, eq, fq, rfl, hBq, hcq⟩ := hro.at1 (k := i) hil
  rw [get_map hil] at hcq
  refine Cx.region <| Lx.y (mv rfl) rfl <| Lx.y (ia U23 sz9 rfl rfl (by first | exact Int.toNat_natCast _ | rfl) (by omega) (by omega)) rfl <| Lx.y (ldB U9 rfl rfl hBq hcq) rfl <| Lx.y (asg rfl) rfl <| Lx.y (asg rfl) rfl <| Lx.nil <| ?_
  refine Xx.tn (k8 _ _ _ _ ?_)
  refine Cx.seq (fun K9 k9 => ?_)
  refine Cx.region <| Lx.y (mv rfl) rfl <| ?_
  refine Lx.cp rfl rfl rfl (Name_ct _ _ (hsz _ (get_mem hil))) rfl ?_
  refine Lx.y (not' rfl) rfl <| Lx.y (mv rfl) rfl <| ?_
  refine Xx.ifB (t := 16) rfl (fun h10 => ?_) (fun h10 => ?_)
  ·
   have hno : ¬ nOk v.names i := fun z => by have := nameB_iff.2 z.1; rw [this] at h10; cases h10
   refine Lx.gF rfl rfl rfl rfl <| Lx.gF rfl rfl rfl rfl <| Lx.gF rfl rfl rfl rfl <| Lx.gU rfl rfl rfl rfl <| Lx.gU rfl rfl rfl rfl <| Lx.gU rfl rfl rfl rfl <| Lx.gU rfl rfl rfl rfl <| Lx.gU rfl rfl rfl rfl <| Lx.gU rfl rfl rfl rfl <| Lx.gU rfl rfl rfl rfl <| Lx.gU rfl rfl rfl rfl <| Lx.gF rfl rfl rfl rfl <| ?_
   refine Lx.y (pickT rfl rfl) rfl <| Lx.nil <| ?_
   refine Xx.tn (k9 _ _ _ _ ?_)
   refine Cx.condT rfl ?_
   refine Cx.seq (fun K11 k11 => ?_)
   refine Cx.region <| Lx.y (asg rfl) rfl <| Lx.nil <| ?_
   refine Xx.tn (k11 _ _ _ _ ?_)
   refine Cx.ret ?_
   refine Xx.br ?_
   refine Xx.tr <| Xx.tr <| ?_
   refine Xx.br ?_
   refine Xx.tr ?_
   first | exact Xx.dropB b1 (Xx.rB1 rfl rfl ⟨congrArg Value.bool (namesB_no (fun z => hno (z.1 i hil))).symm, rfl⟩ (Frag.le_refl _) rfl) | exact Xx.dropB b1 (Xx.rB1 rfl rfl ⟨congrArg Value.bool (namesB_len hall (.inr hk)).symm, rfl⟩ (Frag.le_refl _) rfl) | exact Xx.dropB b1 (Xx.rB1 rfl rfl ⟨congrArg Value.bool (namesB_six hall hk), rfl⟩ (Frag.le_refl _) rfl)
  ·
   have hnm : NameP (v.names.getD i []) := nameB_iff.1 ((Bool.not_eq_false' _).mp h10)
   refine Lx.gT rfl rfl rfl <| Lx.y (mv rfl) rfl <| Lx.gT rfl rfl rfl <| Lx.y (gtr rfl rfl) rfl <| Lx.gT rfl rfl rfl <| Lx.y (mv rfl) rfl <| ?_
   refine Xx.ifD (t := 19) rfl (fun h12 => ?_) (fun h12 => ?_)
   ·
    obtain ⟨bq2, oq2, cq2, eq2, fq2, hA2, hBq2, hcq2⟩ := hro.at1 (k := i - 1) (by omega)
    rw [get_map (by omega)] at hcq2
    injection hA2 with hA2
    injection hA2 with hA3 hA4
    subst hA3 hA4
    refine Lx.gT rfl rfl rfl <| Lx.y (fa' fo25_5 rfl) rfl <| Lx.gT rfl rfl rfl <| Lx.y (ld U23 rfl rfl rfl) rfl <| Lx.gT rfl rfl rfl <| Lx.y (mv rfl) rfl <| Lx.gT rfl rfl rfl <| Lx.y (sub rfl rfl (show IntKind.i64.wrap _ = ((i - 1 : Nat) : Int) by rw [wrap64 (by omega) (by omega)]; omega)) rfl <| Lx.gT rfl rfl rfl <| Lx.y (ia U23 sz9 rfl rfl (by first | exact Int.toNat_natCast _ | rfl) (by omega) (by omega)) rfl <| Lx.gT rfl rfl rfl <| Lx.y (ldB U9 rfl rfl hBq2 hcq2) rfl <| ?_
    refine Lx.gT rfl rfl rfl <| Lx.y (mv rfl) rfl <| Lx.gT rfl rfl rfl <| Lx.y (geqS rfl rfl) rfl <| Lx.gT rfl rfl rfl <| Lx.y (pickT rfl rfl) rfl <| Lx.y (pickF rfl rfl) rfl <| Lx.nil <| ?_
    refine Xx.tn (k9 _ _ _ _ ?_)
    refine Cx.condB rfl (fun h13 => ?_) (fun h13 => ?_)
    ·
     have hno : ¬ nOk v.names i := fun z => by have := z.2 (by omega); rw [this] at h13; cases h13
     refine Cx.seq (fun K14 k14 => ?_)
     refine Cx.region <| Lx.y (asg rfl) rfl <| Lx.nil <| ?_
     refine Xx.tn (k14 _ _ _ _ ?_)
     refine Cx.ret ?_
     refine Xx.br ?_
     refine Xx.tr <| Xx.tr <| ?_
     refine Xx.br ?_
     refine Xx.tr ?_
     first | exact Xx.dropB b1 (Xx.rB1 rfl rfl ⟨congrArg Value.bool (namesB_no (fun z => hno (z.1 i hil))).symm, rfl⟩ (Frag.le_refl _) rfl) | exact Xx.dropB b1 (Xx.rB1 rfl rfl ⟨congrArg Value.bool (namesB_len hall (.inr hk)).symm, rfl⟩ (Frag.le_refl _) rfl) | exact Xx.dropB b1 (Xx.rB1 rfl rfl ⟨congrArg Value.bool (namesB_six hall hk), rfl⟩ (Frag.le_refl _) rfl)
    ·
     have hok : nOk v.names i := ⟨hnm, fun _ => (Bool.not_eq_false' _).mp h13⟩
     refine Cx.skip <| Xx.bn <| ?_
     refine Xx.tn (k7 _ _ _ _ ?_)
     refine Cx.region <| Lx.y (add rfl rfl (by first | exact wrap64 (by omega) (by omega) | rfl)) rfl <| Lx.y (mv rfl) rfl <| Lx.nil <| ?_
     exact Xx.againK ⟨i + 1, ⟨by omega, fun k hk => by
 by_cases e : k = i
 ·subst e; exact hok
 ·exact hall k (by omega)⟩, rfl, rfl, rfl, rfl⟩ (by omega) (Sc 8 rfl (Sc 0 rfl (Sc 1 rfl (Sc 5 rfl (Sc 6 rfl (Sc 7 rfl (Sub.nil _)))))))
   ·
    have hok : nOk v.names i := ⟨hnm, fun z => absurd z (by omega)⟩
    refine Lx.gF rfl rfl rfl rfl <| Lx.gF rfl rfl rfl rfl <| Lx.gF rfl rfl rfl rfl <| Lx.gF rfl rfl rfl rfl <| Lx.gF rfl rfl rfl rfl <| Lx.gF rfl rfl rfl rfl <| Lx.gF rfl rfl rfl rfl <| Lx.gF rfl rfl rfl rfl <| Lx.gT rfl rfl rfl <| Lx.y (pickF rfl rfl) rfl <| Lx.y (pickF rfl rfl) rfl <| Lx.nil <| ?_
    refine Xx.tn (k9 _ _ _ _ ?_)
    refine Cx.condF rfl <| Cx.skip <| Xx.bn <| ?_
    refine Xx.tn (k7 _ _ _ _ ?_)
    refine Cx.region <| Lx.y (add rfl rfl (by first | exact wrap64 (by omega) (by omega) | rfl)) rfl <| Lx.y (mv rfl) rfl <| Lx.nil <| ?_
    exact Xx.againK ⟨i + 1, ⟨by omega, fun k hk => by
 by_cases e : k = i
 ·subst e; exact hok
 ·exact hall k (by omega)⟩, rfl, rfl, rfl, rfl⟩ (by omega) (Sc 8 rfl (Sc 0 rfl (Sc 1 rfl (Sc 5 rfl (Sc 6 rfl (Sc 7 rfl (Sub.nil _)))))))
 ·
  obtain rfl : i = v.names.length := by omega
  refine Cx.exit <| Xx.te <| Xx.te <| Xx.bh <| ?_
  refine Xx.tn (k2 _ _ _ _ ?_)
  refine Cx.seq (fun K15 k15 => ?_)
  refine Cx.region <| Lx.y (fa' fo25_0 rfl) rfl <| Lx.y (ld U3 rfl rfl rfl) rfl <| Lx.y (neI rfl rfl) rfl <| Lx.y (mv rfl) rfl <| ?_
  refine Xx.ifN (t := 34) rfl (fun h16 => ?_) (fun h16 => ?_)
  ·
   have hk := h16
   refine Lx.gF rfl rfl rfl rfl <| Lx.gF rfl rfl rfl rfl <| Lx.gF rfl rfl rfl rfl <| Lx.gF rfl rfl rfl rfl <| Lx.gF rfl rfl rfl rfl <| Lx.gF rfl rfl rfl rfl <| Lx.gF rfl rfl rfl rfl <| Lx.y (pickT rfl rfl) rfl <| Lx.y (asg rfl) rfl <| Lx.nil <| ?_
   refine Xx.tn (k15 _ _ _ _ ?_)
   refine Cx.ret ?_
   first | exact Xx.dropB b1 (Xx.rB1 rfl rfl ⟨congrArg Value.bool (namesB_no (fun z => hno (z.1 i hil))).symm, rfl⟩ (Frag.le_refl _) rfl) | exact Xx.dropB b1 (Xx.rB1 rfl rfl ⟨congrArg Value.bool (namesB_len hall (.inr hk)).symm, rfl⟩ (Frag.le_refl _) rfl) | exact Xx.dropB b1 (Xx.rB1 rfl rfl ⟨congrArg Value.bool (namesB_six hall hk), rfl⟩ (Frag.le_refl _) rfl)
  ·
   have hk := h16
   refine Lx.gT rfl rfl rfl <| Lx.y (fa' fo25_5 rfl) rfl <| Lx.gT rfl rfl rfl <| Lx.y (ld U23 rfl rfl rfl) rfl <| Lx.gT rfl rfl rfl <| Lx.y (lenV (ty' := 0) U23 rfl) rfl <| Lx.gT rfl rfl rfl <| Lx.y (fa' fo25_4 rfl) rfl <| Lx.gT rfl rfl rfl <| Lx.y (ld U22 rfl rfl rfl) rfl <| Lx.gT rfl rfl rfl <| Lx.y (lenV (ty' := 0) U22 rfl) rfl <| ?_
   refine Lx.gT rfl rfl rfl <| Lx.y (eqI rfl rfl) rfl <| Lx.y (pickF rfl rfl) rfl <| Lx.y (asg rfl) rfl <| Lx.nil <| ?_
   refine Xx.tn (k15 _ _ _ _ ?_)
   refine Cx.ret ?_
   first | exact Xx.dropB b1 (Xx.rB1 rfl rfl ⟨congrArg Value.bool (namesB_no (fun z => hno (z.1 i hil))).symm, rfl⟩ (Frag.le_refl _) rfl) | exact Xx.dropB b1 (Xx.rB1 rfl rfl ⟨congrArg Value.bool (namesB_len hall (.inr hk)).symm, rfl⟩ (Frag.le_refl _) rfl) | exact Xx.dropB b1 (Xx.rB1 rfl rfl ⟨congrArg Value.bool (namesB_six hall hk), rfl⟩ (Frag.le_refl _) rfl)
end Ke7
end Go.Proofs.YtdidpocakipinaaGreatDoor
namespace Go.Proofs.YtdidpocakipinaaGreatDoor
open Go.SL Go.RowKit
set_option maxRecDepth 100000
open Ke1 Ke3 Ke4 Ke5 Ke6 Ke7
namespace Ke8
theorem sz25 : (Tryz.prog.info? 25).map (·.size) = some 6 := by kernel_rfl
theorem ti25 : TI Tryz.prog 25 [.int .i64 0, .bool false, .int .i64 0, str [], .slice none 0 0, .slice none 0 0] 6 88 := TI.of (by kernel_rfl) rfl rfl
theorem fo25_0 : FO Tryz.prog 25 0 0 1 false := FO.of U25 rfl rfl (by kernel_rfl) U3 rfl rfl
theorem fo25_4 : FO Tryz.prog 25 4 4 1 false := FO.of U25 rfl rfl (by kernel_rfl) U22 rfl rfl
def firstE : List Int → Int
  | [] => 0
  | e :: l => if e = 0 then firstE l else e
theorem firstE_zero {l : List Int} (h : ∀ e ∈ l, e = 0) : firstE l = 0 := by
  induction l with
  | nil => rfl
  | cons e l ih => unfold firstE; rw [if_pos (h e (by simp))]; exact ih fun x hx => h x (by simp [hx])
theorem firstE_at {l : List Int} {i : Nat} (hi : i < l.length) (h : ∀ k (hk : k < l.length), k < i → l[k] = 0) (hn : l[i] ≠ 0) : firstE l = l[i] := by
  induction l generalizing i with
  | nil => simp at hi
  | cons e l ih =>
    cases i with
    | zero => unfold firstE; rw [if_neg (by simpa using hn)]; rfl
    | succ i =>
      have h0 : e = 0 := h 0 (by simp) (by omega)
      unfold firstE
      rw [if_pos h0]
      exact ih (by simpa using hi) (fun k hk hki => h (k + 1) (by simpa using hk) (by omega)) (by simpa using hn)
noncomputable def checkF : Nat → V → Int → Int
  | 0, _, _ => 0
  | d + 1, v, deep => if 8 < deep then 30 else if v.kind < 0 ∨ 6 < v.kind ∨ ¬ BareP v then 6 else if 32 < v.parts.length then 3 else if namesB v = false then 31 else firstE (v.parts.map fun p => checkF d p (deep + 1))
theorem chk1 {d : Nat} {v : V} {deep : Int} (h : 8 < deep) : checkF (d + 1) v deep = 30 := by unfold checkF; rw [if_pos h]
theorem chk2 {d : Nat} {v : V} {deep : Int} (h : ¬ 8 < deep) (h2 : v.kind < 0 ∨ 6 < v.kind ∨ ¬ BareP v) : checkF (d + 1) v deep = 6 := by unfold checkF; rw [if_neg h, if_pos h2]
theorem chk3 {d : Nat} {v : V} {deep : Int} (h : ¬ 8 < deep) (h2 : ¬ (v.kind < 0 ∨ 6 < v.kind ∨ ¬ BareP v)) (h3 : 32 < v.parts.length) : checkF (d + 1) v deep = 3 := by unfold checkF; rw [if_neg h, if_neg h2, if_pos h3]
theorem chk4 {d : Nat} {v : V} {deep : Int} (h : ¬ 8 < deep) (h2 : ¬ (v.kind < 0 ∨ 6 < v.kind ∨ ¬ BareP v)) (h3 : ¬ 32 < v.parts.length) (h4 : namesB v = false) : checkF (d + 1) v deep = 31 := by unfold checkF; rw [if_neg h, if_neg h2, if_neg h3, if_pos h4]
theorem chk5 {d : Nat} {v : V} {deep : Int} (h : ¬ 8 < deep) (h2 : ¬ (v.kind < 0 ∨ 6 < v.kind ∨ ¬ BareP v)) (h3 : ¬ 32 < v.parts.length) (h4 : namesB v = true) {i : Nat} (hi : i < v.parts.length)
    (ha : ∀ k (hk : k < v.parts.length), k < i → checkF d v.parts[k] (deep + 1) = 0) (hn : ¬ checkF d v.parts[i] (deep + 1) = 0) : checkF (d + 1) v deep = checkF d v.parts[i] (deep + 1) := by
  conv => lhs; unfold checkF
  rw [if_neg h, if_neg h2, if_neg h3, if_neg (by rw [h4]; decide)]
  have := firstE_at (l := v.parts.map fun p => checkF d p (deep + 1)) (i := i) (by simpa using hi) (fun k hk hki => by simpa using ha k (by simpa using hk) hki) (by simpa using hn)
  rw [this]; simp
theorem chk6 {d : Nat} {v : V} {deep : Int} (h : ¬ 8 < deep) (h2 : ¬ (v.kind < 0 ∨ 6 < v.kind ∨ ¬ BareP v)) (h3 : ¬ 32 < v.parts.length) (h4 : namesB v = true)
    (ha : ∀ k (hk : k < v.parts.length), checkF d v.parts[k] (deep + 1) = 0) : checkF (d + 1) v deep = 0 := by
  unfold checkF
  rw [if_neg h, if_neg h2, if_neg h3, if_neg (by rw [h4]; decide)]
  apply firstE_zero
  intro e he
  obtain ⟨p, hp, rfl⟩ := List.mem_map.1 he
  obtain ⟨k, hk, rfl⟩ := List.mem_iff_getElem.1 hp
  exact ha k hk
theorem ValR.shape {B : Frag} {d : Nat} {v : V} {cs : List Value} (h : ValR B d v cs) : ∃ Ap cp An cn, cs = vcs v Ap cp An cn := by
  cases d with
  | zero => exact h.elim
  | succ d => obtain ⟨Ap, cp, An, cn, h1, _⟩ := h; exact ⟨Ap, cp, An, cn, h1⟩
set_option maxHeartbeats 1000000 in
theorem check_step (d : Nat) (ih : ∀ (v : V) (cs : List Value) (deep : Int) (B : Frag), ValR B d v cs → 0 ≤ deep → deep ≤ 100 → CtP Tryz.prog 32 [.agg cs.toArray, i64 deep] B (i64 (checkF d v deep))) (v : V) (cs : List Value) (deep : Int) (B : Frag) (h : ValR B (d + 1) v cs) (h0 : 0 ≤ deep) (h1 : deep ≤ 100) : CtP Tryz.prog 32 [.agg cs.toArray, i64 deep] B (i64 (checkF (d + 1) v deep)) := by
 obtain ⟨Ap, cp, An, cn, rfl, hsl, hpl, hnl, hns, hnx, hps⟩ := h
 refine CtB.of_body Tryz.func32 rfl (nt := 49) rfl (by kernel_rfl) rfl ?_
 intro N0 w0 R
 refine Cx.seq (fun K1 k1 => ?_)
 refine Cx.region ?_
 refine Lx.new (boxA rfl) rfl (fun b2 => ?_)
 refine Lx.y (asg rfl) rfl <| Lx.nil <| ?_
 refine Xx.tn (k1 _ _ _ _ ?_)
 refine Cx.seq (fun K2 k2 => ?_)
 refine Cx.block ?_
 refine Cx.seq (fun K3 k3 => ?_)
 refine Cx.region <| Lx.y (mv rfl) rfl <| Lx.y (gtr rfl rfl) rfl <| Lx.y (asg rfl) rfl <| Lx.nil <| ?_
 refine Xx.tn (k3 _ _ _ _ ?_)
 refine Cx.condD rfl (fun h4 => ?_) (fun h4 => ?_)
 ·
  have z1 := h4
  refine Cx.seq (fun K5 k5 => ?_)
  refine Cx.region <| Lx.y (asg rfl) rfl <| Lx.nil <| ?_
  refine Xx.tn (k5 _ _ _ _ ?_)
  refine Cx.ret ?_
  refine Xx.br ?_
  refine Xx.tr ?_
  first | exact Xx.dropB b2 (Xx.rB1 rfl rfl ⟨congrArg (fun z : Int => i64 z) (chk1 (by omega)).symm, rfl⟩ (Frag.le_refl _) rfl) | exact Xx.dropB b2 (Xx.rB1 rfl rfl ⟨congrArg (fun z : Int => i64 z) (chk2 (by omega) (by first | (left; omega) | (right; left; omega) | (right; right; exact of_decide_eq_false ((Bool.not_eq_true' _).mp z2)))).symm, rfl⟩ (Frag.le_refl _) rfl) | exact Xx.dropB b2 (Xx.rB1 rfl rfl ⟨congrArg (fun z : Int => i64 z) (chk3 (by omega) hb (by omega)).symm, rfl⟩ (Frag.le_refl _) rfl) | exact Xx.dropB b2 (Xx.rB1 rfl rfl ⟨congrArg (fun z : Int => i64 z) (chk4 (by omega) hb (by omega) ((Bool.not_eq_true' _).mp z4)).symm, rfl⟩ (Frag.le_refl _) rfl) | (refine Xx.dropB b6 ?_; exact Xx.dropB b2 (Xx.rB1 rfl rfl ⟨congrArg (fun z : Int => i64 z) (chk5 (by omega) hb (by omega) ((Bool.not_eq_false' _).mp z4) hil hall hze).symm, rfl⟩ (Frag.le_refl _) rfl)) | exact Xx.dropB b2 (Xx.rB1 rfl rfl ⟨congrArg (fun z : Int => i64 z) (chk6 (by omega) hb (by omega) ((Bool.not_eq_false' _).mp z4) (fun k hk => hall k hk (by omega))).symm, rfl⟩ (Frag.le_refl _) rfl)
 ·
  have z1 := h4
  refine Cx.seq (fun K6 k6 => ?_)
  refine Cx.region <| Lx.y (fa' fo25_0 rfl) rfl <| Lx.y (ld U3 rfl rfl rfl) rfl <| Lx.y (lss rfl rfl) rfl <| Lx.y (mv rfl) rfl <| ?_
  refine Xx.ifD (t := 15) rfl (fun h7 => ?_) (fun h7 => ?_)
  ·
   refine Lx.gF rfl rfl rfl rfl <| Lx.gF rfl rfl rfl rfl <| Lx.gF rfl rfl rfl rfl <| Lx.y (pickT rfl rfl) rfl <| Lx.y (mv rfl) rfl <| Lx.gF rfl rfl rfl rfl <| Lx.gF rfl rfl rfl rfl <| Lx.gF rfl rfl rfl rfl <| Lx.y (pickT rfl rfl) rfl <| Lx.y (asg rfl) rfl <| Lx.nil <| ?_
   refine Xx.tn (k6 _ _ _ _ ?_)
   refine Cx.condT rfl ?_
   refine Cx.seq (fun K8 k8 => ?_)
   refine Cx.region <| Lx.y (asg rfl) rfl <| Lx.nil <| ?_
   refine Xx.tn (k8 _ _ _ _ ?_)
   refine Cx.ret ?_
   refine Xx.br ?_
   refine Xx.tr ?_
   first | exact Xx.dropB b2 (Xx.rB1 rfl rfl ⟨congrArg (fun z : Int => i64 z) (chk1 (by omega)).symm, rfl⟩ (Frag.le_refl _) rfl) | exact Xx.dropB b2 (Xx.rB1 rfl rfl ⟨congrArg (fun z : Int => i64 z) (chk2 (by omega) (by first | (left; omega) | (right; left; omega) | (right; right; exact of_decide_eq_false ((Bool.not_eq_true' _).mp z2)))).symm, rfl⟩ (Frag.le_refl _) rfl) | exact Xx.dropB b2 (Xx.rB1 rfl rfl ⟨congrArg (fun z : Int => i64 z) (chk3 (by omega) hb (by omega)).symm, rfl⟩ (Frag.le_refl _) rfl) | exact Xx.dropB b2 (Xx.rB1 rfl rfl ⟨congrArg (fun z : Int => i64 z) (chk4 (by omega) hb (by omega) ((Bool.not_eq_true' _).mp z4)).symm, rfl⟩ (Frag.le_refl _) rfl) | (refine Xx.dropB b6 ?_; exact Xx.dropB b2 (Xx.rB1 rfl rfl ⟨congrArg (fun z : Int => i64 z) (chk5 (by omega) hb (by omega) ((Bool.not_eq_false' _).mp z4) hil hall hze).symm, rfl⟩ (Frag.le_refl _) rfl)) | exact Xx.dropB b2 (Xx.rB1 rfl rfl ⟨congrArg (fun z : Int => i64 z) (chk6 (by omega) hb (by omega) ((Bool.not_eq_false' _).mp z4) (fun k hk => hall k hk (by omega))).symm, rfl⟩ (Frag.le_refl _) rfl)
  ·
   refine Lx.gT rfl rfl rfl <| Lx.y (fa' fo25_0 rfl) rfl <| Lx.gT rfl rfl rfl <| Lx.y (ld U3 rfl rfl rfl) rfl <| Lx.gT rfl rfl rfl <| Lx.y (gtr rfl rfl) rfl <| Lx.y (pickF rfl rfl) rfl <| Lx.y (mv rfl) rfl <| ?_
   refine Xx.ifD (t := 20) rfl (fun h9 => ?_) (fun h9 => ?_)
   ·
    refine Lx.gF rfl rfl rfl rfl <| Lx.gF rfl rfl rfl rfl <| Lx.gF rfl rfl rfl rfl <| Lx.y (pickT rfl rfl) rfl <| Lx.y (asg rfl) rfl <| Lx.nil <| ?_
    refine Xx.tn (k6 _ _ _ _ ?_)
    refine Cx.condT rfl ?_
    refine Cx.seq (fun K10 k10 => ?_)
    refine Cx.region <| Lx.y (asg rfl) rfl <| Lx.nil <| ?_
    refine Xx.tn (k10 _ _ _ _ ?_)
    refine Cx.ret ?_
    refine Xx.br ?_
    refine Xx.tr ?_
    first | exact Xx.dropB b2 (Xx.rB1 rfl rfl ⟨congrArg (fun z : Int => i64 z) (chk1 (by omega)).symm, rfl⟩ (Frag.le_refl _) rfl) | exact Xx.dropB b2 (Xx.rB1 rfl rfl ⟨congrArg (fun z : Int => i64 z) (chk2 (by omega) (by first | (left; omega) | (right; left; omega) | (right; right; exact of_decide_eq_false ((Bool.not_eq_true' _).mp z2)))).symm, rfl⟩ (Frag.le_refl _) rfl) | exact Xx.dropB b2 (Xx.rB1 rfl rfl ⟨congrArg (fun z : Int => i64 z) (chk3 (by omega) hb (by omega)).symm, rfl⟩ (Frag.le_refl _) rfl) | exact Xx.dropB b2 (Xx.rB1 rfl rfl ⟨congrArg (fun z : Int => i64 z) (chk4 (by omega) hb (by omega) ((Bool.not_eq_true' _).mp z4)).symm, rfl⟩ (Frag.le_refl _) rfl) | (refine Xx.dropB b6 ?_; exact Xx.dropB b2 (Xx.rB1 rfl rfl ⟨congrArg (fun z : Int => i64 z) (chk5 (by omega) hb (by omega) ((Bool.not_eq_false' _).mp z4) hil hall hze).symm, rfl⟩ (Frag.le_refl _) rfl)) | exact Xx.dropB b2 (Xx.rB1 rfl rfl ⟨congrArg (fun z : Int => i64 z) (chk6 (by omega) hb (by omega) ((Bool.not_eq_false' _).mp z4) (fun k hk => hall k hk (by omega))).symm, rfl⟩ (Frag.le_refl _) rfl)
   ·
    refine Lx.gT rfl rfl rfl <| Lx.y (ldA U25 rfl sz25 rfl (Cells.own (n := 6) PickB.eq rfl) rfl) rfl <| Lx.gT rfl rfl rfl <| ?_
    refine Lx.cp rfl rfl rfl (bare_ct v _ _ _ _ _) rfl ?_
    refine Lx.gT rfl rfl rfl <| Lx.y (not' rfl) rfl <| Lx.y (pickF rfl rfl) rfl <| Lx.y (asg rfl) rfl <| Lx.nil <| ?_
    refine Xx.tn (k6 _ _ _ _ ?_)
    refine Cx.condB rfl (fun h11 => ?_) (fun h11 => ?_)
    ·
     have z2 := h11
     refine Cx.seq (fun K12 k12 => ?_)
     refine Cx.region <| Lx.y (asg rfl) rfl <| Lx.nil <| ?_
     refine Xx.tn (k12 _ _ _ _ ?_)
     refine Cx.ret ?_
     refine Xx.br ?_
     refine Xx.tr ?_
     first | exact Xx.dropB b2 (Xx.rB1 rfl rfl ⟨congrArg (fun z : Int => i64 z) (chk1 (by omega)).symm, rfl⟩ (Frag.le_refl _) rfl) | exact Xx.dropB b2 (Xx.rB1 rfl rfl ⟨congrArg (fun z : Int => i64 z) (chk2 (by omega) (by first | (left; omega) | (right; left; omega) | (right; right; exact of_decide_eq_false ((Bool.not_eq_true' _).mp z2)))).symm, rfl⟩ (Frag.le_refl _) rfl) | exact Xx.dropB b2 (Xx.rB1 rfl rfl ⟨congrArg (fun z : Int => i64 z) (chk3 (by omega) hb (by omega)).symm, rfl⟩ (Frag.le_refl _) rfl) | exact Xx.dropB b2 (Xx.rB1 rfl rfl ⟨congrArg (fun z : Int => i64 z) (chk4 (by omega) hb (by omega) ((Bool.not_eq_true' _).mp z4)).symm, rfl⟩ (Frag.le_refl _) rfl) | (refine Xx.dropB b6 ?_; exact Xx.dropB b2 (Xx.rB1 rfl rfl ⟨congrArg (fun z : Int => i64 z) (chk5 (by omega) hb (by omega) ((Bool.not_eq_false' _).mp z4) hil hall hze).symm, rfl⟩ (Frag.le_refl _) rfl)) | exact Xx.dropB b2 (Xx.rB1 rfl rfl ⟨congrArg (fun z : Int => i64 z) (chk6 (by omega) hb (by omega) ((Bool.not_eq_false' _).mp z4) (fun k hk => hall k hk (by omega))).symm, rfl⟩ (Frag.le_refl _) rfl)
    ·
     have z2 := h11
     have hb : ¬ (v.kind < 0 ∨ 6 < v.kind ∨ ¬ BareP v) := (fun z => by rcases z with z | z | z; exact absurd z (by omega); exact absurd z (by omega); exact z (of_decide_eq_true ((Bool.not_eq_false' _).mp z2)))
     refine Cx.seq (fun K13 k13 => ?_)
     refine Cx.region <| Lx.y (fa' fo25_4 rfl) rfl <| Lx.y (ld U22 rfl rfl rfl) rfl <| Lx.y (lenV (ty' := 0) U22 rfl) rfl <| Lx.y (gtr rfl rfl) rfl <| Lx.y (asg rfl) rfl <| Lx.nil <| ?_
     refine Xx.tn (k13 _ _ _ _ ?_)
     refine Cx.condD rfl (fun h14 => ?_) (fun h14 => ?_)
     ·
      refine Cx.seq (fun K15 k15 => ?_)
      refine Cx.region <| Lx.y (asg rfl) rfl <| Lx.nil <| ?_
      refine Xx.tn (k15 _ _ _ _ ?_)
      refine Cx.ret ?_
      refine Xx.br ?_
      refine Xx.tr ?_
      first | exact Xx.dropB b2 (Xx.rB1 rfl rfl ⟨congrArg (fun z : Int => i64 z) (chk1 (by omega)).symm, rfl⟩ (Frag.le_refl _) rfl) | exact Xx.dropB b2 (Xx.rB1 rfl rfl ⟨congrArg (fun z : Int => i64 z) (chk2 (by omega) (by first | (left; omega) | (right; left; omega) | (right; right; exact of_decide_eq_false ((Bool.not_eq_true' _).mp z2)))).symm, rfl⟩ (Frag.le_refl _) rfl) | exact Xx.dropB b2 (Xx.rB1 rfl rfl ⟨congrArg (fun z : Int => i64 z) (chk3 (by omega) hb (by omega)).symm, rfl⟩ (Frag.le_refl _) rfl) | exact Xx.dropB b2 (Xx.rB1 rfl rfl ⟨congrArg (fun z : Int => i64 z) (chk4 (by omega) hb (by omega) ((Bool.not_eq_true' _).mp z4)).symm, rfl⟩ (Frag.le_refl _) rfl) | (refine Xx.dropB b6 ?_; exact Xx.dropB b2 (Xx.rB1 rfl rfl ⟨congrArg (fun z : Int => i64 z) (chk5 (by omega) hb (by omega) ((Bool.not_eq_false' _).mp z4) hil hall hze).symm, rfl⟩ (Frag.le_refl _) rfl)) | exact Xx.dropB b2 (Xx.rB1 rfl rfl ⟨congrArg (fun z : Int => i64 z) (chk6 (by omega) hb (by omega) ((Bool.not_eq_false' _).mp z4) (fun k hk => hall k hk (by omega))).symm, rfl⟩ (Frag.le_refl _) rfl)
     ·
      refine Cx.seq (fun K16 k16 => ?_)
      refine Cx.region <| Lx.y (ldA U25 rfl sz25 rfl (Cells.own (n := 6) PickB.eq rfl) rfl) rfl <| ?_
      refine Lx.cp rfl rfl rfl (names_ct v _ _ _ _ _ hns hnx hnl) rfl ?_
      refine Lx.y (not' rfl) rfl <| Lx.y (asg rfl) rfl <| Lx.nil <| ?_
      refine Xx.tn (k16 _ _ _ _ ?_)
      refine Cx.condB rfl (fun h17 => ?_) (fun h17 => ?_)
      ·
       have z4 := h17
       refine Cx.seq (fun K18 k18 => ?_)
       refine Cx.region <| Lx.y (asg rfl) rfl <| Lx.nil <| ?_
       refine Xx.tn (k18 _ _ _ _ ?_)
       refine Cx.ret ?_
       refine Xx.br ?_
       refine Xx.tr ?_
       first | exact Xx.dropB b2 (Xx.rB1 rfl rfl ⟨congrArg (fun z : Int => i64 z) (chk1 (by omega)).symm, rfl⟩ (Frag.le_refl _) rfl) | exact Xx.dropB b2 (Xx.rB1 rfl rfl ⟨congrArg (fun z : Int => i64 z) (chk2 (by omega) (by first | (left; omega) | (right; left; omega) | (right; right; exact of_decide_eq_false ((Bool.not_eq_true' _).mp z2)))).symm, rfl⟩ (Frag.le_refl _) rfl) | exact Xx.dropB b2 (Xx.rB1 rfl rfl ⟨congrArg (fun z : Int => i64 z) (chk3 (by omega) hb (by omega)).symm, rfl⟩ (Frag.le_refl _) rfl) | exact Xx.dropB b2 (Xx.rB1 rfl rfl ⟨congrArg (fun z : Int => i64 z) (chk4 (by omega) hb (by omega) ((Bool.not_eq_true' _).mp z4)).symm, rfl⟩ (Frag.le_refl _) rfl) | (refine Xx.dropB b6 ?_; exact Xx.dropB b2 (Xx.rB1 rfl rfl ⟨congrArg (fun z : Int => i64 z) (chk5 (by omega) hb (by omega) ((Bool.not_eq_false' _).mp z4) hil hall hze).symm, rfl⟩ (Frag.le_refl _) rfl)) | exact Xx.dropB b2 (Xx.rB1 rfl rfl ⟨congrArg (fun z : Int => i64 z) (chk6 (by omega) hb (by omega) ((Bool.not_eq_false' _).mp z4) (fun k hk => hall k hk (by omega))).symm, rfl⟩ (Frag.le_refl _) rfl)
      ·
       have z4 := h17
       refine Cx.skip <| Xx.bn <| ?_
       refine Xx.tn (k2 _ _ _ _ ?_)
       refine Cx.seq (fun K19 k19 => ?_)
       refine Cx.seq (fun K20 k20 => ?_)
       refine Cx.region <| Lx.y (fa' fo25_4 rfl) rfl <| Lx.y (ld U22 rfl rfl rfl) rfl <| Lx.y (lenV (ty' := 0) U22 rfl) rfl <| Lx.y (mv rfl) rfl <| Lx.nil <| ?_
       refine Xx.tn (k20 _ _ _ _ ?_)
       refine Cx.block ?_
       refine Cx.loopK (Sc 0 rfl (Sc 1 rfl (Sc 2 rfl (Sc 8 rfl (Sc 9 rfl (Sc 10 rfl (Sc 11 rfl (Sc 12 rfl (Sc 13 rfl (Sc 14 rfl (Sc 15 rfl (Sc 16 rfl (Sc 17 rfl (Sc 18 rfl (Sc 19 rfl (Sc 20 rfl (Sc 21 rfl (Sc 22 rfl (Sc 23 rfl (Sc 24 rfl (Sc 25 rfl (Sc 26 rfl (Sc 27 rfl (Sc 28 rfl (Sc 29 rfl (Sc 30 rfl (Sc 31 rfl (Sc 32 rfl (Sc 33 rfl (Sc 34 rfl (Sc 35 rfl (Sc 36 rfl (Sub.nil _))))))))))))))))))))))))))))))))) (fun m ρ' B' H' => ∃ (i : Nat), (i ≤ v.parts.length ∧ ∀ k (hk : k < v.parts.length), k < i → checkF d v.parts[k] (deep + 1) = 0) ∧ m = v.parts.length - i ∧ ρ' = [(37, i64 i)] ∧ B = B' ∧ row b2 25 (vcs v Ap cp An cn) * R = H') ⟨0, ⟨by omega, fun k hk h => absurd h (by omega)⟩, rfl, rfl, rfl, rfl⟩ (Sc 37 rfl (Sc 0 rfl (Sc 1 rfl (Sc 2 rfl (Sc 8 rfl (Sc 9 rfl (Sc 10 rfl (Sc 11 rfl (Sc 12 rfl (Sc 13 rfl (Sc 14 rfl (Sc 15 rfl (Sc 16 rfl (Sc 17 rfl (Sc 18 rfl (Sc 19 rfl (Sc 20 rfl (Sc 21 rfl (Sc 22 rfl (Sc 23 rfl (Sc 24 rfl (Sc 25 rfl (Sc 26 rfl (Sc 27 rfl (Sc 28 rfl (Sc 29 rfl (Sc 30 rfl (Sc 31 rfl (Sc 32 rfl (Sc 33 rfl (Sc 34 rfl (Sc 35 rfl (Sc 36 rfl (Sub.nil _)))))))))))))))))))))))))))))))))) ?_
       rintro m ρ' B' H' ⟨i, ⟨hi, hall⟩, rfl, rfl, rfl, rfl⟩
       refine Cx.seq (fun K21 k21 => ?_)
       refine Cx.region <| Lx.y (lss rfl rfl) rfl <| Lx.nil <| ?_
       refine Xx.tn (k21 _ _ _ _ ?_)
       refine Cx.seq (fun K22 k22 => ?_)
       refine Cx.condD rfl (fun h23 => ?_) (fun h23 => ?_)
       ·
        refine Cx.skip ?_
        refine Xx.tn (k22 _ _ _ _ ?_)
        refine Cx.seq (fun K24 k24 => ?_)
        refine Cx.block ?_
        refine Cx.seq (fun K25 k25 => ?_)
        have hil : i < v.parts.length := by omega
        obtain ⟨bq, oq, lq, eq, fq, xs, rfl, hBq, hxs, hv2⟩ := hps i hil
        obtain ⟨Ap2, cp2, An2, cn2, rfl⟩ := ValR.shape hv2
        refine Cx.region <| Lx.y (ia U22 sz25 rfl rfl (by first | exact Int.toNat_natCast _ | rfl) (by omega) (by omega)) rfl <| Lx.y (ldA U25 rfl sz25 rfl (Cells.base (n := 6) hBq hxs) rfl) rfl <| ?_
        refine Lx.new (allocO ti25) rfl (fun b6 => ?_)
        refine Lx.st (stA (d := .bool) sz25 rfl rfl rfl rfl (by show 0 + 6 ≤ 6; omega) rfl) ?_
        refine Lx.nil ?_
        refine Xx.tn (k25 _ _ _ _ ?_)
        refine Cx.seq (fun K26 k26 => ?_)
        refine Cx.region <| Lx.y (ldA U25 rfl sz25 rfl (Cells.own (n := 6) PickB.eq rfl) rfl) rfl <| Lx.y (mv rfl) rfl <| Lx.y (add rfl rfl (by first | exact wrap64 (by omega) (by omega) | rfl)) rfl <| ?_
        refine Lx.cp rfl rfl rfl (ih _ _ _ _ hv2 (by omega) (by omega)) rfl ?_
        refine Lx.y (asg rfl) rfl <| Lx.nil <| ?_
        refine Xx.tn (k26 _ _ _ _ ?_)
        refine Cx.seq (fun K27 k27 => ?_)
        refine Cx.region <| Lx.y (mv rfl) rfl <| Lx.y (neI rfl rfl) rfl <| Lx.nil <| ?_
        refine Xx.tn (k27 _ _ _ _ ?_)
        refine Cx.condN rfl (fun h28 => ?_) (fun h28 => ?_)
        ·
         have hze := h28
         refine Cx.seq (fun K29 k29 => ?_)
         refine Cx.region <| Lx.y (mv rfl) rfl <| Lx.y (asg rfl) rfl <| Lx.nil <| ?_
         refine Xx.tn (k29 _ _ _ _ ?_)
         refine Cx.ret ?_
         refine Xx.br ?_
         refine Xx.tr <| Xx.tr <| ?_
         refine Xx.br ?_
         refine Xx.tr ?_
         first | exact Xx.dropB b2 (Xx.rB1 rfl rfl ⟨congrArg (fun z : Int => i64 z) (chk1 (by omega)).symm, rfl⟩ (Frag.le_refl _) rfl) | exact Xx.dropB b2 (Xx.rB1 rfl rfl ⟨congrArg (fun z : Int => i64 z) (chk2 (by omega) (by first | (left; omega) | (right; left; omega) | (right; right; exact of_decide_eq_false ((Bool.not_eq_true' _).mp z2)))).symm, rfl⟩ (Frag.le_refl _) rfl) | exact Xx.dropB b2 (Xx.rB1 rfl rfl ⟨congrArg (fun z : Int => i64 z) (chk3 (by omega) hb (by omega)).symm, rfl⟩ (Frag.le_refl _) rfl) | exact Xx.dropB b2 (Xx.rB1 rfl rfl ⟨congrArg (fun z : Int => i64 z) (chk4 (by omega) hb (by omega) ((Bool.not_eq_true' _).mp z4)).symm, rfl⟩ (Frag.le_refl _) rfl) | (refine Xx.dropB b6 ?_; exact Xx.dropB b2 (Xx.rB1 rfl rfl ⟨congrArg (fun z : Int => i64 z) (chk5 (by omega) hb (by omega) ((Bool.not_eq_false' _).mp z4) hil hall hze).symm, rfl⟩ (Frag.le_refl _) rfl)) | exact Xx.dropB b2 (Xx.rB1 rfl rfl ⟨congrArg (fun z : Int => i64 z) (chk6 (by omega) hb (by omega) ((Bool.not_eq_false' _).mp z4) (fun k hk => hall k hk (by omega))).symm, rfl⟩ (Frag.le_refl _) rfl)
        ·
         have hze := h28
         refine Cx.skip <| Xx.bn <| ?_
         refine Xx.tn (k24 _ _ _ _ ?_)
         refine Cx.region <| Lx.y (add rfl rfl (by first | exact wrap64 (by omega) (by omega) | rfl)) rfl <| Lx.y (mv rfl) rfl <| Lx.nil <| ?_
         refine Xx.dropB b6 ?_
         exact Xx.againK ⟨i + 1, ⟨by omega, fun k hk hki => by
 by_cases e : k = i
 ·subst e; exact hze
 ·exact hall k hk (by omega)⟩, rfl, rfl, rfl, rfl⟩ (by omega) (Sc 37 rfl (Sc 0 rfl (Sc 1 rfl (Sc 2 rfl (Sc 8 rfl (Sc 9 rfl (Sc 10 rfl (Sc 11 rfl (Sc 12 rfl (Sc 13 rfl (Sc 14 rfl (Sc 15 rfl (Sc 16 rfl (Sc 17 rfl (Sc 18 rfl (Sc 19 rfl (Sc 20 rfl (Sc 21 rfl (Sc 22 rfl (Sc 23 rfl (Sc 24 rfl (Sc 25 rfl (Sc 26 rfl (Sc 27 rfl (Sc 28 rfl (Sc 29 rfl (Sc 30 rfl (Sc 31 rfl (Sc 32 rfl (Sc 33 rfl (Sc 34 rfl (Sc 35 rfl (Sc 36 rfl (Sub.nil _))))))))))))))))))))))))))))))))))
       ·
        refine Cx.exit <| Xx.te <| Xx.te <| Xx.bh <| ?_
        refine Xx.tn (k19 _ _ _ _ ?_)
        refine Cx.seq (fun K30 k30 => ?_)
        refine Cx.region <| Lx.y (asg rfl) rfl <| Lx.nil <| ?_
        refine Xx.tn (k30 _ _ _ _ ?_)
        refine Cx.ret ?_
        first | exact Xx.dropB b2 (Xx.rB1 rfl rfl ⟨congrArg (fun z : Int => i64 z) (chk1 (by omega)).symm, rfl⟩ (Frag.le_refl _) rfl) | exact Xx.dropB b2 (Xx.rB1 rfl rfl ⟨congrArg (fun z : Int => i64 z) (chk2 (by omega) (by first | (left; omega) | (right; left; omega) | (right; right; exact of_decide_eq_false ((Bool.not_eq_true' _).mp z2)))).symm, rfl⟩ (Frag.le_refl _) rfl) | exact Xx.dropB b2 (Xx.rB1 rfl rfl ⟨congrArg (fun z : Int => i64 z) (chk3 (by omega) hb (by omega)).symm, rfl⟩ (Frag.le_refl _) rfl) | exact Xx.dropB b2 (Xx.rB1 rfl rfl ⟨congrArg (fun z : Int => i64 z) (chk4 (by omega) hb (by omega) ((Bool.not_eq_true' _).mp z4)).symm, rfl⟩ (Frag.le_refl _) rfl) | (refine Xx.dropB b6 ?_; exact Xx.dropB b2 (Xx.rB1 rfl rfl ⟨congrArg (fun z : Int => i64 z) (chk5 (by omega) hb (by omega) ((Bool.not_eq_false' _).mp z4) hil hall hze).symm, rfl⟩ (Frag.le_refl _) rfl)) | exact Xx.dropB b2 (Xx.rB1 rfl rfl ⟨congrArg (fun z : Int => i64 z) (chk6 (by omega) hb (by omega) ((Bool.not_eq_false' _).mp z4) (fun k hk => hall k hk (by omega))).symm, rfl⟩ (Frag.le_refl _) rfl)
theorem check_ct : ∀ (d : Nat) (v : V) (cs : List Value) (deep : Int) (B : Frag), ValR B d v cs → 0 ≤ deep → deep ≤ 100 → CtP Tryz.prog 32 [.agg cs.toArray, i64 deep] B (i64 (checkF d v deep)) := by
  intro d
  induction d with
  | zero => intro v cs deep B h; exact h.elim
  | succ d ih => intro v cs deep B h h0 h1; exact check_step d ih v cs deep B h h0 h1
end Ke8
end Go.Proofs.YtdidpocakipinaaGreatDoor
namespace Go.Proofs.YtdidpocakipinaaGreatDoor
open Go.SL Go.RowKit
set_option maxRecDepth 100000
open Ke1 Ke3 Ke4 Ke5 Ke6 Ke7 Ke8
namespace Ke9
theorem ti5 : TI Tryz.prog 5 [.int .u8 0] 1 1 := TI.of (by kernel_rfl) rfl rfl
def hiB (n : BitVec 64) : UInt8 := toB (((BitVec.ofInt 8 ((toB (n.toNat : Nat)).toNat : Nat) ||| BitVec.ofInt 8 128).toNat : Nat) : Int)
def uvF : Nat → BitVec 64 → List UInt8
  | 0, n => [toB (n.toNat : Nat)]
  | k + 1, n => if 128 ≤ n.toNat then hiB n :: uvF k (n >>> 7) else [toB (n.toNat : Nat)]
def uvL (n : BitVec 64) : List UInt8 := uvF 10 n
theorem uvF_len : ∀ (k : Nat) (n : BitVec 64), (uvF k n).length ≤ k + 1 := by
  intro k
  induction k with
  | zero => intro n; simp [uvF]
  | succ k ih => intro n; unfold uvF; split; simpa using ih _; simp
theorem uv_last {k : Nat} {n : BitVec 64} (h : ¬ 128 ≤ n.toNat) : uvF k n = [toB (n.toNat : Nat)] := by
  cases k with
  | zero => rfl
  | succ k => unfold uvF; rw [if_neg h]
set_option maxHeartbeats 1000000 in
theorem encBool_ct (b : Bool) (B : Frag) : CtP Tryz.prog 55 [.bool b] B (str (if b then [1] else [0])) := by
  refine CtB.of_body Tryz.func55 rfl (nt := 4) rfl (by kernel_rfl) rfl ?_
  intro N0 w0 R
  refine Cx.seq (fun K1 k1 => ?_)
  refine Cx.region <| Lx.y (asg rfl) rfl <| Lx.nil <| ?_
  refine Xx.tn (k1 _ _ _ _ ?_)
  refine Cx.seq (fun K2 k2 => ?_)
  refine Cx.seq (fun K3 k3 => ?_)
  refine Cx.region <| Lx.y (mv rfl) rfl <| Lx.nil <| ?_
  refine Xx.tn (k3 _ _ _ _ ?_)
  refine Cx.condB rfl (fun h4 => ?_) (fun h4 => ?_)
  · skip
    have z := h4
    refine Cx.seq (fun K5 k5 => ?_)
    refine Cx.region <| Lx.y (asg rfl) rfl <| Lx.nil <| ?_
    refine Xx.tn (k5 _ _ _ _ ?_)
    refine Cx.ret <| Xx.tr <| ?_
    exact Xx.rB1 rfl rfl ⟨by rw [z]; rfl, rfl⟩ (Frag.le_refl _) rfl
  · skip
    have z := h4
    refine Cx.skip ?_
    refine Xx.tn (k2 _ _ _ _ ?_)
    refine Cx.seq (fun K6 k6 => ?_)
    refine Cx.region <| Lx.y (asg rfl) rfl <| Lx.nil <| ?_
    refine Xx.tn (k6 _ _ _ _ ?_)
    refine Cx.ret ?_
    exact Xx.rB1 rfl rfl ⟨by rw [z]; rfl, rfl⟩ (Frag.le_refl _) rfl
set_option maxHeartbeats 1000000 in
theorem encUint_ct (n : BitVec 64) (B : Frag) : CtP Tryz.prog 58 [u64 n] B (str (uvL n)) := by
 refine CtB.of_body Tryz.func58 rfl (nt := 20) rfl (by kernel_rfl) rfl ?_
 intro N0 w0 R
 refine Cx.seq (fun K1 k1 => ?_)
 refine Cx.region <| Lx.y (asg rfl) rfl <| Lx.nil <| ?_
 refine Xx.tn (k1 _ _ _ _ ?_)
 refine Cx.seq (fun K2 k2 => ?_)
 refine Cx.region <| Lx.y (asg rfl) rfl <| ?_
 refine Xx.perm (H' := sbuf 5 1 none 0 0 [] * R) ?_ (by rw [sbuf_nil, one_star])
 refine Lx.nil ?_
 refine Xx.tn (k2 _ _ _ _ ?_)
 refine Cx.seq (fun K3 k3 => ?_)
 refine Cx.block ?_
 refine Cx.loopK (Sc 2 rfl (Sub.nil _)) (fun m ρ' B' H' => ∃ (k : Nat) (x : BitVec 64) (out : List UInt8) (A : Option Addr) (c : Nat), (uvL n = out ++ uvF k x ∧ x.toNat < 128 * 128 ^ k ∧ out.length + k = 10) ∧ m = 1 + k ∧ ρ' = [(0, u64 x), (3, .slice A out.length c)] ∧ B = B' ∧ sbuf 5 1 A out.length c (u8s out) * R = H') ⟨10, n, [], none, 0, ⟨rfl, Nat.lt_of_lt_of_le n.isLt (by decide), rfl⟩, rfl, rfl, rfl, rfl⟩ (Sc 0 rfl (Sc 3 rfl (Sc 2 rfl (Sub.nil _)))) ?_
 rintro m ρ' B' H' ⟨k, x, out, A, c, ⟨hu, hx, hk⟩, rfl, rfl, rfl, rfl⟩
 refine Cx.seq (fun K4 k4 => ?_)
 refine Cx.seq (fun K5 k5 => ?_)
 refine Cx.region <| Lx.y (mv rfl) rfl <| Lx.y (geq rfl rfl) rfl <| Lx.nil <| ?_
 refine Xx.tn (k5 _ _ _ _ ?_)
 refine Cx.condD rfl (fun h6 => ?_) (fun h6 => ?_)
 ·
  obtain ⟨k, rfl⟩ : ∃ j, k = j + 1 := ⟨k - 1, by rcases k with _ | k; simp at hx; omega; omega⟩
  refine Cx.skip ?_
  refine Xx.tn (k4 _ _ _ _ ?_)
  refine Cx.block ?_
  refine Cx.seq (fun K7 k7 => ?_)
  refine Cx.region <| Lx.y (mv rfl) rfl <| Lx.y (mv rfl) rfl <| Lx.y (cvI rfl U34 U5 (wrap_u8 _)) rfl <| Lx.y (bor rfl rfl (show bOr .u8 _ _ = ((hiB x).toNat : Nat) from wrap_u8 _)) rfl <| ?_
  refine Lx.bsl (bsl1 U106 ti5 rfl rfl rfl (by decide)) rfl (fun b10 => ?_)
  refine Lx.o (appR U106 U106 ti5 rfl rfl rfl rfl rfl (by omega) (by omega)) rfl (fun v B' H' hΦ hB => ?_)
  obtain ⟨A2, c2, rfl, hA2, hl2, hc2, hBB, rfl⟩ := hΦ
  obtain rfl := hBB.symm
  clear hB
  refine Lx.y (asg rfl) rfl <| Lx.nil <| ?_
  refine Xx.tn (k7 _ _ _ _ ?_)
  refine Cx.region <| Lx.y (mv rfl) rfl <| Lx.y (shrW64 (c := 7) rfl rfl rfl) rfl <| Lx.y (asg rfl) rfl <| Lx.nil <| Xx.bn <| ?_
  refine Xx.dropB b10 ?_
  refine Xx.perm (H' := sbuf 5 1 A2 (out ++ [hiB x]).length c2 (u8s (out ++ [hiB x])) * R) ?_ (by simp [u8s])
  exact Xx.againK ⟨k, x >>> 7, out ++ [hiB x], A2, c2, ⟨by rw [hu, uvF, if_pos (by omega)]; simp, by rw [BitVec.toNat_ushiftRight, Nat.shiftRight_eq_div_pow]; rw [Nat.pow_succ] at hx; omega, by simp; omega⟩, rfl, rfl, rfl, rfl⟩ (by omega) (Sc 0 rfl (Sub.consE (s := 3) rfl (by simp) (Sc 2 rfl (Sub.nil _))))
 ·
  have hl : uvL n = out ++ [toB (x.toNat : Nat)] := by rw [hu, uv_last (by omega)]
  refine Cx.exit <| Xx.te <| Xx.te <| Xx.bh <| ?_
  refine Xx.tn (k3 _ _ _ _ ?_)
  refine Cx.seq (fun K8 k8 => ?_)
  refine Cx.region <| Lx.y (mv rfl) rfl <| Lx.y (mv rfl) rfl <| Lx.y (cvI rfl U34 U5 (wrap_u8 _)) rfl <| ?_
  refine Lx.bsl (bsl1 U106 ti5 rfl rfl rfl (by decide)) rfl (fun b17 => ?_)
  refine Lx.o (appR U106 U106 ti5 rfl rfl rfl rfl rfl (by omega) (by omega)) rfl (fun v B' H' hΦ hB => ?_)
  obtain ⟨A3, c3, rfl, hA3, hl3, hc3, hBB, rfl⟩ := hΦ
  obtain rfl := hBB.symm
  clear hB
  have e8 : u8s out ++ [Value.int .u8 ((toB (x.toNat : Nat)).toNat : Nat)] = u8s (out ++ [toB (x.toNat : Nat)]) := by simp [u8s]
  have hsrc : Src' B (sbuf 5 1 A3 (out.length + 1) c3 (u8s out ++ [Value.int .u8 ((toB (x.toNat : Nat)).toNat : Nat)])) 1 A3 (out.length + 1) (u8s (out ++ [toB (x.toNat : Nat)])) := by
   rw [e8]
   exact Src'.sbuf (.inr ⟨(hA3 (by omega)).choose, (hA3 (by omega)).choose_spec, by simp [u8s]⟩)
  refine Lx.y (b2s U106 U5 U9 rfl (l := out ++ [toB (x.toNat : Nat)]) hsrc PickS.eq) rfl <| Lx.y (asg rfl) rfl <| Lx.nil <| ?_
  refine Xx.tn (k8 _ _ _ _ ?_)
  refine Cx.ret ?_
  exact Xx.perm (Xx.drop (Xx.dropB b17 (Xx.rB1 rfl rfl ⟨by rw [hl], rfl⟩ (Frag.le_refl _) rfl))) rfl
set_option maxHeartbeats 1000000 in
theorem encText_ct (s : List UInt8) (B : Frag) (hs : s.length ≤ 4611686018427387904) : CtP Tryz.prog 57 [str s] B (str (uvL (BitVec.ofInt 64 (s.length : Nat)) ++ s)) := by
 have hu : (uvL (BitVec.ofInt 64 (s.length : Nat))).length ≤ 11 := uvF_len 10 _
 refine CtB.of_body Tryz.func57 rfl (nt := 9) rfl (by kernel_rfl) rfl ?_
 intro N0 w0 R
 refine Cx.seq (fun K1 k1 => ?_)
 refine Cx.region <| Lx.y (asg rfl) rfl <| Lx.nil <| ?_
 refine Xx.tn (k1 _ _ _ _ ?_)
 refine Cx.seq (fun K2 k2 => ?_)
 refine Cx.region <| Lx.y (mv rfl) rfl <| Lx.y (lenS U9 rfl) rfl <| Lx.y (cvW64 rfl U3 U34) rfl <| ?_
 refine Lx.cp rfl rfl rfl (encUint_ct _ _) rfl ?_
 refine Lx.y (mv rfl) rfl <| Lx.y (catS rfl rfl (by first | omega | (simp <;> omega))) rfl <| Lx.y (asg rfl) rfl <| Lx.nil <| ?_
 refine Xx.tn (k2 _ _ _ _ ?_)
 refine Cx.ret ?_
 exact Xx.rB1 rfl rfl ⟨rfl, rfl⟩ (Frag.le_refl _) rfl
set_option maxHeartbeats 1000000 in
theorem encInt_ct (n : Int) (B : Frag) (h1 : -9223372036854775808 ≤ n) (h2 : n ≤ 9223372036854775807) : CtP Tryz.prog 56 [i64 n] B (str (uvL (BitVec.ofInt 64 n <<< 1 ^^^ BitVec.ofInt 64 (n / 9223372036854775808)))) := by
 refine CtB.of_body Tryz.func56 rfl (nt := 11) rfl (by kernel_rfl) rfl ?_
 intro N0 w0 R
 refine Cx.seq (fun K1 k1 => ?_)
 refine Cx.region <| Lx.y (asg rfl) rfl <| Lx.nil <| ?_
 refine Xx.tn (k1 _ _ _ _ ?_)
 refine Cx.seq (fun K2 k2 => ?_)
 refine Cx.region <| Lx.y (mv rfl) rfl <| Lx.y (cvW64 rfl U2 U34) rfl <| Lx.y (shlW64 (c := 1) rfl rfl rfl) rfl <| Lx.y (mv rfl) rfl <| Lx.y (shrK (c := 9223372036854775808) rfl rfl (by decide) (by decide)) rfl <| Lx.y (cvW64 rfl U2 U34) rfl <| Lx.y (xorW64 rfl rfl) rfl <| ?_
 refine Lx.cp rfl rfl rfl (encUint_ct _ _) rfl ?_
 refine Lx.y (asg rfl) rfl <| Lx.nil <| ?_
 refine Xx.tn (k2 _ _ _ _ ?_)
 refine Cx.ret ?_
 exact Xx.rB1 rfl rfl ⟨rfl, rfl⟩ (Frag.le_refl _) rfl
end Ke9
end Go.Proofs.YtdidpocakipinaaGreatDoor
namespace Go.Proofs.YtdidpocakipinaaGreatDoor
open Go.SL Go.RowKit
set_option maxRecDepth 100000
open Ke1 Ke3 Ke4 Ke5 Ke6 Ke7 Ke8 Ke9
namespace KeA
theorem sz9 : (Tryz.prog.info? 9).map (·.size) = some 1 := by kernel_rfl
theorem sz25 : (Tryz.prog.info? 25).map (·.size) = some 6 := by kernel_rfl
theorem ti5 : TI Tryz.prog 5 [.int .u8 0] 1 1 := TI.of (by kernel_rfl) rfl rfl
theorem ti25 : TI Tryz.prog 25 [.int .i64 0, .bool false, .int .i64 0, str [], .slice none 0 0, .slice none 0 0] 6 88 := TI.of (by kernel_rfl) rfl rfl
theorem fo25_0 : FO Tryz.prog 25 0 0 1 false := FO.of U25 rfl rfl (by kernel_rfl) U3 rfl rfl
theorem fo25_1 : FO Tryz.prog 25 1 1 1 false := FO.of U25 rfl rfl (by kernel_rfl) U4 rfl rfl
theorem fo25_2 : FO Tryz.prog 25 2 2 1 false := FO.of U25 rfl rfl (by kernel_rfl) U2 rfl rfl
theorem fo25_3 : FO Tryz.prog 25 3 3 1 false := FO.of U25 rfl rfl (by kernel_rfl) U9 rfl rfl
theorem fo25_4 : FO Tryz.prog 25 4 4 1 false := FO.of U25 rfl rfl (by kernel_rfl) U22 rfl rfl
theorem fo25_5 : FO Tryz.prog 25 5 5 1 false := FO.of U25 rfl rfl (by kernel_rfl) U23 rfl rfl
instance : Inhabited V := ⟨.mk 0 false 0 [] [] []⟩
def txtL (s : List UInt8) : List UInt8 := uvL (BitVec.ofInt 64 (s.length : Nat)) ++ s
def intL (n : Int) : List UInt8 := uvL (BitVec.ofInt 64 n <<< 1 ^^^ BitVec.ofInt 64 (n / 9223372036854775808))
def partB (f : V → List UInt8) (v : V) (i : Nat) : List UInt8 := (if i < v.names.length then txtL (v.names.getD i []) else []) ++ f (v.parts.getD i default)
def preB (f : V → List UInt8) (v : V) (i : Nat) : List UInt8 := [toB v.kind] ++ uvL (BitVec.ofInt 64 (v.parts.length : Nat)) ++ (List.range i).flatMap (partB f v)
def bytesF : Nat → V → List UInt8
  | 0, _ => []
  | d + 1, v => if v.kind = 1 then [toB v.kind] ++ (if v.b then [1] else [0]) else if v.kind = 2 then [toB v.kind] ++ intL v.n else if v.kind = 3 ∨ v.kind = 4 then [toB v.kind] ++ txtL v.s
      else if v.kind = 5 ∨ v.kind = 6 then preB (bytesF d) v v.parts.length else [toB v.kind]
theorem getDp {l : List V} {i : Nat} (h : i < l.length) : l.getD i default = l[i] := by simp [List.getD, h]
theorem preB_succ (f : V → List UInt8) (v : V) (i : Nat) : preB f v (i + 1) = preB f v i ++ partB f v i := by
  unfold preB; rw [List.range_succ, List.flatMap_append]; simp
theorem preB_mono (f : V → List UInt8) (v : V) {i j : Nat} (h : i ≤ j) : (preB f v i).length ≤ (preB f v j).length := by
  induction j with
  | zero => have : i = 0 := by omega
            subst this; exact Nat.le_refl _
  | succ j ih =>
    by_cases e : i = j + 1
    · subst e; exact Nat.le_refl _
    · rw [preB_succ, List.length_append]; have := ih (by omega); omega
set_option maxHeartbeats 1000000 in
theorem bytes_step (d : Nat) (ih : ∀ (v : V) (cs : List Value) (B : Frag), ValR B d v cs → (bytesF d v).length ≤ 1152921504606846976 → CtP Tryz.prog 33 [.agg cs.toArray] B (str (bytesF d v))) (v : V) (cs : List Value) (B : Frag) (h : ValR B (d + 1) v cs) (hb : (bytesF (d + 1) v).length ≤ 1152921504606846976) : CtP Tryz.prog 33 [.agg cs.toArray] B (str (bytesF (d + 1) v)) := by
 obtain ⟨Ap, cp, An, cn, rfl, ⟨hsl, hn1, hn2, hcn, hcp⟩, hpl, hnl, hns, hnx, hps⟩ := h
 refine CtB.of_body Tryz.func33 rfl (nt := 72) rfl (by kernel_rfl) rfl ?_
 intro N0 w0 R
 refine Cx.seq (fun K1 k1 => ?_)
 refine Cx.region ?_
 refine Lx.new (boxA rfl) rfl (fun b1 => ?_)
 refine Lx.y (asg rfl) rfl <| Lx.nil <| ?_
 refine Xx.tn (k1 _ _ _ _ ?_)
 refine Cx.seq (fun K2 k2 => ?_)
 refine Cx.region <| Lx.y (fa' fo25_0 rfl) rfl <| Lx.y (ld U3 rfl rfl rfl) rfl <| Lx.y (cvI rfl U3 U5 (wrap_u8 _)) rfl <| ?_
 refine Lx.bsl (bsl1 U106 ti5 rfl rfl rfl (by decide)) rfl (fun b9 => ?_)
 refine Lx.y (b2sR U106 U5 U9 rfl (u8s_cons u8s_nil) rfl) rfl <| Lx.y (asg rfl) rfl <| ?_
 refine Xx.dropB b9 ?_
 refine Lx.nil ?_
 refine Xx.tn (k2 _ _ _ _ ?_)
 refine Cx.seq (fun K3 k3 => ?_)
 refine Cx.seq (fun K4 k4 => ?_)
 refine Cx.region <| Lx.y (fa' fo25_0 rfl) rfl <| Lx.y (ld U3 rfl rfl rfl) rfl <| Lx.nil <| ?_
 refine Xx.tn (k4 _ _ _ _ ?_)
 refine Cx.block ?_
 refine Cx.seq (fun K5 k5 => ?_)
 refine Cx.region <| Lx.y (eqI rfl rfl) rfl <| Lx.y (asg rfl) rfl <| Lx.nil <| ?_
 refine Xx.tn (k5 _ _ _ _ ?_)
 refine Cx.condD rfl (fun h6 => ?_) (fun h6 => ?_)
 ·
  have z1 := h6
  have hlb : (if v.b = true then [(1 : UInt8)] else [0]).length ≤ 1 := by split <;> simp
  refine Cx.seq (fun K7 k7 => ?_)
  refine Cx.region <| Lx.y (mv rfl) rfl <| Lx.y (fa' fo25_1 rfl) rfl <| Lx.y (ld U4 rfl rfl rfl) rfl <| ?_
  refine Lx.cp rfl rfl rfl (encBool_ct _ _) rfl ?_
  refine Lx.y (catS rfl rfl (by first | omega | (simp <;> omega))) rfl <| Lx.y (asg rfl) rfl <| Lx.nil <| ?_
  refine Xx.tn (k7 _ _ _ _ ?_)
  refine Cx.ret ?_
  refine Xx.br ?_
  refine Xx.tr ?_
  refine Xx.dropB b1 (Xx.rB1 rfl rfl ⟨congrArg str ?_, rfl⟩ (Frag.le_refl _) rfl)
  first | exact hbf.symm | (unfold bytesF; rw [if_pos z1]) | (unfold bytesF; rw [if_neg z1, if_pos z2]; rfl) | (unfold bytesF; rw [if_neg z1, if_neg z2, if_pos z3]; rfl) | (unfold bytesF; rw [if_neg z1, if_neg z2, if_neg z3, if_neg z4])
 ·
  have z1 := h6
  refine Cx.seq (fun K8 k8 => ?_)
  refine Cx.region <| Lx.y (eqI rfl rfl) rfl <| Lx.y (asg rfl) rfl <| Lx.nil <| ?_
  refine Xx.tn (k8 _ _ _ _ ?_)
  refine Cx.condD rfl (fun h9 => ?_) (fun h9 => ?_)
  ·
   have z2 := h9
   have hun : (uvL (BitVec.ofInt 64 v.n <<< 1 ^^^ BitVec.ofInt 64 (v.n / 9223372036854775808))).length ≤ 11 := uvF_len 10 _
   refine Cx.seq (fun K10 k10 => ?_)
   refine Cx.region <| Lx.y (mv rfl) rfl <| Lx.y (fa' fo25_2 rfl) rfl <| Lx.y (ld U2 rfl rfl rfl) rfl <| ?_
   refine Lx.cp rfl rfl rfl (encInt_ct _ _ hn1 hn2) rfl ?_
   refine Lx.y (catS rfl rfl (by first | omega | (simp <;> omega))) rfl <| Lx.y (asg rfl) rfl <| Lx.nil <| ?_
   refine Xx.tn (k10 _ _ _ _ ?_)
   refine Cx.ret ?_
   refine Xx.br ?_
   refine Xx.tr ?_
   refine Xx.dropB b1 (Xx.rB1 rfl rfl ⟨congrArg str ?_, rfl⟩ (Frag.le_refl _) rfl)
   first | exact hbf.symm | (unfold bytesF; rw [if_pos z1]) | (unfold bytesF; rw [if_neg z1, if_pos z2]; rfl) | (unfold bytesF; rw [if_neg z1, if_neg z2, if_pos z3]; rfl) | (unfold bytesF; rw [if_neg z1, if_neg z2, if_neg z3, if_neg z4])
  ·
   have z2 := h9
   refine Cx.cutK (ds' := []) (Sc 0 rfl (Sc 1 rfl (Sc 2 rfl (Sc 3 rfl (Sc 6 rfl (Sc 7 rfl (Sc 8 rfl (Sc 9 rfl (Sc 10 rfl (Sc 11 rfl (Sc 12 rfl (Sc 13 rfl (Sc 14 rfl (Sc 20 rfl (Sc 21 rfl (Sub.nil _)))))))))))))))) (fun ρ' B' H' => ρ' = [(27, .bool (decide (v.kind = 3 ∨ v.kind = 4)))] ∧ B = B' ∧ row b1 25 (vcs v Ap cp An cn) * R = H') ?_ ?_
   ·
    refine Cx.seq (fun K11 k11 => ?_)
    refine Cx.region <| Lx.y (eqI rfl rfl) rfl <| Lx.y (asg rfl) rfl <| Lx.nil <| ?_
    refine Xx.tn (k11 _ _ _ _ ?_)
    refine Cx.condD rfl (fun h12 => ?_) (fun h12 => ?_)
    ·
     have z3 := h12
     have hus : (uvL (BitVec.ofInt 64 (v.s.length : Nat))).length ≤ 11 := uvF_len 10 _
     have hus2 : (uvL (BitVec.ofNat 64 v.s.length)).length ≤ 11 := uvF_len 10 _
     refine Cx.skip ?_
     exact Xx.mkK (⟨rfl, rfl, rfl⟩) (Sub.consE (s := 27) rfl (by first | exact congrArg Value.bool (decide_eq_true (by omega)).symm | exact congrArg Value.bool (decide_eq_decide.2 (by omega))) (Sc 0 rfl (Sc 1 rfl (Sc 2 rfl (Sc 3 rfl (Sc 6 rfl (Sc 7 rfl (Sc 8 rfl (Sc 9 rfl (Sc 10 rfl (Sc 11 rfl (Sc 12 rfl (Sc 13 rfl (Sc 14 rfl (Sc 20 rfl (Sc 21 rfl (Sub.nil _)))))))))))))))))
    ·
     have z3 := h12
     refine Cx.region <| Lx.y (eqI rfl rfl) rfl <| Lx.y (asg rfl) rfl <| Lx.nil <| ?_
     exact Xx.mkK (⟨rfl, rfl, rfl⟩) (Sub.consE (s := 27) rfl (by first | exact congrArg Value.bool (decide_eq_true (by omega)).symm | exact congrArg Value.bool (decide_eq_decide.2 (by omega))) (Sc 0 rfl (Sc 1 rfl (Sc 2 rfl (Sc 3 rfl (Sc 6 rfl (Sc 7 rfl (Sc 8 rfl (Sc 9 rfl (Sc 10 rfl (Sc 11 rfl (Sc 12 rfl (Sc 13 rfl (Sc 14 rfl (Sc 20 rfl (Sc 21 rfl (Sub.nil _)))))))))))))))))
   ·rintro ρ' B' H' ⟨rfl, rfl, rfl⟩
    refine Cx.condD rfl (fun h13 => ?_) (fun h13 => ?_)
    ·
     have z3 := h13
     have hus : (uvL (BitVec.ofInt 64 (v.s.length : Nat))).length ≤ 11 := uvF_len 10 _
     have hus2 : (uvL (BitVec.ofNat 64 v.s.length)).length ≤ 11 := uvF_len 10 _
     refine Cx.seq (fun K14 k14 => ?_)
     refine Cx.region <| Lx.y (mv rfl) rfl <| Lx.y (fa' fo25_3 rfl) rfl <| Lx.y (ld U9 rfl rfl rfl) rfl <| ?_
     refine Lx.cp rfl rfl rfl (encText_ct _ _ (by first | exact hsl | exact hnl2)) rfl ?_
     refine Lx.y (catS rfl rfl (by first | omega | (simp <;> omega))) rfl <| Lx.y (asg rfl) rfl <| Lx.nil <| ?_
     refine Xx.tn (k14 _ _ _ _ ?_)
     refine Cx.ret ?_
     refine Xx.br ?_
     refine Xx.tr ?_
     refine Xx.dropB b1 (Xx.rB1 rfl rfl ⟨congrArg str ?_, rfl⟩ (Frag.le_refl _) rfl)
     first | exact hbf.symm | (unfold bytesF; rw [if_pos z1]) | (unfold bytesF; rw [if_neg z1, if_pos z2]; rfl) | (unfold bytesF; rw [if_neg z1, if_neg z2, if_pos z3]; rfl) | (unfold bytesF; rw [if_neg z1, if_neg z2, if_neg z3, if_neg z4])
    ·
     have z3 := h13
     refine Cx.cutK (ds' := []) (Sc 0 rfl (Sc 1 rfl (Sc 2 rfl (Sc 3 rfl (Sc 6 rfl (Sc 7 rfl (Sc 8 rfl (Sc 9 rfl (Sc 10 rfl (Sc 11 rfl (Sc 12 rfl (Sc 13 rfl (Sc 14 rfl (Sc 20 rfl (Sc 21 rfl (Sc 27 rfl (Sub.nil _))))))))))))))))) (fun ρ' B' H' => ρ' = [(35, .bool (decide (v.kind = 5 ∨ v.kind = 6)))] ∧ B = B' ∧ row b1 25 (vcs v Ap cp An cn) * R = H') ?_ ?_
     ·
      refine Cx.seq (fun K15 k15 => ?_)
      refine Cx.region <| Lx.y (eqI rfl rfl) rfl <| Lx.y (asg rfl) rfl <| Lx.nil <| ?_
      refine Xx.tn (k15 _ _ _ _ ?_)
      refine Cx.condD rfl (fun h16 => ?_) (fun h16 => ?_)
      ·
       have z4 := h16
       refine Cx.skip ?_
       exact Xx.mkK (⟨rfl, rfl, rfl⟩) (Sub.consE (s := 35) rfl (by first | exact congrArg Value.bool (decide_eq_true (by omega)).symm | exact congrArg Value.bool (decide_eq_decide.2 (by omega))) (Sc 0 rfl (Sc 1 rfl (Sc 2 rfl (Sc 3 rfl (Sc 6 rfl (Sc 7 rfl (Sc 8 rfl (Sc 9 rfl (Sc 10 rfl (Sc 11 rfl (Sc 12 rfl (Sc 13 rfl (Sc 14 rfl (Sc 20 rfl (Sc 21 rfl (Sc 27 rfl (Sub.nil _))))))))))))))))))
      ·
       have z4 := h16
       refine Cx.region <| Lx.y (eqI rfl rfl) rfl <| Lx.y (asg rfl) rfl <| Lx.nil <| ?_
       exact Xx.mkK (⟨rfl, rfl, rfl⟩) (Sub.consE (s := 35) rfl (by first | exact congrArg Value.bool (decide_eq_true (by omega)).symm | exact congrArg Value.bool (decide_eq_decide.2 (by omega))) (Sc 0 rfl (Sc 1 rfl (Sc 2 rfl (Sc 3 rfl (Sc 6 rfl (Sc 7 rfl (Sc 8 rfl (Sc 9 rfl (Sc 10 rfl (Sc 11 rfl (Sc 12 rfl (Sc 13 rfl (Sc 14 rfl (Sc 20 rfl (Sc 21 rfl (Sc 27 rfl (Sub.nil _))))))))))))))))))
     ·rintro ρ' B' H' ⟨rfl, rfl, rfl⟩
      refine Cx.condD rfl (fun h17 => ?_) (fun h17 => ?_)
      ·
       have z4 := h17
       refine Cx.seq (fun K18 k18 => ?_)
       have hbf : bytesF (d + 1) v = preB (bytesF d) v v.parts.length := by unfold bytesF; rw [if_neg (by omega), if_neg (by omega), if_neg (by omega), if_pos z4]
       rw [hbf] at hb
       have hup : (uvL (BitVec.ofInt 64 (v.parts.length : Nat))).length ≤ 11 := uvF_len 10 _
       have hup2 : (uvL (BitVec.ofNat 64 v.parts.length)).length ≤ 11 := uvF_len 10 _
       refine Cx.region <| Lx.y (mv rfl) rfl <| Lx.y (fa' fo25_4 rfl) rfl <| Lx.y (ld U22 rfl rfl rfl) rfl <| Lx.y (lenV (ty' := 0) U22 rfl) rfl <| Lx.y (cvW64 rfl U3 U34) rfl <| ?_
       refine Lx.cp rfl rfl rfl (encUint_ct _ _) rfl ?_
       refine Lx.y (catS rfl rfl (by first | omega | (simp <;> omega))) rfl <| Lx.y (asg rfl) rfl <| Lx.nil <| ?_
       refine Xx.tn (k18 _ _ _ _ ?_)
       refine Cx.seq (fun K19 k19 => ?_)
       refine Cx.region <| Lx.y (fa' fo25_4 rfl) rfl <| Lx.y (ld U22 rfl rfl rfl) rfl <| Lx.y (lenV (ty' := 0) U22 rfl) rfl <| Lx.y (mv rfl) rfl <| Lx.nil <| ?_
       refine Xx.tn (k19 _ _ _ _ ?_)
       refine Cx.block ?_
       refine Cx.loopK (Sc 0 rfl (Sc 1 rfl (Sc 2 rfl (Sc 6 rfl (Sc 7 rfl (Sc 8 rfl (Sc 9 rfl (Sc 10 rfl (Sc 11 rfl (Sc 12 rfl (Sc 13 rfl (Sc 14 rfl (Sc 20 rfl (Sc 21 rfl (Sc 27 rfl (Sc 35 rfl (Sc 38 rfl (Sc 39 rfl (Sc 40 rfl (Sc 41 rfl (Sc 42 rfl (Sc 43 rfl (Sc 44 rfl (Sc 45 rfl (Sc 46 rfl (Sc 47 rfl (Sub.nil _))))))))))))))))))))))))))) (fun m ρ' B' H' => ∃ (i : Nat), (i ≤ v.parts.length) ∧ m = v.parts.length - i ∧ ρ' = [(3, str (preB (bytesF d) v i)), (48, i64 i)] ∧ B = B' ∧ row b1 25 (vcs v Ap cp An cn) * R = H') ⟨0, Nat.zero_le _, rfl, rfl, rfl, rfl⟩ (Sub.consE (s := 3) rfl (by simp [preB]) (Sc 48 rfl (Sc 0 rfl (Sc 1 rfl (Sc 2 rfl (Sc 6 rfl (Sc 7 rfl (Sc 8 rfl (Sc 9 rfl (Sc 10 rfl (Sc 11 rfl (Sc 12 rfl (Sc 13 rfl (Sc 14 rfl (Sc 20 rfl (Sc 21 rfl (Sc 27 rfl (Sc 35 rfl (Sc 38 rfl (Sc 39 rfl (Sc 40 rfl (Sc 41 rfl (Sc 42 rfl (Sc 43 rfl (Sc 44 rfl (Sc 45 rfl (Sc 46 rfl (Sc 47 rfl (Sub.nil _))))))))))))))))))))))))))))) ?_
       rintro m ρ' B' H' ⟨i, hi, rfl, rfl, rfl, rfl⟩
       have hmi := preB_mono (bytesF d) v (show i ≤ v.parts.length by omega)
       refine Cx.seq (fun K20 k20 => ?_)
       refine Cx.region <| Lx.y (lss rfl rfl) rfl <| Lx.nil <| ?_
       refine Xx.tn (k20 _ _ _ _ ?_)
       refine Cx.seq (fun K21 k21 => ?_)
       refine Cx.condD rfl (fun h22 => ?_) (fun h22 => ?_)
       ·
        refine Cx.skip ?_
        refine Xx.tn (k21 _ _ _ _ ?_)
        refine Cx.seq (fun K23 k23 => ?_)
        refine Cx.block ?_
        refine Cx.seq (fun K24 k24 => ?_)
        have hil : i < v.parts.length := by omega
        have hm2 := preB_mono (bytesF d) v (show i + 1 ≤ v.parts.length by omega)
        rw [preB_succ, List.length_append] at hm2
        obtain ⟨bq, oq, lq, eq, fq, xs, rfl, hBq, hxs, hv2⟩ := hps i hil
        obtain ⟨Ap2, cp2, An2, cn2, rfl⟩ := ValR.shape hv2
        refine Cx.region <| Lx.y (mv rfl) rfl <| Lx.y (ia U22 sz25 rfl rfl (by first | exact Int.toNat_natCast _ | rfl) (by omega) (by omega)) rfl <| Lx.y (ldA U25 rfl sz25 rfl (Cells.base (n := 6) hBq hxs) rfl) rfl <| ?_
        refine Lx.new (allocO ti25) rfl (fun b5 => ?_)
        refine Lx.y (asg rfl) rfl ?_
        refine Lx.st (stA (d := .bool) sz25 rfl rfl rfl rfl (by show 0 + 6 ≤ 6; omega) rfl) ?_
        refine Lx.nil ?_
        refine Xx.tn (k24 _ _ _ _ ?_)
        refine Cx.seq (fun K25 k25 => ?_)
        refine Cx.seq (fun K26 k26 => ?_)
        refine Cx.region <| Lx.y (mv rfl) rfl <| Lx.y (fa' fo25_5 rfl) rfl <| Lx.y (ld U23 rfl rfl rfl) rfl <| Lx.y (lenV (ty' := 0) U23 rfl) rfl <| Lx.y (lss rfl rfl) rfl <| Lx.nil <| ?_
        refine Xx.tn (k26 _ _ _ _ ?_)
        refine Cx.condD rfl (fun h27 => ?_) (fun h27 => ?_)
        ·
         have hin : i < v.names.length := by have := h27; omega
         have hpt : partB (bytesF d) v i = txtL (v.names.getD i []) ++ bytesF d v.parts[i] := by unfold partB; rw [if_pos hin, getDp hil]
         rw [hpt, List.length_append] at hm2
         unfold txtL at hm2
         rw [List.length_append] at hm2
         obtain ⟨bn, on, ln, en, fn, rfl, hBn, hln⟩ := hns.at1 (k := i) hin
         rw [get_map hin] at hln
         have hnl2 : (v.names.getD i []).length ≤ 4611686018427387904 := hnx _ (get_mem hin)
         generalize v.names.getD i [] = nm at *
         have hu1 : (uvL (BitVec.ofInt 64 (nm.length : Nat))).length ≤ 11 := uvF_len 10 _
         have hu2 : (uvL (BitVec.ofNat 64 nm.length)).length ≤ 11 := uvF_len 10 _
         refine Cx.region <| Lx.y (mv rfl) rfl <| Lx.y (fa' fo25_5 rfl) rfl <| Lx.y (ld U23 rfl rfl rfl) rfl <| Lx.y (mv rfl) rfl <| Lx.y (ia U23 sz9 rfl rfl (by first | exact Int.toNat_natCast _ | rfl) (by omega) (by omega)) rfl <| Lx.y (ldB U9 rfl rfl hBn hln) rfl <| ?_
         refine Lx.cp rfl rfl rfl (encText_ct _ _ (by first | exact hsl | exact hnl2)) rfl ?_
         refine Lx.y (catS rfl rfl (by first | omega | (simp <;> omega))) rfl <| Lx.y (asg rfl) rfl <| Lx.nil <| ?_
         refine Xx.tn (k25 _ _ _ _ ?_)
         refine Cx.region <| Lx.y (mv rfl) rfl <| Lx.y (ldA U25 rfl sz25 rfl (Cells.own (n := 6) PickB.eq rfl) rfl) rfl <| ?_
         refine Lx.cp rfl rfl rfl (ih _ _ _ hv2 (by omega)) rfl ?_
         refine Lx.y (catS rfl rfl (by first | omega | (simp <;> omega))) rfl <| Lx.y (asg rfl) rfl <| Lx.nil <| Xx.bn <| ?_
         refine Xx.tn (k23 _ _ _ _ ?_)
         refine Cx.region <| Lx.y (add rfl rfl (by first | exact wrap64 (by omega) (by omega) | rfl)) rfl <| Lx.y (mv rfl) rfl <| Lx.nil <| ?_
         refine Xx.dropB b5 ?_
         exact Xx.againK ⟨i + 1, by omega, rfl, rfl, rfl, rfl⟩ (by omega) (Sub.consE (s := 3) rfl (by rw [preB_succ, hpt]; simp [txtL]) (Sc 48 rfl (Sc 0 rfl (Sc 1 rfl (Sc 2 rfl (Sc 6 rfl (Sc 7 rfl (Sc 8 rfl (Sc 9 rfl (Sc 10 rfl (Sc 11 rfl (Sc 12 rfl (Sc 13 rfl (Sc 14 rfl (Sc 20 rfl (Sc 21 rfl (Sc 27 rfl (Sc 35 rfl (Sc 38 rfl (Sc 39 rfl (Sc 40 rfl (Sc 41 rfl (Sc 42 rfl (Sc 43 rfl (Sc 44 rfl (Sc 45 rfl (Sc 46 rfl (Sc 47 rfl (Sub.nil _)))))))))))))))))))))))))))))
        ·
         have hin : ¬ i < v.names.length := by have := h27; omega
         have hpt : partB (bytesF d) v i = bytesF d v.parts[i] := by unfold partB; rw [if_neg hin, getDp hil]; rfl
         rw [hpt] at hm2
         refine Cx.skip ?_
         refine Xx.tn (k25 _ _ _ _ ?_)
         refine Cx.region <| Lx.y (mv rfl) rfl <| Lx.y (ldA U25 rfl sz25 rfl (Cells.own (n := 6) PickB.eq rfl) rfl) rfl <| ?_
         refine Lx.cp rfl rfl rfl (ih _ _ _ hv2 (by omega)) rfl ?_
         refine Lx.y (catS rfl rfl (by first | omega | (simp <;> omega))) rfl <| Lx.y (asg rfl) rfl <| Lx.nil <| Xx.bn <| ?_
         refine Xx.tn (k23 _ _ _ _ ?_)
         refine Cx.region <| Lx.y (add rfl rfl (by first | exact wrap64 (by omega) (by omega) | rfl)) rfl <| Lx.y (mv rfl) rfl <| Lx.nil <| ?_
         refine Xx.dropB b5 ?_
         exact Xx.againK ⟨i + 1, by omega, rfl, rfl, rfl, rfl⟩ (by omega) (Sub.consE (s := 3) rfl (by rw [preB_succ, hpt]) (Sc 48 rfl (Sc 0 rfl (Sc 1 rfl (Sc 2 rfl (Sc 6 rfl (Sc 7 rfl (Sc 8 rfl (Sc 9 rfl (Sc 10 rfl (Sc 11 rfl (Sc 12 rfl (Sc 13 rfl (Sc 14 rfl (Sc 20 rfl (Sc 21 rfl (Sc 27 rfl (Sc 35 rfl (Sc 38 rfl (Sc 39 rfl (Sc 40 rfl (Sc 41 rfl (Sc 42 rfl (Sc 43 rfl (Sc 44 rfl (Sc 45 rfl (Sc 46 rfl (Sc 47 rfl (Sub.nil _)))))))))))))))))))))))))))))
       ·
        obtain rfl : i = v.parts.length := by omega
        refine Cx.exit <| Xx.te <| Xx.te <| Xx.bh <| Xx.bn <| ?_
        refine Xx.tn (k3 _ _ _ _ ?_)
        refine Cx.seq (fun K28 k28 => ?_)
        refine Cx.region <| Lx.y (mv rfl) rfl <| Lx.y (asg rfl) rfl <| Lx.nil <| ?_
        refine Xx.tn (k28 _ _ _ _ ?_)
        refine Cx.ret ?_
        refine Xx.dropB b1 (Xx.rB1 rfl rfl ⟨congrArg str ?_, rfl⟩ (Frag.le_refl _) rfl)
        first | exact hbf.symm | (unfold bytesF; rw [if_pos z1]) | (unfold bytesF; rw [if_neg z1, if_pos z2]; rfl) | (unfold bytesF; rw [if_neg z1, if_neg z2, if_pos z3]; rfl) | (unfold bytesF; rw [if_neg z1, if_neg z2, if_neg z3, if_neg z4])
      ·
       have z4 := h17
       refine Cx.skip <| Xx.bn <| ?_
       refine Xx.tn (k3 _ _ _ _ ?_)
       refine Cx.seq (fun K29 k29 => ?_)
       refine Cx.region <| Lx.y (mv rfl) rfl <| Lx.y (asg rfl) rfl <| Lx.nil <| ?_
       refine Xx.tn (k29 _ _ _ _ ?_)
       refine Cx.ret ?_
       refine Xx.dropB b1 (Xx.rB1 rfl rfl ⟨congrArg str ?_, rfl⟩ (Frag.le_refl _) rfl)
       first | exact hbf.symm | (unfold bytesF; rw [if_pos z1]) | (unfold bytesF; rw [if_neg z1, if_pos z2]; rfl) | (unfold bytesF; rw [if_neg z1, if_neg z2, if_pos z3]; rfl) | (unfold bytesF; rw [if_neg z1, if_neg z2, if_neg z3, if_neg z4])
theorem bytes_ct : ∀ (d : Nat) (v : V) (cs : List Value) (B : Frag), ValR B d v cs → (bytesF d v).length ≤ 1152921504606846976 → CtP Tryz.prog 33 [.agg cs.toArray] B (str (bytesF d v)) := by
  intro d
  induction d with
  | zero => intro v cs B h; exact h.elim
  | succ d ih => intro v cs B h hb; exact bytes_step d ih v cs B h hb
end KeA
end Go.Proofs.YtdidpocakipinaaGreatDoor
namespace Go.Proofs.YtdidpocakipinaaGreatDoor
open Go.SL Go.RowKit
set_option maxRecDepth 100000
open Ke1 Ke3 Ke4 Ke5 Ke6 Ke7 Ke8 Ke9 KeA
namespace KeB
theorem sz25 : (Tryz.prog.info? 25).map (·.size) = some 6 := by kernel_rfl
noncomputable def CheckF (d : Nat) (v : V) : Int := if checkF d v 1 = 0 then (if 1024 < (bytesF d v).length then 3 else 0) else checkF d v 1
set_option maxHeartbeats 1000000 in
theorem Check_ct (d : Nat) (v : V) (cs : List Value) (B : Frag) (h : ValR B d v cs) (hb : checkF d v 1 = 0 → (bytesF d v).length ≤ 1152921504606846976) : CtP Tryz.prog 9 [.agg cs.toArray] B (i64 (CheckF d v)) := by
 obtain ⟨Ap, cp, An, cn, rfl⟩ := ValR.shape h
 refine CtB.of_body Tryz.func9 rfl (nt := 13) rfl (by kernel_rfl) rfl ?_
 intro N0 w0 R
 refine Cx.seq (fun K1 k1 => ?_)
 refine Cx.region ?_
 refine Lx.new (boxA rfl) rfl (fun b1 => ?_)
 refine Lx.y (asg rfl) rfl <| Lx.nil <| ?_
 refine Xx.tn (k1 _ _ _ _ ?_)
 refine Cx.seq (fun K2 k2 => ?_)
 refine Cx.seq (fun K3 k3 => ?_)
 refine Cx.region <| Lx.y (ldA U25 rfl sz25 rfl (Cells.own (n := 6) PickB.eq rfl) rfl) rfl <| ?_
 refine Lx.cp rfl rfl rfl (check_ct d v _ 1 _ h (by decide) (by decide)) rfl ?_
 refine Lx.y (asg rfl) rfl <| Lx.nil <| ?_
 refine Xx.tn (k3 _ _ _ _ ?_)
 refine Cx.seq (fun K4 k4 => ?_)
 refine Cx.region <| Lx.y (mv rfl) rfl <| Lx.y (neI rfl rfl) rfl <| Lx.nil <| ?_
 refine Xx.tn (k4 _ _ _ _ ?_)
 refine Cx.condN rfl (fun h5 => ?_) (fun h5 => ?_)
 ·
  have z1 := h5
  refine Cx.seq (fun K6 k6 => ?_)
  refine Cx.region <| Lx.y (mv rfl) rfl <| Lx.y (asg rfl) rfl <| Lx.nil <| ?_
  refine Xx.tn (k6 _ _ _ _ ?_)
  refine Cx.ret <| Xx.tr <| ?_
  refine Xx.dropB b1 (Xx.rB1 rfl rfl ⟨congrArg (fun z : Int => i64 z) ?_, rfl⟩ (Frag.le_refl _) rfl)
  first | (unfold CheckF; rw [if_neg z1]) | (unfold CheckF; rw [if_pos z1, if_pos (by omega)]) | (unfold CheckF; rw [if_pos z1, if_neg (by omega)])
 ·
  have z1 : checkF d v 1 = 0 := h5
  refine Cx.skip ?_
  refine Xx.tn (k2 _ _ _ _ ?_)
  refine Cx.seq (fun K7 k7 => ?_)
  refine Cx.seq (fun K8 k8 => ?_)
  refine Cx.region <| Lx.y (ldA U25 rfl sz25 rfl (Cells.own (n := 6) PickB.eq rfl) rfl) rfl <| ?_
  refine Lx.cp rfl rfl rfl (bytes_ct d v _ _ h (hb z1)) rfl ?_
  refine Lx.y (lenS U9 rfl) rfl <| Lx.y (gtr rfl rfl) rfl <| Lx.nil <| ?_
  refine Xx.tn (k8 _ _ _ _ ?_)
  refine Cx.condD rfl (fun h9 => ?_) (fun h9 => ?_)
  ·
   have z2 := h9
   refine Cx.seq (fun K10 k10 => ?_)
   refine Cx.region <| Lx.y (asg rfl) rfl <| Lx.nil <| ?_
   refine Xx.tn (k10 _ _ _ _ ?_)
   refine Cx.ret <| Xx.tr <| ?_
   refine Xx.dropB b1 (Xx.rB1 rfl rfl ⟨congrArg (fun z : Int => i64 z) ?_, rfl⟩ (Frag.le_refl _) rfl)
   first | (unfold CheckF; rw [if_neg z1]) | (unfold CheckF; rw [if_pos z1, if_pos (by omega)]) | (unfold CheckF; rw [if_pos z1, if_neg (by omega)])
  ·
   have z2 := h9
   refine Cx.skip ?_
   refine Xx.tn (k7 _ _ _ _ ?_)
   refine Cx.seq (fun K11 k11 => ?_)
   refine Cx.region <| Lx.y (asg rfl) rfl <| Lx.nil <| ?_
   refine Xx.tn (k11 _ _ _ _ ?_)
   refine Cx.ret ?_
   refine Xx.dropB b1 (Xx.rB1 rfl rfl ⟨congrArg (fun z : Int => i64 z) ?_, rfl⟩ (Frag.le_refl _) rfl)
   first | (unfold CheckF; rw [if_neg z1]) | (unfold CheckF; rw [if_pos z1, if_pos (by omega)]) | (unfold CheckF; rw [if_pos z1, if_neg (by omega)])
end KeB
end Go.Proofs.YtdidpocakipinaaGreatDoor
namespace Go.Proofs.YtdidpocakipinaaGreatDoor
open Go.SL Go.RowKit
set_option maxRecDepth 100000
open Ke1 Ke3 Ke4 Ke5 Ke6 Ke7 Ke8 Ke9 KeA KeB
namespace KeC
theorem sz9 : (Tryz.prog.info? 9).map (·.size) = some 1 := by kernel_rfl
theorem sz25 : (Tryz.prog.info? 25).map (·.size) = some 6 := by kernel_rfl
theorem ti5 : TI Tryz.prog 5 [.int .u8 0] 1 1 := TI.of (by kernel_rfl) rfl rfl
theorem ti25 : TI Tryz.prog 25 [.int .i64 0, .bool false, .int .i64 0, str [], .slice none 0 0, .slice none 0 0] 6 88 := TI.of (by kernel_rfl) rfl rfl
theorem fo25_0 : FO Tryz.prog 25 0 0 1 false := FO.of U25 rfl rfl (by kernel_rfl) U3 rfl rfl
theorem fo25_1 : FO Tryz.prog 25 1 1 1 false := FO.of U25 rfl rfl (by kernel_rfl) U4 rfl rfl
theorem fo25_2 : FO Tryz.prog 25 2 2 1 false := FO.of U25 rfl rfl (by kernel_rfl) U2 rfl rfl
theorem fo25_3 : FO Tryz.prog 25 3 3 1 false := FO.of U25 rfl rfl (by kernel_rfl) U9 rfl rfl
theorem fo25_4 : FO Tryz.prog 25 4 4 1 false := FO.of U25 rfl rfl (by kernel_rfl) U22 rfl rfl
theorem fo25_5 : FO Tryz.prog 25 5 5 1 false := FO.of U25 rfl rfl (by kernel_rfl) U23 rfl rfl
def numK (n : Int) : List UInt8 := numL (BitVec.ofInt 64 n ^^^ 9223372036854775808#64)
def partK (f : V → List UInt8) (v : V) (i : Nat) : List UInt8 := [1] ++ (if i < v.names.length then textL (v.names.getD i []) else []) ++ f (v.parts.getD i default)
def preK (f : V → List UInt8) (v : V) (i : Nat) : List UInt8 := [toB v.kind] ++ (List.range i).flatMap (partK f v)
def keyF : Nat → V → List UInt8
  | 0, _ => []
  | d + 1, v => if v.kind = 1 then [toB v.kind] ++ (if v.b then [1] else [0]) else if v.kind = 2 then [toB v.kind] ++ numK v.n else if v.kind = 3 ∨ v.kind = 4 then [toB v.kind] ++ textL v.s
      else if v.kind = 5 ∨ v.kind = 6 then preK (keyF d) v v.parts.length ++ [0] else [toB v.kind]
theorem preK_succ (f : V → List UInt8) (v : V) (i : Nat) : preK f v (i + 1) = preK f v i ++ partK f v i := by
  unfold preK; rw [List.range_succ, List.flatMap_append]; simp
theorem uvL_pos (n : BitVec 64) : 1 ≤ (uvL n).length := by unfold uvL uvF; split <;> simp
theorem textL_len (s : List UInt8) : (textL s).length ≤ 2 * s.length + 2 := by have := rep_len s; unfold textL; rw [List.length_append]; simp only [List.length_cons, List.length_nil]; omega
theorem preK_len (f g : V → List UInt8) (v : V) (hfg : ∀ i (h : i < v.parts.length), (f v.parts[i]).length + 1 ≤ 12 * (g v.parts[i]).length) : ∀ i, i ≤ v.parts.length → (preK f v i).length + 11 + 12 * (uvL (BitVec.ofInt 64 (v.parts.length : Nat))).length ≤ 12 * (preB g v i).length := by
  intro i
  induction i with
  | zero => intro _; unfold preK preB; simp; omega
  | succ i ih =>
    intro hi
    have h1 := ih (by omega)
    have h2 := hfg i (by omega)
    rw [preK_succ, preB_succ, List.length_append, List.length_append]
    have h3 : (partK f v i).length ≤ 12 * (partB g v i).length := by
      unfold partK partB
      rw [getDp (by omega)]
      by_cases hn : i < v.names.length
      · rw [if_pos hn, if_pos hn]
        have h4 := textL_len (v.names.getD i [])
        have h5 := uvL_pos (BitVec.ofInt 64 ((v.names.getD i []).length : Nat))
        unfold txtL
        simp only [List.length_append, List.length_cons, List.length_nil]
        omega
      · rw [if_neg hn, if_neg hn]
        simp only [List.length_append, List.length_cons, List.length_nil]
        omega
    omega
theorem keyF_len : ∀ (d : Nat) (v : V) (cs : List Value) (B : Frag), ValR B d v cs → (keyF d v).length + 1 ≤ 12 * (bytesF d v).length := by
  intro d
  induction d with
  | zero => intro v cs B h; exact h.elim
  | succ d ih =>
    rintro v cs B ⟨Ap, cp, An, cn, _, _, _, _, _, _, hps⟩
    have hp := preK_len (keyF d) (bytesF d) v (fun i hi => by obtain ⟨b, o, l, et, fz, xs, _, _, _, hv⟩ := hps i hi; exact ih _ _ _ hv) v.parts.length (Nat.le_refl _)
    have h4 := textL_len v.s
    have h5 := uvL_pos (BitVec.ofInt 64 (v.s.length : Nat))
    have h6 := uvL_pos (BitVec.ofInt 64 v.n <<< 1 ^^^ BitVec.ofInt 64 (v.n / 9223372036854775808))
    unfold keyF bytesF
    by_cases z1 : v.kind = 1
    · rw [if_pos z1, if_pos z1]; cases v.b <;> simp
    · rw [if_neg z1, if_neg z1]
      by_cases z2 : v.kind = 2
      · rw [if_pos z2, if_pos z2]; unfold numK intL; simp only [List.length_append, List.length_cons, List.length_nil, numL_len]; omega
      · rw [if_neg z2, if_neg z2]
        by_cases z3 : v.kind = 3 ∨ v.kind = 4
        · rw [if_pos z3, if_pos z3]; unfold txtL; simp only [List.length_append, List.length_cons, List.length_nil]; omega
        · rw [if_neg z3, if_neg z3]
          by_cases z4 : v.kind = 5 ∨ v.kind = 6
          · rw [if_pos z4, if_pos z4]; simp only [List.length_append, List.length_cons, List.length_nil]; omega
          · rw [if_neg z4, if_neg z4]; simp
set_option maxHeartbeats 1000000 in
theorem Of_step (d : Nat) (ih : ∀ (v : V) (cs : List Value) (B : Frag), ValR B d v cs → MaxLenIn B → (bytesF d v).length ≤ 1048576 → CtP Tryz.prog 64 [.agg cs.toArray] B (str (keyF d v))) (v : V) (cs : List Value) (B : Frag) (h : ValR B (d + 1) v cs) (hM : MaxLenIn B) (hb : (bytesF (d + 1) v).length ≤ 1048576) : CtP Tryz.prog 64 [.agg cs.toArray] B (str (keyF (d + 1) v)) := by
 have hkl := keyF_len _ _ _ _ h
 have hpk : ∀ i (hi : i < v.parts.length), (keyF d v.parts[i]).length + 1 ≤ 12 * (bytesF d v.parts[i]).length := by
  intro i hi
  obtain ⟨_, _, _, _, _, _, _, _, _, _, hps⟩ := h
  obtain ⟨b, o, l, et, fz, xs, _, _, _, hv⟩ := hps i hi
  exact keyF_len _ _ _ _ hv
 obtain ⟨Ap, cp, An, cn, rfl, ⟨hsl, hn1, hn2, hcn, hcp⟩, hpl, hnl, hns, hnx, hps⟩ := h
 refine CtB.of_body Tryz.func64 rfl (nt := 72) rfl (by kernel_rfl) rfl ?_
 intro N0 w0 R
 refine Cx.seq (fun K1 k1 => ?_)
 refine Cx.region ?_
 refine Lx.new (boxA rfl) rfl (fun b1 => ?_)
 refine Lx.y (asg rfl) rfl <| Lx.nil <| ?_
 refine Xx.tn (k1 _ _ _ _ ?_)
 refine Cx.seq (fun K2 k2 => ?_)
 refine Cx.region <| Lx.y (fa' fo25_0 rfl) rfl <| Lx.y (ld U3 rfl rfl rfl) rfl <| Lx.y (cvI rfl U3 U5 (wrap_u8 _)) rfl <| ?_
 refine Lx.bsl (bsl1 U106 ti5 rfl rfl rfl (by decide)) rfl (fun b9 => ?_)
 refine Lx.y (b2sR U106 U5 U9 rfl (u8s_cons u8s_nil) rfl) rfl <| Lx.y (asg rfl) rfl <| ?_
 refine Xx.dropB b9 ?_
 refine Lx.nil ?_
 refine Xx.tn (k2 _ _ _ _ ?_)
 refine Cx.seq (fun K3 k3 => ?_)
 refine Cx.seq (fun K4 k4 => ?_)
 refine Cx.region <| Lx.y (fa' fo25_0 rfl) rfl <| Lx.y (ld U3 rfl rfl rfl) rfl <| Lx.nil <| ?_
 refine Xx.tn (k4 _ _ _ _ ?_)
 refine Cx.block ?_
 refine Cx.seq (fun K5 k5 => ?_)
 refine Cx.region <| Lx.y (eqI rfl rfl) rfl <| Lx.y (asg rfl) rfl <| Lx.nil <| ?_
 refine Xx.tn (k5 _ _ _ _ ?_)
 refine Cx.condD rfl (fun h6 => ?_) (fun h6 => ?_)
 ·
  have z1 := h6
  refine Cx.seq (fun K7 k7 => ?_)
  refine Cx.seq (fun K8 k8 => ?_)
  refine Cx.region <| Lx.y (fa' fo25_1 rfl) rfl <| Lx.y (ld U4 rfl rfl rfl) rfl <| Lx.nil <| ?_
  refine Xx.tn (k8 _ _ _ _ ?_)
  refine Cx.condB rfl (fun h9 => ?_) (fun h9 => ?_)
  ·
   have zb := h9
   refine Cx.seq (fun K10 k10 => ?_)
   refine Cx.region <| Lx.y (mv rfl) rfl <| Lx.y (catS rfl rfl (by first | omega | (simp <;> omega))) rfl <| Lx.y (asg rfl) rfl <| Lx.nil <| ?_
   refine Xx.tn (k10 _ _ _ _ ?_)
   refine Cx.ret <| Xx.tr <| ?_
   refine Xx.br ?_
   refine Xx.tr ?_
   refine Xx.dropB b1 (Xx.rB1 rfl rfl ⟨congrArg str ?_, rfl⟩ (Frag.le_refl _) rfl)
   first | exact hkf.symm | (unfold keyF; rw [if_pos z1, zb]; rfl) | (unfold keyF; rw [if_neg z1, if_pos z2]; rfl) | (unfold keyF; rw [if_neg z1, if_neg z2, if_pos z3]; done) | (unfold keyF; rw [if_neg z1, if_neg z2, if_neg z3, if_neg z4])
  ·
   have zb := h9
   refine Cx.skip ?_
   refine Xx.tn (k7 _ _ _ _ ?_)
   refine Cx.seq (fun K11 k11 => ?_)
   refine Cx.region <| Lx.y (mv rfl) rfl <| Lx.y (catS rfl rfl (by first | omega | (simp <;> omega))) rfl <| Lx.y (asg rfl) rfl <| Lx.nil <| ?_
   refine Xx.tn (k11 _ _ _ _ ?_)
   refine Cx.ret ?_
   refine Xx.br ?_
   refine Xx.tr ?_
   refine Xx.dropB b1 (Xx.rB1 rfl rfl ⟨congrArg str ?_, rfl⟩ (Frag.le_refl _) rfl)
   first | exact hkf.symm | (unfold keyF; rw [if_pos z1, zb]; rfl) | (unfold keyF; rw [if_neg z1, if_pos z2]; rfl) | (unfold keyF; rw [if_neg z1, if_neg z2, if_pos z3]; done) | (unfold keyF; rw [if_neg z1, if_neg z2, if_neg z3, if_neg z4])
 ·
  have z1 := h6
  refine Cx.seq (fun K12 k12 => ?_)
  refine Cx.region <| Lx.y (eqI rfl rfl) rfl <| Lx.y (asg rfl) rfl <| Lx.nil <| ?_
  refine Xx.tn (k12 _ _ _ _ ?_)
  refine Cx.condD rfl (fun h13 => ?_) (fun h13 => ?_)
  ·
   have z2 := h13
   refine Cx.seq (fun K14 k14 => ?_)
   refine Cx.region <| Lx.y (mv rfl) rfl <| Lx.y (fa' fo25_2 rfl) rfl <| Lx.y (ld U2 rfl rfl rfl) rfl <| Lx.y (cvW64 rfl U2 U34) rfl <| Lx.y (xorW64 (b := 9223372036854775808#64) rfl rfl) rfl <| ?_
   refine Lx.cp rfl rfl rfl (Number_ct _ _) rfl ?_
   refine Lx.y (catS rfl rfl (by first | omega | (simp <;> omega))) rfl <| Lx.y (asg rfl) rfl <| Lx.nil <| ?_
   refine Xx.tn (k14 _ _ _ _ ?_)
   refine Cx.ret ?_
   refine Xx.br ?_
   refine Xx.tr ?_
   refine Xx.dropB b1 (Xx.rB1 rfl rfl ⟨congrArg str ?_, rfl⟩ (Frag.le_refl _) rfl)
   first | exact hkf.symm | (unfold keyF; rw [if_pos z1, zb]; rfl) | (unfold keyF; rw [if_neg z1, if_pos z2]; rfl) | (unfold keyF; rw [if_neg z1, if_neg z2, if_pos z3]; done) | (unfold keyF; rw [if_neg z1, if_neg z2, if_neg z3, if_neg z4])
  ·
   have z2 := h13
   refine Cx.cutK (ds' := []) (Sc 0 rfl (Sc 1 rfl (Sc 2 rfl (Sc 3 rfl (Sc 6 rfl (Sc 7 rfl (Sc 8 rfl (Sc 9 rfl (Sc 10 rfl (Sc 11 rfl (Sc 12 rfl (Sc 13 rfl (Sc 14 rfl (Sc 21 rfl (Sc 22 rfl (Sub.nil _)))))))))))))))) (fun ρ' B' H' => ρ' = [(30, .bool (decide (v.kind = 3 ∨ v.kind = 4)))] ∧ B = B' ∧ row b1 25 (vcs v Ap cp An cn) * R = H') ?_ ?_
   ·
    refine Cx.seq (fun K15 k15 => ?_)
    refine Cx.region <| Lx.y (eqI rfl rfl) rfl <| Lx.y (asg rfl) rfl <| Lx.nil <| ?_
    refine Xx.tn (k15 _ _ _ _ ?_)
    refine Cx.condD rfl (fun h16 => ?_) (fun h16 => ?_)
    ·
     have z3 := h16
     refine Cx.skip ?_
     exact Xx.mkK (⟨rfl, rfl, rfl⟩) (Sub.consE (s := 30) rfl (by first | exact congrArg Value.bool (decide_eq_true (by omega)).symm | exact congrArg Value.bool (decide_eq_decide.2 (by omega))) (Sc 0 rfl (Sc 1 rfl (Sc 2 rfl (Sc 3 rfl (Sc 6 rfl (Sc 7 rfl (Sc 8 rfl (Sc 9 rfl (Sc 10 rfl (Sc 11 rfl (Sc 12 rfl (Sc 13 rfl (Sc 14 rfl (Sc 21 rfl (Sc 22 rfl (Sub.nil _)))))))))))))))))
    ·
     have z3 := h16
     refine Cx.region <| Lx.y (eqI rfl rfl) rfl <| Lx.y (asg rfl) rfl <| Lx.nil <| ?_
     exact Xx.mkK (⟨rfl, rfl, rfl⟩) (Sub.consE (s := 30) rfl (by first | exact congrArg Value.bool (decide_eq_true (by omega)).symm | exact congrArg Value.bool (decide_eq_decide.2 (by omega))) (Sc 0 rfl (Sc 1 rfl (Sc 2 rfl (Sc 3 rfl (Sc 6 rfl (Sc 7 rfl (Sc 8 rfl (Sc 9 rfl (Sc 10 rfl (Sc 11 rfl (Sc 12 rfl (Sc 13 rfl (Sc 14 rfl (Sc 21 rfl (Sc 22 rfl (Sub.nil _)))))))))))))))))
   ·rintro ρ' B' H' ⟨rfl, rfl, rfl⟩
    refine Cx.condD rfl (fun h17 => ?_) (fun h17 => ?_)
    ·
     have z3 := h17
     refine Cx.seq (fun K18 k18 => ?_)
     have hsb : v.s.length ≤ 1048576 := by unfold bytesF at hb; rw [if_neg z1, if_neg z2, if_pos z3] at hb; unfold txtL at hb; simp only [List.length_append] at hb; omega
     have htl := textL_len v.s
     refine Cx.region <| Lx.y (mv rfl) rfl <| Lx.y (fa' fo25_3 rfl) rfl <| Lx.y (ld U9 rfl rfl rfl) rfl <| ?_
     refine Lx.cp rfl rfl rfl (text_ct _ _ hM (by omega)) rfl ?_
     refine Lx.y (catS rfl rfl (by first | omega | (simp <;> omega))) rfl <| Lx.y (asg rfl) rfl <| Lx.nil <| ?_
     refine Xx.tn (k18 _ _ _ _ ?_)
     refine Cx.ret ?_
     refine Xx.br ?_
     refine Xx.tr ?_
     refine Xx.dropB b1 (Xx.rB1 rfl rfl ⟨congrArg str ?_, rfl⟩ (Frag.le_refl _) rfl)
     first | exact hkf.symm | (unfold keyF; rw [if_pos z1, zb]; rfl) | (unfold keyF; rw [if_neg z1, if_pos z2]; rfl) | (unfold keyF; rw [if_neg z1, if_neg z2, if_pos z3]; done) | (unfold keyF; rw [if_neg z1, if_neg z2, if_neg z3, if_neg z4])
    ·
     have z3 := h17
     refine Cx.cutK (ds' := []) (Sc 0 rfl (Sc 1 rfl (Sc 2 rfl (Sc 3 rfl (Sc 6 rfl (Sc 7 rfl (Sc 8 rfl (Sc 9 rfl (Sc 10 rfl (Sc 11 rfl (Sc 12 rfl (Sc 13 rfl (Sc 14 rfl (Sc 21 rfl (Sc 22 rfl (Sc 30 rfl (Sub.nil _))))))))))))))))) (fun ρ' B' H' => ρ' = [(38, .bool (decide (v.kind = 5 ∨ v.kind = 6)))] ∧ B = B' ∧ row b1 25 (vcs v Ap cp An cn) * R = H') ?_ ?_
     ·
      refine Cx.seq (fun K19 k19 => ?_)
      refine Cx.region <| Lx.y (eqI rfl rfl) rfl <| Lx.y (asg rfl) rfl <| Lx.nil <| ?_
      refine Xx.tn (k19 _ _ _ _ ?_)
      refine Cx.condD rfl (fun h20 => ?_) (fun h20 => ?_)
      ·
       have z4 := h20
       refine Cx.skip ?_
       exact Xx.mkK (⟨rfl, rfl, rfl⟩) (Sub.consE (s := 38) rfl (by first | exact congrArg Value.bool (decide_eq_true (by omega)).symm | exact congrArg Value.bool (decide_eq_decide.2 (by omega))) (Sc 0 rfl (Sc 1 rfl (Sc 2 rfl (Sc 3 rfl (Sc 6 rfl (Sc 7 rfl (Sc 8 rfl (Sc 9 rfl (Sc 10 rfl (Sc 11 rfl (Sc 12 rfl (Sc 13 rfl (Sc 14 rfl (Sc 21 rfl (Sc 22 rfl (Sc 30 rfl (Sub.nil _))))))))))))))))))
      ·
       have z4 := h20
       refine Cx.region <| Lx.y (eqI rfl rfl) rfl <| Lx.y (asg rfl) rfl <| Lx.nil <| ?_
       exact Xx.mkK (⟨rfl, rfl, rfl⟩) (Sub.consE (s := 38) rfl (by first | exact congrArg Value.bool (decide_eq_true (by omega)).symm | exact congrArg Value.bool (decide_eq_decide.2 (by omega))) (Sc 0 rfl (Sc 1 rfl (Sc 2 rfl (Sc 3 rfl (Sc 6 rfl (Sc 7 rfl (Sc 8 rfl (Sc 9 rfl (Sc 10 rfl (Sc 11 rfl (Sc 12 rfl (Sc 13 rfl (Sc 14 rfl (Sc 21 rfl (Sc 22 rfl (Sc 30 rfl (Sub.nil _))))))))))))))))))
     ·rintro ρ' B' H' ⟨rfl, rfl, rfl⟩
      refine Cx.condD rfl (fun h21 => ?_) (fun h21 => ?_)
      ·
       have z4 := h21
       refine Cx.seq (fun K22 k22 => ?_)
       refine Cx.seq (fun K23 k23 => ?_)
       have hbf : bytesF (d + 1) v = preB (bytesF d) v v.parts.length := by unfold bytesF; rw [if_neg (by omega), if_neg (by omega), if_neg (by omega), if_pos z4]
       rw [hbf] at hb
       have hkf : keyF (d + 1) v = preK (keyF d) v v.parts.length ++ [0] := by unfold keyF; rw [if_neg (by omega), if_neg (by omega), if_neg (by omega), if_pos z4]
       refine Cx.region <| Lx.y (fa' fo25_4 rfl) rfl <| Lx.y (ld U22 rfl rfl rfl) rfl <| Lx.y (lenV (ty' := 0) U22 rfl) rfl <| Lx.y (mv rfl) rfl <| Lx.nil <| ?_
       refine Xx.tn (k23 _ _ _ _ ?_)
       refine Cx.block ?_
       refine Cx.loopK (Sc 0 rfl (Sc 1 rfl (Sc 2 rfl (Sc 6 rfl (Sc 7 rfl (Sc 8 rfl (Sc 9 rfl (Sc 10 rfl (Sc 11 rfl (Sc 12 rfl (Sc 13 rfl (Sc 14 rfl (Sc 21 rfl (Sc 22 rfl (Sc 30 rfl (Sc 38 rfl (Sc 41 rfl (Sc 42 rfl (Sc 43 rfl (Sub.nil _)))))))))))))))))))) (fun m ρ' B' H' => ∃ (i : Nat), (i ≤ v.parts.length) ∧ m = v.parts.length - i ∧ ρ' = [(3, str (preK (keyF d) v i)), (44, i64 i)] ∧ B = B' ∧ row b1 25 (vcs v Ap cp An cn) * R = H') ⟨0, Nat.zero_le _, rfl, rfl, rfl, rfl⟩ (Sub.consE (s := 3) rfl (by simp [preK]) (Sc 44 rfl (Sc 0 rfl (Sc 1 rfl (Sc 2 rfl (Sc 6 rfl (Sc 7 rfl (Sc 8 rfl (Sc 9 rfl (Sc 10 rfl (Sc 11 rfl (Sc 12 rfl (Sc 13 rfl (Sc 14 rfl (Sc 21 rfl (Sc 22 rfl (Sc 30 rfl (Sc 38 rfl (Sc 41 rfl (Sc 42 rfl (Sc 43 rfl (Sub.nil _)))))))))))))))))))))) ?_
       rintro m ρ' B' H' ⟨i, hi, rfl, rfl, rfl, rfl⟩
       have hmi := preB_mono (bytesF d) v (show i ≤ v.parts.length by omega)
       have hki := preK_len (keyF d) (bytesF d) v hpk i (by omega)
       refine Cx.seq (fun K24 k24 => ?_)
       refine Cx.region <| Lx.y (lss rfl rfl) rfl <| Lx.nil <| ?_
       refine Xx.tn (k24 _ _ _ _ ?_)
       refine Cx.seq (fun K25 k25 => ?_)
       refine Cx.condD rfl (fun h26 => ?_) (fun h26 => ?_)
       ·
        refine Cx.skip ?_
        refine Xx.tn (k25 _ _ _ _ ?_)
        refine Cx.seq (fun K27 k27 => ?_)
        refine Cx.block ?_
        refine Cx.seq (fun K28 k28 => ?_)
        have hil : i < v.parts.length := by omega
        have hpi := hpk i hil
        have hm2 := preB_mono (bytesF d) v (show i + 1 ≤ v.parts.length by omega)
        rw [preB_succ, List.length_append] at hm2
        obtain ⟨bq, oq, lq, eq, fq, xs, rfl, hBq, hxs, hv2⟩ := hps i hil
        obtain ⟨Ap2, cp2, An2, cn2, rfl⟩ := ValR.shape hv2
        refine Cx.region <| Lx.y (mv rfl) rfl <| Lx.y (ia U22 sz25 rfl rfl (by first | exact Int.toNat_natCast _ | rfl) (by omega) (by omega)) rfl <| Lx.y (ldA U25 rfl sz25 rfl (Cells.base (n := 6) hBq hxs) rfl) rfl <| ?_
        refine Lx.new (allocO ti25) rfl (fun b5 => ?_)
        refine Lx.y (asg rfl) rfl ?_
        refine Lx.st (stA (d := .bool) sz25 rfl rfl rfl rfl (by show 0 + 6 ≤ 6; omega) rfl) ?_
        refine Lx.nil ?_
        refine Xx.tn (k28 _ _ _ _ ?_)
        refine Cx.seq (fun K29 k29 => ?_)
        refine Cx.region <| Lx.y (mv rfl) rfl <| Lx.y (catS rfl rfl (by first | omega | (simp <;> omega))) rfl <| Lx.y (asg rfl) rfl <| Lx.nil <| ?_
        refine Xx.tn (k29 _ _ _ _ ?_)
        refine Cx.seq (fun K30 k30 => ?_)
        refine Cx.seq (fun K31 k31 => ?_)
        refine Cx.region <| Lx.y (mv rfl) rfl <| Lx.y (fa' fo25_5 rfl) rfl <| Lx.y (ld U23 rfl rfl rfl) rfl <| Lx.y (lenV (ty' := 0) U23 rfl) rfl <| Lx.y (lss rfl rfl) rfl <| Lx.nil <| ?_
        refine Xx.tn (k31 _ _ _ _ ?_)
        refine Cx.condD rfl (fun h32 => ?_) (fun h32 => ?_)
        ·
         have hin : i < v.names.length := by have := h32; omega
         have hpt : partK (keyF d) v i = [1] ++ textL (v.names.getD i []) ++ keyF d v.parts[i] := by unfold partK; rw [if_pos hin, getDp hil]
         have hpb : partB (bytesF d) v i = txtL (v.names.getD i []) ++ bytesF d v.parts[i] := by unfold partB; rw [if_pos hin, getDp hil]
         rw [hpb, List.length_append] at hm2
         unfold txtL at hm2
         rw [List.length_append] at hm2
         obtain ⟨bn, on, ln, en, fn, rfl, hBn, hln⟩ := hns.at1 (k := i) hin
         rw [get_map hin] at hln
         generalize v.names.getD i [] = nm at *
         have htn := textL_len nm
         refine Cx.region <| Lx.y (mv rfl) rfl <| Lx.y (fa' fo25_5 rfl) rfl <| Lx.y (ld U23 rfl rfl rfl) rfl <| Lx.y (mv rfl) rfl <| Lx.y (ia U23 sz9 rfl rfl (by first | exact Int.toNat_natCast _ | rfl) (by omega) (by omega)) rfl <| Lx.y (ldB U9 rfl rfl hBn hln) rfl <| ?_
         refine Lx.cp rfl rfl rfl (text_ct _ _ hM (by omega)) rfl ?_
         refine Lx.y (catS rfl rfl (by first | omega | (simp <;> omega))) rfl <| Lx.y (asg rfl) rfl <| Lx.nil <| ?_
         refine Xx.tn (k30 _ _ _ _ ?_)
         refine Cx.region <| Lx.y (mv rfl) rfl <| Lx.y (ldA U25 rfl sz25 rfl (Cells.own (n := 6) PickB.eq rfl) rfl) rfl <| ?_
         refine Lx.cp rfl rfl rfl (ih _ _ _ hv2 hM (by omega)) rfl ?_
         refine Lx.y (catS rfl rfl (by first | omega | (simp <;> omega))) rfl <| Lx.y (asg rfl) rfl <| Lx.nil <| Xx.bn <| ?_
         refine Xx.tn (k27 _ _ _ _ ?_)
         refine Cx.region <| Lx.y (add rfl rfl (by first | exact wrap64 (by omega) (by omega) | rfl)) rfl <| Lx.y (mv rfl) rfl <| Lx.nil <| ?_
         refine Xx.dropB b5 ?_
         exact Xx.againK ⟨i + 1, by omega, rfl, rfl, rfl, rfl⟩ (by omega) (Sub.consE (s := 3) rfl (by rw [preK_succ, hpt]; simp) (Sc 44 rfl (Sc 0 rfl (Sc 1 rfl (Sc 2 rfl (Sc 6 rfl (Sc 7 rfl (Sc 8 rfl (Sc 9 rfl (Sc 10 rfl (Sc 11 rfl (Sc 12 rfl (Sc 13 rfl (Sc 14 rfl (Sc 21 rfl (Sc 22 rfl (Sc 30 rfl (Sc 38 rfl (Sc 41 rfl (Sc 42 rfl (Sc 43 rfl (Sub.nil _))))))))))))))))))))))
        ·
         have hin : ¬ i < v.names.length := by have := h32; omega
         have hpt : partK (keyF d) v i = [1] ++ [] ++ keyF d v.parts[i] := by unfold partK; rw [if_neg hin, getDp hil]
         have hpb : partB (bytesF d) v i = bytesF d v.parts[i] := by unfold partB; rw [if_neg hin, getDp hil]; rfl
         rw [hpb] at hm2
         refine Cx.skip ?_
         refine Xx.tn (k30 _ _ _ _ ?_)
         refine Cx.region <| Lx.y (mv rfl) rfl <| Lx.y (ldA U25 rfl sz25 rfl (Cells.own (n := 6) PickB.eq rfl) rfl) rfl <| ?_
         refine Lx.cp rfl rfl rfl (ih _ _ _ hv2 hM (by omega)) rfl ?_
         refine Lx.y (catS rfl rfl (by first | omega | (simp <;> omega))) rfl <| Lx.y (asg rfl) rfl <| Lx.nil <| Xx.bn <| ?_
         refine Xx.tn (k27 _ _ _ _ ?_)
         refine Cx.region <| Lx.y (add rfl rfl (by first | exact wrap64 (by omega) (by omega) | rfl)) rfl <| Lx.y (mv rfl) rfl <| Lx.nil <| ?_
         refine Xx.dropB b5 ?_
         exact Xx.againK ⟨i + 1, by omega, rfl, rfl, rfl, rfl⟩ (by omega) (Sub.consE (s := 3) rfl (by rw [preK_succ, hpt]; simp) (Sc 44 rfl (Sc 0 rfl (Sc 1 rfl (Sc 2 rfl (Sc 6 rfl (Sc 7 rfl (Sc 8 rfl (Sc 9 rfl (Sc 10 rfl (Sc 11 rfl (Sc 12 rfl (Sc 13 rfl (Sc 14 rfl (Sc 21 rfl (Sc 22 rfl (Sc 30 rfl (Sc 38 rfl (Sc 41 rfl (Sc 42 rfl (Sc 43 rfl (Sub.nil _))))))))))))))))))))))
       ·
        obtain rfl : i = v.parts.length := by omega
        refine Cx.exit <| Xx.te <| Xx.te <| Xx.bh <| ?_
        refine Xx.tn (k22 _ _ _ _ ?_)
        refine Cx.seq (fun K33 k33 => ?_)
        refine Cx.region <| Lx.y (mv rfl) rfl <| Lx.y (catS rfl rfl (by first | omega | (simp <;> omega))) rfl <| Lx.y (asg rfl) rfl <| Lx.nil <| ?_
        refine Xx.tn (k33 _ _ _ _ ?_)
        refine Cx.ret ?_
        refine Xx.br ?_
        refine Xx.tr ?_
        refine Xx.dropB b1 (Xx.rB1 rfl rfl ⟨congrArg str ?_, rfl⟩ (Frag.le_refl _) rfl)
        first | exact hkf.symm | (unfold keyF; rw [if_pos z1, zb]; rfl) | (unfold keyF; rw [if_neg z1, if_pos z2]; rfl) | (unfold keyF; rw [if_neg z1, if_neg z2, if_pos z3]; done) | (unfold keyF; rw [if_neg z1, if_neg z2, if_neg z3, if_neg z4])
      ·
       have z4 := h21
       refine Cx.skip <| Xx.bn <| ?_
       refine Xx.tn (k3 _ _ _ _ ?_)
       refine Cx.seq (fun K34 k34 => ?_)
       refine Cx.region <| Lx.y (mv rfl) rfl <| Lx.y (asg rfl) rfl <| Lx.nil <| ?_
       refine Xx.tn (k34 _ _ _ _ ?_)
       refine Cx.ret ?_
       refine Xx.dropB b1 (Xx.rB1 rfl rfl ⟨congrArg str ?_, rfl⟩ (Frag.le_refl _) rfl)
       first | exact hkf.symm | (unfold keyF; rw [if_pos z1, zb]; rfl) | (unfold keyF; rw [if_neg z1, if_pos z2]; rfl) | (unfold keyF; rw [if_neg z1, if_neg z2, if_pos z3]; done) | (unfold keyF; rw [if_neg z1, if_neg z2, if_neg z3, if_neg z4])
theorem Of_ct : ∀ (d : Nat) (v : V) (cs : List Value) (B : Frag), ValR B d v cs → MaxLenIn B → (bytesF d v).length ≤ 1048576 → CtP Tryz.prog 64 [.agg cs.toArray] B (str (keyF d v)) := by
  intro d
  induction d with
  | zero => intro v cs B h; exact h.elim
  | succ d ih => intro v cs B h hM hb; exact Of_step d ih v cs B h hM hb
end KeC
end Go.Proofs.YtdidpocakipinaaGreatDoor
namespace Go.Proofs.YtdidpocakipinaaGreatDoor
open Go.SL Go.RowKit
set_option maxRecDepth 100000
open Ke1 Ke3 Ke4 Ke5 Ke6 Ke7 Ke8 Ke9 KeA KeB KeC
namespace KeD
theorem ti5 : TI Tryz.prog 5 [.int .u8 0] 1 1 := TI.of (by kernel_rfl) rfl rfl
theorem numL_drop (n : BitVec 64) {i : Nat} (h : i < 8) : toB (((n >>> (8 * i)) % 256#64).toNat : Nat) :: (numL n).drop (8 - i) = (numL n).drop (8 - (i + 1)) := by
  have e : ∀ x : BitVec 64, toB ((x % 256#64).toNat : Nat) = toB (x.toNat : Nat) := fun x => by
    unfold toB
    rw [BitVec.toNat_umod]
    congr 1
    show ((((x.toNat % 256 : Nat) : Int)) % 256).toNat = (((x.toNat : Nat) : Int) % 256).toNat
    omega
  rw [e]
  rcases (by omega : i = 0 ∨ i = 1 ∨ i = 2 ∨ i = 3 ∨ i = 4 ∨ i = 5 ∨ i = 6 ∨ i = 7) with rfl | rfl | rfl | rfl | rfl | rfl | rfl | rfl <;> rfl
theorem shr_div (n : BitVec 64) (i : Nat) : (n >>> (8 * i)) / 256#64 = n >>> (8 * (i + 1)) := by
  have : (n >>> (8 * i)) / 256#64 = (n >>> (8 * i)) >>> 8 := by
    apply BitVec.eq_of_toNat_eq
    rw [BitVec.toNat_udiv, BitVec.toNat_ushiftRight (i := 8), Nat.shiftRight_eq_div_pow]; rfl
  rw [this, ← BitVec.shiftRight_add]; rfl
set_option maxHeartbeats 1000000 in
theorem eight_ct (n : BitVec 64) (B : Frag) : CtP Tryz.prog 116 [u64 n] B (str (numL n)) := by
 refine CtB.of_body Tryz.func116 rfl (nt := 19) rfl (by kernel_rfl) rfl ?_
 intro N0 w0 R
 refine Cx.seq (fun K1 k1 => ?_)
 refine Cx.region <| Lx.y (asg rfl) rfl <| Lx.nil <| ?_
 refine Xx.tn (k1 _ _ _ _ ?_)
 refine Cx.seq (fun K2 k2 => ?_)
 refine Cx.region <| Lx.y (asg rfl) rfl <| Lx.nil <| ?_
 refine Xx.tn (k2 _ _ _ _ ?_)
 refine Cx.seq (fun K3 k3 => ?_)
 refine Cx.seq (fun K4 k4 => ?_)
 refine Cx.region <| Lx.y (asg rfl) rfl <| Lx.nil <| ?_
 refine Xx.tn (k4 _ _ _ _ ?_)
 refine Cx.block ?_
 refine Cx.loopK (Sc 2 rfl (Sub.nil _)) (fun m ρ' B' H' => ∃ (i : Nat), (i ≤ 8) ∧ m = 8 - i ∧ ρ' = [(0, u64 (n >>> (8 * i))), (3, str ((numL n).drop (8 - i))), (4, i64 i)] ∧ B = B' ∧ R = H') ⟨0, by omega, rfl, rfl, rfl, rfl⟩ (Sub.consE (s := 0) rfl (by simp) (Sub.consE (s := 3) rfl (by rfl) (Sc 4 rfl (Sc 2 rfl (Sub.nil _))))) ?_
 rintro m ρ' B' H' ⟨i, hi, rfl, rfl, rfl, rfl⟩
 refine Cx.seq (fun K5 k5 => ?_)
 refine Cx.seq (fun K6 k6 => ?_)
 refine Cx.region <| Lx.y (mv rfl) rfl <| Lx.y (lss rfl rfl) rfl <| Lx.nil <| ?_
 refine Xx.tn (k6 _ _ _ _ ?_)
 refine Cx.condD rfl (fun h7 => ?_) (fun h7 => ?_)
 ·
  refine Cx.skip ?_
  refine Xx.tn (k5 _ _ _ _ ?_)
  refine Cx.seq (fun K8 k8 => ?_)
  refine Cx.block ?_
  refine Cx.seq (fun K9 k9 => ?_)
  refine Cx.region <| Lx.y (mv rfl) rfl <| Lx.y (remW64 (b := 256#64) rfl rfl (by decide)) rfl <| Lx.y (cvI rfl U34 U5 (wrap_u8 _)) rfl <| ?_
  refine Lx.bsl (bsl1 U106 ti5 rfl rfl rfl (by decide)) rfl (fun b12 => ?_)
  refine Lx.y (b2sR U106 U5 U9 rfl (u8s_cons u8s_nil) rfl) rfl <| Lx.y (mv rfl) rfl <| Lx.y (catS rfl rfl (by first | omega | (simp <;> omega))) rfl <| Lx.y (asg rfl) rfl <| Lx.nil <| ?_
  refine Xx.tn (k9 _ _ _ _ ?_)
  refine Cx.region <| Lx.y (mv rfl) rfl <| Lx.y (quoW64 (b := 256#64) rfl rfl (by decide)) rfl <| Lx.y (asg rfl) rfl <| Lx.nil <| Xx.bn <| ?_
  refine Xx.tn (k8 _ _ _ _ ?_)
  refine Cx.region <| Lx.y (mv rfl) rfl <| Lx.y (add rfl rfl (by first | exact wrap64 (by omega) (by omega) | rfl)) rfl <| Lx.y (asg rfl) rfl <| Lx.nil <| ?_
  refine Xx.dropB b12 ?_
  exact Xx.againK ⟨i + 1, by omega, rfl, rfl, rfl, rfl⟩ (by omega) (Sub.consE (s := 0) rfl (by rw [shr_div]) (Sub.consE (s := 3) rfl (by rw [← numL_drop n (show i < 8 by omega)]; rfl) (Sc 4 rfl (Sc 2 rfl (Sub.nil _)))))
 ·
  obtain rfl : i = 8 := by omega
  refine Cx.exit <| Xx.te <| Xx.te <| Xx.bh <| ?_
  refine Xx.tn (k3 _ _ _ _ ?_)
  refine Cx.seq (fun K10 k10 => ?_)
  refine Cx.region <| Lx.y (mv rfl) rfl <| Lx.y (asg rfl) rfl <| Lx.nil <| ?_
  refine Xx.tn (k10 _ _ _ _ ?_)
  refine Cx.ret ?_
  exact Xx.rB1 rfl rfl ⟨rfl, rfl⟩ (Frag.le_refl _) rfl
end KeD
end Go.Proofs.YtdidpocakipinaaGreatDoor
namespace Go.Proofs.YtdidpocakipinaaGreatDoor
open Go.SL Go.RowKit
set_option maxRecDepth 100000
open Ke1 Ke3 Ke4 Ke5 Ke6 Ke7 Ke8 Ke9 KeA KeB KeC KeD
namespace KeE
theorem sz9 : (Tryz.prog.info? 9).map (·.size) = some 1 := by kernel_rfl
theorem sz22 : (Tryz.prog.info? 22).map (·.size) = some 1 := by kernel_rfl
theorem sz23 : (Tryz.prog.info? 23).map (·.size) = some 1 := by kernel_rfl
theorem sz25 : (Tryz.prog.info? 25).map (·.size) = some 6 := by kernel_rfl
theorem sz37 : (Tryz.prog.info? 37).map (·.size) = some 1 := by kernel_rfl
theorem sz39 : (Tryz.prog.info? 39).map (·.size) = some 6 := by kernel_rfl
theorem ti25 : TI Tryz.prog 25 [.int .i64 0, .bool false, .int .i64 0, str [], .slice none 0 0, .slice none 0 0] 6 88 := TI.of (by kernel_rfl) rfl rfl
theorem ti39 : TI Tryz.prog 39 [.int .i64 0, .bool false, .int .i64 0, str [], .slice none 0 0, .slice none 0 0] 6 88 := TI.of (by kernel_rfl) rfl rfl
theorem fo25_0 : FO Tryz.prog 25 0 0 1 false := FO.of U25 rfl rfl (by kernel_rfl) U3 rfl rfl
theorem fo25_1 : FO Tryz.prog 25 1 1 1 false := FO.of U25 rfl rfl (by kernel_rfl) U4 rfl rfl
theorem fo25_2 : FO Tryz.prog 25 2 2 1 false := FO.of U25 rfl rfl (by kernel_rfl) U2 rfl rfl
theorem fo25_3 : FO Tryz.prog 25 3 3 1 false := FO.of U25 rfl rfl (by kernel_rfl) U9 rfl rfl
theorem fo25_4 : FO Tryz.prog 25 4 4 1 false := FO.of U25 rfl rfl (by kernel_rfl) U22 rfl rfl
theorem fo25_5 : FO Tryz.prog 25 5 5 1 false := FO.of U25 rfl rfl (by kernel_rfl) U23 rfl rfl
theorem fo39_4 : FO Tryz.prog 39 4 4 1 false := FO.of U39 rfl rfl (by kernel_rfl) U37 rfl rfl
theorem pl39 : PL Tryz.prog 39 [(0, 1), (1, 1), (2, 1), (3, 1), (4, 1), (5, 1)] := PL.of U39 (by kernel_rfl)
theorem RoE.take {B : Frag} {A : Option Addr} {n : Nat} {xs : List Value} (w : Nat) (h : RoE B A n xs) : RoE B A (min w n) (xs.take w) := by
  refine ⟨by have := h.1; simp; omega, fun k hk => ?_⟩
  obtain ⟨b, o, cs, et, fz, h1, h2, h3⟩ := h.2 k (by omega)
  exact ⟨b, o, cs, et, fz, h1, h2, by rw [h3, List.getElem?_take, if_pos (by omega)]⟩
theorem RoS.part {B : Frag} {A : Option Addr} {n size : Nat} {xs : List Value} (h : RoS B size A n xs) {i : Nat} (hi : i < n) : ∃ b o l et fz, A = some ⟨b, o, none⟩ ∧ B b = some (.cells (List.toArray l) et fz) ∧ (l.drop (o + i * size)).take size = (xs.drop (i * size)).take size := by
  obtain ⟨h1, h2 | ⟨b, o, cs, et, fz, h3, h4, h5⟩⟩ := h
  · omega
  · refine ⟨b, o, cs, et, fz, h3, h4, ?_⟩
    have hle : i * size + size ≤ n * size := by rw [← Nat.succ_mul]; exact Nat.mul_le_mul_right _ hi
    rw [← h5, ← List.drop_drop, List.drop_take, List.take_take, Nat.min_eq_left (by omega)]
theorem ValR.mk {B : Frag} {d : Nat} {v : V} {A An : Option Addr} {c cn : Nat} {xs : List Value} (hs : v.s.length ≤ 4611686018427387904 ∧ -9223372036854775808 ≤ v.n ∧ v.n ≤ 9223372036854775807 ∧ v.names.length ≤ cn ∧ v.parts.length ≤ c) (hp : v.parts.length ≤ 4611686018427387904) (hn : v.names.length ≤ 4611686018427387904)
    (hns : RoE B An v.names.length (v.names.map str)) (hnx : ∀ x ∈ v.names, x.length ≤ 4611686018427387904) (hro : RoS B 6 A v.parts.length xs) (hall : ∀ k (hk : k < v.parts.length), ValR B d v.parts[k] ((xs.drop (k * 6)).take 6)) : ValR B (d + 1) v (vcs v A c An cn) :=
  ⟨A, c, An, cn, rfl, hs, hp, hn, hns, hnx, fun i hi => let ⟨b, o, l, et, fz, h1, h2, h3⟩ := RoS.part hro hi; ⟨b, o, l, et, fz, _, h1, h2, h3, hall i hi⟩⟩
def cutF : Nat → Nat → V → V
  | 0, w, v => .mk v.kind v.b v.n (v.s.take 1100) [] (v.names.take w)
  | d + 1, w, v => .mk v.kind v.b v.n (v.s.take 1100) ((v.parts.take w).map (cutF d 4)) (v.names.take w)
def cutN (d w : Nat) (v : V) : Nat := if d = 0 then 0 else min v.parts.length w
theorem cutF_kind (d w : Nat) (v : V) : (cutF d w v).kind = v.kind := by cases d <;> rfl
theorem cutF_b (d w : Nat) (v : V) : (cutF d w v).b = v.b := by cases d <;> rfl
theorem cutF_n (d w : Nat) (v : V) : (cutF d w v).n = v.n := by cases d <;> rfl
theorem cutF_s (d w : Nat) (v : V) : (cutF d w v).s = v.s.take 1100 := by cases d <;> rfl
theorem cutF_names (d w : Nat) (v : V) : (cutF d w v).names = v.names.take w := by cases d <;> rfl
theorem cutF_parts (d w : Nat) (v : V) : (cutF d w v).parts.length = cutN d w v := by
  cases d with
  | zero => rfl
  | succ d => show ((v.parts.take w).map _).length = _; unfold cutN; rw [if_neg (by omega)]; simp; omega
theorem cutF_part {d w : Nat} {v : V} {i : Nat} (h : i < v.parts.length) (hi : i < (cutF (d + 1) w v).parts.length) : (cutF (d + 1) w v).parts[i] = cutF d 4 v.parts[i] := by
  show ((v.parts.take w).map (cutF d 4))[i] = _
  simp
theorem cutF_getD {d w : Nat} {v : V} {i : Nat} (h : i < v.parts.length) (hi : i < cutN (d + 1) w v) : (cutF (d + 1) w v).parts.getD i default = cutF d 4 v.parts[i] := by
  rw [getDp (by rw [cutF_parts]; exact hi), cutF_part h]
def PartsR (B : Frag) (d : Nat) (f : Nat → V) (n : Nat) (xs : List Value) : Prop := xs.length = n * 6 ∧ ∀ k, k < n → ValR B d (f k) ((xs.drop (k * 6)).take 6)
theorem PartsR.mono {B B' : Frag} {d n : Nat} {f : Nat → V} {xs : List Value} (hB : B.le B') (h : PartsR B d f n xs) : PartsR B' d f n xs := ⟨h.1, fun k hk => ValR.mono hB (h.2 k hk)⟩
theorem PartsR.snoc {B : Frag} {d n : Nat} {f : Nat → V} {xs cs : List Value} (h : PartsR B d f n xs) (hl : cs.length = 6) (hv : ValR B d (f n) cs) : PartsR B d f (n + 1) (xs ++ cs) := by
  refine ⟨by simp [h.1, hl]; omega, fun k hk => ?_⟩
  by_cases e : k = n
  · subst e
    rw [← h.1, List.drop_left, List.take_of_length_le (by omega)]
    exact hv
  · have hk2 : k < n := by omega
    have hle : k * 6 + 6 ≤ n * 6 := by omega
    rw [List.drop_append_of_le_length (by rw [h.1]; omega), List.take_append_of_le_length (by rw [List.length_drop, h.1]; omega)]
    exact h.2 k hk2
theorem min_take {α : Type} (l : List α) (w : Nat) (h : l.length ≤ w) : l.take w = l := List.take_of_length_le h
set_option maxHeartbeats 1000000 in
theorem Cut_step (deep w : Nat) (hw : w ≤ 1000) (hd9 : deep ≤ 1000) (ih : ∀ k, k + 1 = deep → ∀ (v : V) (cs : List Value) (d : Nat) (B : Frag), ValR B d v cs → CtB Tryz.prog 8 [.agg cs.toArray, i64 (k : Nat), i64 4] B (fun r B' => ∃ cs', r = .agg cs'.toArray ∧ ValR B' (k + 1) (cutF k 4 v) cs')) (v : V) (cs : List Value) (d : Nat) (B : Frag) (h : ValR B d v cs) : CtB Tryz.prog 8 [.agg cs.toArray, i64 (deep : Nat), i64 (w : Nat)] B (fun r B' => ∃ cs', r = .agg cs'.toArray ∧ ValR B' (deep + 1) (cutF deep w v) cs') := by
 obtain ⟨d, rfl⟩ : ∃ d0, d = d0 + 1 := ⟨d - 1, by cases d with | zero => exact h.elim | succ d => rfl⟩
 obtain ⟨Ap, cp, An, cn, rfl, ⟨hsl, hn1, hn2, hcn, hcp⟩, hpl, hnl, hns, hnx, hps⟩ := h
 refine CtB.of_body Tryz.func8 rfl (nt := 58) rfl (by kernel_rfl) rfl ?_
 intro N0 w0 R
 refine Cx.seq (fun K1 k1 => ?_)
 refine Cx.region ?_
 refine Lx.new (boxA rfl) rfl (fun b3 => ?_)
 refine Lx.new (allocO ti25) rfl (fun b6 => ?_)
 refine Lx.nil ?_
 refine Xx.tn (k1 _ _ _ _ ?_)
 refine Cx.seq (fun K2 k2 => ?_)
 refine Cx.region <| Lx.y (ldA U25 rfl sz25 rfl (Cells.own (n := 6) PickB.eq rfl) rfl) rfl <| ?_
 refine Lx.new (allocO ti25) rfl (fun b7 => ?_)
 refine Lx.st (stA (d := .bool) sz25 rfl rfl rfl rfl (by show 0 + 6 ≤ 6; omega) rfl) ?_
 refine Lx.nil ?_
 refine Xx.tn (k2 _ _ _ _ ?_)
 refine Cx.cutK (ds' := []) (Sc 0 rfl (Sc 1 rfl (Sc 2 rfl (Sc 3 rfl (Sc 6 rfl (Sc 7 rfl (Sc 10 rfl (Sub.nil _)))))))) (fun ρ' B' H' => ρ' = [] ∧ B = B' ∧ row b7 25 [i64 v.kind, .bool v.b, i64 v.n, str (v.s.take 1100), .slice Ap v.parts.length cp, .slice An v.names.length cn] * (row b6 25 [i64 0, .bool false, i64 0, str [], .slice none 0 0, .slice none 0 0] * (row b3 25 (vcs v Ap cp An cn) * R)) = H') ?_ ?_
 ·
  refine Cx.seq (fun K3 k3 => ?_)
  refine Cx.region <| Lx.y (fa' fo25_3 rfl) rfl <| Lx.y (ld U9 rfl rfl rfl) rfl <| Lx.y (lenS U9 rfl) rfl <| Lx.y (gtr rfl rfl) rfl <| Lx.nil <| ?_
  refine Xx.tn (k3 _ _ _ _ ?_)
  refine Cx.condD rfl (fun h4 => ?_) (fun h4 => ?_)
  ·
   refine Cx.region <| Lx.y (fa' fo25_3 rfl) rfl <| Lx.y (ld U9 rfl rfl rfl) rfl <| Lx.y (sl2S U9 rfl rfl (show Int.toNat _ = 1100 from rfl) (by omega) (by omega)) rfl <| Lx.y (fa' fo25_3 rfl) rfl <| ?_
   refine Lx.st (stO U9 sz9 rfl rfl rfl (by simp) rfl) ?_
   refine Lx.nil ?_
   exact Xx.mkK (⟨rfl, rfl, rfl⟩) (Sc 0 rfl (Sc 1 rfl (Sc 2 rfl (Sc 3 rfl (Sc 6 rfl (Sc 7 rfl (Sc 10 rfl (Sub.nil _))))))))
  ·
   refine Cx.skip ?_
   exact Xx.mkK (⟨rfl, rfl, by rw [min_take v.s 1100 (by omega)]⟩) (Sc 0 rfl (Sc 1 rfl (Sc 2 rfl (Sc 3 rfl (Sc 6 rfl (Sc 7 rfl (Sc 10 rfl (Sub.nil _))))))))
 ·rintro ρ' B' H' ⟨rfl, rfl, rfl⟩
  refine Cx.seq (fun K5 k5 => ?_)
  refine Cx.region <| Lx.y (fa' fo25_4 rfl) rfl <| Lx.y (ld U22 rfl rfl rfl) rfl <| Lx.y (lenV (ty' := 0) U22 rfl) rfl <| Lx.y (asg rfl) rfl <| Lx.nil <| ?_
  refine Xx.tn (k5 _ _ _ _ ?_)
  refine Cx.cutK (ds' := []) (Sc 0 rfl (Sc 1 rfl (Sc 2 rfl (Sc 3 rfl (Sc 6 rfl (Sc 7 rfl (Sc 10 rfl (Sc 19 rfl (Sc 20 rfl (Sc 21 rfl (Sub.nil _))))))))))) (fun ρ' B' H' => ρ' = [(8, i64 (min v.parts.length w : Nat))] ∧ B = B' ∧ row b7 25 [i64 v.kind, .bool v.b, i64 v.n, str (v.s.take 1100), .slice Ap v.parts.length cp, .slice An v.names.length cn] * (row b6 25 [i64 0, .bool false, i64 0, str [], .slice none 0 0, .slice none 0 0] * (row b3 25 (vcs v Ap cp An cn) * R)) = H') ?_ ?_
  ·
   refine Cx.seq (fun K6 k6 => ?_)
   refine Cx.region <| Lx.y (mv rfl) rfl <| Lx.y (mv rfl) rfl <| Lx.y (gtr rfl rfl) rfl <| Lx.nil <| ?_
   refine Xx.tn (k6 _ _ _ _ ?_)
   refine Cx.condD rfl (fun h7 => ?_) (fun h7 => ?_)
   ·
    refine Cx.region <| Lx.y (mv rfl) rfl <| Lx.y (asg rfl) rfl <| Lx.nil <| ?_
    exact Xx.mkK (⟨rfl, rfl, rfl⟩) (Sub.consE (s := 8) rfl (congrArg (fun z : Nat => i64 (z : Nat)) (by omega)) (Sc 0 rfl (Sc 1 rfl (Sc 2 rfl (Sc 3 rfl (Sc 6 rfl (Sc 7 rfl (Sc 10 rfl (Sc 19 rfl (Sc 20 rfl (Sc 21 rfl (Sub.nil _))))))))))))
   ·
    refine Cx.skip ?_
    exact Xx.mkK (⟨rfl, rfl, rfl⟩) (Sub.consE (s := 8) rfl (congrArg (fun z : Nat => i64 (z : Nat)) (by omega)) (Sc 0 rfl (Sc 1 rfl (Sc 2 rfl (Sc 3 rfl (Sc 6 rfl (Sc 7 rfl (Sc 10 rfl (Sc 19 rfl (Sc 20 rfl (Sc 21 rfl (Sub.nil _))))))))))))
  ·rintro ρ' B' H' ⟨rfl, rfl, rfl⟩
   refine Cx.cutK (ds' := []) (Sc 0 rfl (Sc 1 rfl (Sc 2 rfl (Sc 3 rfl (Sc 6 rfl (Sc 7 rfl (Sc 10 rfl (Sc 19 rfl (Sc 20 rfl (Sc 21 rfl (Sub.nil _))))))))))) (fun ρ' B' H' => ρ' = [(8, i64 (cutN deep w v : Nat))] ∧ B = B' ∧ row b7 25 [i64 v.kind, .bool v.b, i64 v.n, str (v.s.take 1100), .slice Ap v.parts.length cp, .slice An v.names.length cn] * (row b6 25 [i64 0, .bool false, i64 0, str [], .slice none 0 0, .slice none 0 0] * (row b3 25 (vcs v Ap cp An cn) * R)) = H') ?_ ?_
   ·
    refine Cx.seq (fun K8 k8 => ?_)
    refine Cx.region <| Lx.y (mv rfl) rfl <| Lx.y (eqI rfl rfl) rfl <| Lx.nil <| ?_
    refine Xx.tn (k8 _ _ _ _ ?_)
    refine Cx.condD rfl (fun h9 => ?_) (fun h9 => ?_)
    ·
     refine Cx.region <| Lx.y (asg rfl) rfl <| Lx.nil <| ?_
     exact Xx.mkK (⟨rfl, rfl, rfl⟩) (Sub.consE (s := 8) rfl (congrArg (fun z : Nat => i64 (z : Nat)) (show 0 = cutN deep w v by unfold cutN; rw [if_pos (by omega)])) (Sc 0 rfl (Sc 1 rfl (Sc 2 rfl (Sc 3 rfl (Sc 6 rfl (Sc 7 rfl (Sc 10 rfl (Sc 19 rfl (Sc 20 rfl (Sc 21 rfl (Sub.nil _))))))))))))
    ·
     refine Cx.skip ?_
     exact Xx.mkK (⟨rfl, rfl, rfl⟩) (Sub.consE (s := 8) rfl (congrArg (fun z : Nat => i64 (z : Nat)) (show min v.parts.length w = cutN deep w v by unfold cutN; rw [if_neg (by omega)])) (Sc 0 rfl (Sc 1 rfl (Sc 2 rfl (Sc 3 rfl (Sc 6 rfl (Sc 7 rfl (Sc 10 rfl (Sc 19 rfl (Sc 20 rfl (Sc 21 rfl (Sub.nil _))))))))))))
   ·rintro ρ' B' H' ⟨rfl, rfl, rfl⟩
    refine Cx.seq (fun K10 k10 => ?_)
    refine Cx.region <| Lx.y (fa' fo25_4 rfl) rfl <| ?_
    refine Lx.st (stO U22 sz22 rfl rfl rfl (by simp) rfl) ?_
    have hcn1 : cutN deep w v ≤ v.parts.length := by unfold cutN; split <;> omega
    have hcn2 : cutN deep w v ≤ w := by unfold cutN; split <;> omega
    refine Lx.nil ?_
    refine Xx.tn (k10 _ _ _ _ ?_)
    refine Cx.seq (fun K11 k11 => ?_)
    refine Cx.seq (fun K12 k12 => ?_)
    refine Cx.region <| Lx.y (asg rfl) rfl <| ?_
    refine Xx.perm (H' := sbuf 25 6 none 0 0 [] * (_ * (_ * (_ * R)))) ?_ (by rw [sbuf_nil, one_star])
    refine Lx.nil ?_
    refine Xx.tn (k12 _ _ _ _ ?_)
    refine Cx.block ?_
    refine Cx.loopK (Sc 0 rfl (Sc 1 rfl (Sc 2 rfl (Sc 3 rfl (Sc 6 rfl (Sc 7 rfl (Sc 8 rfl (Sc 10 rfl (Sc 19 rfl (Sc 20 rfl (Sc 21 rfl (Sc 28 rfl (Sub.nil _))))))))))))) (fun m ρ' B' H' => ∃ (i : Nat) (A : Option Addr) (c : Nat) (xs : List Value) (B2 : Frag), (i ≤ cutN deep w v ∧ B.le B2 ∧ PartsR B2 deep (fun k => (cutF deep w v).parts.getD k default) i xs) ∧ m = cutN deep w v - i ∧ ρ' = [(9, i64 i)] ∧ B2 = B' ∧ sbuf 25 6 A i c xs * (row b7 25 [i64 v.kind, .bool v.b, i64 v.n, str (v.s.take 1100), .slice A i c, .slice An v.names.length cn] * (row b6 25 [i64 0, .bool false, i64 0, str [], .slice none 0 0, .slice none 0 0] * (row b3 25 (vcs v Ap cp An cn) * R))) = H') ⟨0, none, 0, [], _, ⟨Nat.zero_le _, Frag.le_refl _, rfl, fun k hk => absurd hk (by omega)⟩, rfl, rfl, rfl, rfl⟩ (Sc 9 rfl (Sc 0 rfl (Sc 1 rfl (Sc 2 rfl (Sc 3 rfl (Sc 6 rfl (Sc 7 rfl (Sc 8 rfl (Sc 10 rfl (Sc 19 rfl (Sc 20 rfl (Sc 21 rfl (Sc 28 rfl (Sub.nil _)))))))))))))) ?_
    rintro m ρ' B' H' ⟨i, A, c, xs, B2, ⟨hi, hB2, hpr⟩, rfl, rfl, rfl, rfl⟩
    refine Cx.seq (fun K13 k13 => ?_)
    refine Cx.seq (fun K14 k14 => ?_)
    refine Cx.region <| Lx.y (mv rfl) rfl <| Lx.y (mv rfl) rfl <| Lx.y (lss rfl rfl) rfl <| Lx.nil <| ?_
    refine Xx.tn (k14 _ _ _ _ ?_)
    refine Cx.condD rfl (fun h15 => ?_) (fun h15 => ?_)
    ·
     have hlt := h15
     refine Cx.skip ?_
     refine Xx.tn (k13 _ _ _ _ ?_)
     refine Cx.seq (fun K16 k16 => ?_)
     refine Cx.block ?_
     have hil : i < v.parts.length := by omega
     have hdp : deep ≠ 0 := fun e => by subst e; unfold cutN at hcn1 hi hlt; simp at hlt; omega
     obtain ⟨k, rfl⟩ : ∃ k, deep = k + 1 := ⟨deep - 1, by omega⟩
     obtain ⟨bq, oq, lq, eq, fq, xs0, rfl, hBq, hxs, hv2⟩ := hps i hil
     obtain ⟨Ap2, cp2, An2, cn2, rfl⟩ := ValR.shape hv2
     refine Cx.drawn (by kernel_rfl) ?_
     refine Dx.p (i := 0) rfl (by kernel_rfl) (fa' fo25_4 rfl) rfl ?_
     refine Dx.r (i := 1) rfl (by kernel_rfl) (ld U22 rfl rfl rfl) rfl ?_
     refine Dx.p (i := 2) rfl (by kernel_rfl) (fa' fo25_4 rfl) rfl ?_
     refine Dx.r (i := 3) rfl (by kernel_rfl) (ld U22 rfl rfl rfl) rfl ?_
     refine Dx.p (i := 4) rfl (by kernel_rfl) (mv rfl) rfl ?_
     refine Dx.p (i := 5) rfl (by kernel_rfl) (ia U22 sz25 rfl rfl (by first | exact Int.toNat_natCast _ | rfl) (by omega) (by omega)) rfl ?_
     refine Dx.r (i := 6) rfl (by kernel_rfl) (ldA U25 rfl sz25 rfl (Cells.base (n := 6) (by first | exact hB2 _ _ hBq | exact hBc _ _ (hB2 _ _ hBq)) hxs) rfl) rfl ?_
     refine Dx.p (i := 7) rfl (by kernel_rfl) (mv rfl) rfl ?_
     refine Dx.p (i := 8) rfl (by kernel_rfl) (sub rfl rfl (show IntKind.i64.wrap _ = ((k : Nat) : Int) by rw [wrap64 (by omega) (by omega)]; omega)) rfl ?_
     refine Dx.one (i := 9) (by kernel_rfl) ?_
     refine Dstep.o (i := 9) rfl (Ox.cb rfl rfl rfl (ih k rfl _ _ _ _ (ValR.mono hB2 hv2))) rfl (fun v B' H' hΦ hB => ?_)
     obtain ⟨rfl, hΦ⟩ := hΦ
     have hBc := hB
     obtain ⟨cs2, rfl, hv3⟩ := hΦ
     obtain ⟨Ap3, cp3, An3, cn3, rfl⟩ := ValR.shape hv3
     refine ⟨JOk.edge (JOk.yes (JOk.yes (JOk.top) (ld U22 rfl rfl rfl)) (ld U22 rfl rfl rfl)) (by kernel_rfl), ?_⟩
     refine Dx.one (i := 10) (by kernel_rfl) ?_
     refine Dstep.o (i := 10) rfl (bslA U22 ti25 rfl rfl (by decide)) rfl (fun v B' H' hΦ hB => ?_)
     obtain ⟨b12, rfl, rfl, rfl⟩ := hΦ; clear hB
     refine ⟨JOk.yes (JOk.yes (JOk.yes (JOk.top) (ld U22 rfl rfl rfl)) (ld U22 rfl rfl rfl)) (ldA U25 rfl sz25 rfl (Cells.base (n := 6) (by first | exact hB2 _ _ hBq | exact hBc _ _ (hB2 _ _ hBq)) hxs) rfl), ?_⟩
     refine Dx.one (i := 11) (by kernel_rfl) ?_
     refine Dstep.o (i := 11) rfl (appR U22 U22 ti25 rfl rfl rfl rfl rfl (by omega) (by omega)) rfl (fun v B' H' hΦ hB => ?_)
     obtain ⟨A2, c2, rfl, hA2, hl2, hc2, rfl, rfl⟩ := hΦ
     refine ⟨JOk.yes (JOk.yes (JOk.edge (JOk.top) (by kernel_rfl)) (ld U22 rfl rfl rfl)) (ldA U25 rfl sz25 rfl (Cells.base (n := 6) (by first | exact hB2 _ _ hBq | exact hBc _ _ (hB2 _ _ hBq)) hxs) rfl), ?_⟩
     refine Dx.p (i := 12) rfl (by kernel_rfl) (fa' fo25_4 rfl) rfl ?_
     refine Dx.one (i := 13) (by kernel_rfl) ?_
     refine Dstep.o0 (i := 13) rfl (stO U22 sz22 rfl rfl rfl (by simp) rfl) (fun v B' H' hΦ hB => ?_)
     obtain ⟨rfl, rfl⟩ := hΦ; clear hB v
     refine ⟨JOk.edge (JOk.edge (JOk.edge (JOk.top) (by kernel_rfl)) (by kernel_rfl)) (by kernel_rfl), ?_⟩
     refine Dx.done (by kernel_rfl) ?_
     refine Xx.bn ?_
     refine Xx.tn (k16 _ _ _ _ ?_)
     refine Cx.region <| Lx.y (mv rfl) rfl <| Lx.y (add rfl rfl (by first | exact wrap64 (by omega) (by omega) | rfl)) rfl <| Lx.y (asg rfl) rfl <| Lx.nil <| ?_
     refine Xx.dropB b12 ?_
     refine Xx.perm ?_ (PickS.eq (A := A2))
     exact Xx.againK ⟨i + 1, A2, c2, _, _, ⟨by omega, Frag.le_trans hB2 hBc, PartsR.snoc (hpr.mono hBc) rfl (by rw [cutF_getD hil (by omega)]; exact hv3)⟩, rfl, rfl, rfl, rfl⟩ (by omega) (Sc 9 rfl (Sc 0 rfl (Sc 1 rfl (Sc 2 rfl (Sc 3 rfl (Sc 6 rfl (Sc 7 rfl (Sc 8 rfl (Sc 10 rfl (Sc 19 rfl (Sc 20 rfl (Sc 21 rfl (Sc 28 rfl (Sub.nil _))))))))))))))
    ·
     obtain rfl : i = cutN deep w v := by omega
     refine Cx.exit <| Xx.te <| Xx.te <| Xx.bh <| ?_
     refine Xx.tn (k11 _ _ _ _ ?_)
     refine Cx.cutK (ds' := []) (Sc 0 rfl (Sc 1 rfl (Sc 2 rfl (Sc 3 rfl (Sc 6 rfl (Sc 7 rfl (Sc 8 rfl (Sc 9 rfl (Sc 10 rfl (Sc 19 rfl (Sc 20 rfl (Sc 21 rfl (Sc 28 rfl (Sc 29 rfl (Sc 30 rfl (Sc 31 rfl (Sub.nil _))))))))))))))))) (fun ρ' B' H' => ρ' = [] ∧ B2 = B' ∧ ∃ cn', (cutF deep w v).names.length ≤ cn' ∧ sbuf 25 6 A (cutN deep w v) c xs * (row b7 25 (vcs (cutF deep w v) A c An cn') * (row b6 25 [i64 0, .bool false, i64 0, str [], .slice none 0 0, .slice none 0 0] * (row b3 25 (vcs v Ap cp An cn) * R))) = H') ?_ ?_
     ·
      refine Cx.seq (fun K17 k17 => ?_)
      refine Cx.region <| Lx.y (fa' fo25_5 rfl) rfl <| Lx.y (ld U23 rfl rfl rfl) rfl <| Lx.y (lenV (ty' := 0) U23 rfl) rfl <| Lx.y (mv rfl) rfl <| Lx.y (gtr rfl rfl) rfl <| Lx.nil <| ?_
      refine Xx.tn (k17 _ _ _ _ ?_)
      refine Cx.condD rfl (fun h18 => ?_) (fun h18 => ?_)
      ·
       refine Cx.region <| Lx.y (fa' fo25_5 rfl) rfl <| Lx.y (ld U23 rfl rfl rfl) rfl <| Lx.y (mv rfl) rfl <| Lx.y (sl2V U23 sz9 rfl rfl (by first | exact Int.toNat_natCast _ | rfl) (by omega) (by omega)) rfl <| Lx.y (fa' fo25_5 rfl) rfl <| ?_
       refine Lx.st (stO U23 sz23 rfl rfl rfl (by simp) rfl) ?_
       refine Lx.nil ?_
       exact Xx.mkK (⟨rfl, rfl, cn, by rw [cutF_names, List.length_take]; omega, by simp only [vcs, cutF_kind, cutF_b, cutF_n, cutF_s, cutF_names, cutF_parts, List.length_take, Nat.min_eq_left (show w ≤ v.names.length by omega)]; ac_rfl⟩) (Sc 0 rfl (Sc 1 rfl (Sc 2 rfl (Sc 3 rfl (Sc 6 rfl (Sc 7 rfl (Sc 8 rfl (Sc 9 rfl (Sc 10 rfl (Sc 19 rfl (Sc 20 rfl (Sc 21 rfl (Sc 28 rfl (Sc 29 rfl (Sc 30 rfl (Sc 31 rfl (Sub.nil _)))))))))))))))))
      ·
       refine Cx.skip ?_
       exact Xx.mkK (⟨rfl, rfl, cn, by rw [cutF_names, List.length_take]; omega, by simp only [vcs, cutF_kind, cutF_b, cutF_n, cutF_s, cutF_names, cutF_parts, List.length_take, Nat.min_eq_right (show v.names.length ≤ w by omega)]⟩) (Sc 0 rfl (Sc 1 rfl (Sc 2 rfl (Sc 3 rfl (Sc 6 rfl (Sc 7 rfl (Sc 8 rfl (Sc 9 rfl (Sc 10 rfl (Sc 19 rfl (Sc 20 rfl (Sc 21 rfl (Sc 28 rfl (Sc 29 rfl (Sc 30 rfl (Sc 31 rfl (Sub.nil _)))))))))))))))))
     ·rintro ρ' B' H' ⟨rfl, rfl, cnz, hcz, rfl⟩
      refine Cx.seq (fun K19 k19 => ?_)
      refine Cx.region <| Lx.y (ldA U25 rfl sz25 rfl (Cells.own (n := 6) PickB.eq rfl) rfl) rfl <| ?_
      refine Lx.st (stA (d := .bool) sz25 rfl rfl rfl rfl (by show 0 + 6 ≤ 6; omega) rfl) ?_
      refine Lx.nil ?_
      refine Xx.tn (k19 _ _ _ _ ?_)
      refine Cx.ret ?_
      refine Xx.freezeT A fun B3 hB3 hRo hnc _ => ?_
      have hro2 : RoS B3 6 A (cutF (deep) w v).parts.length xs := by rw [cutF_parts]; exact hRo
      refine Xx.dropB b7 (Xx.dropB b3 ?_)
      refine Xx.rBa rfl U25 rfl sz25 rfl rfl ⟨_, rfl, ?_⟩ (Frag.le_trans hB2 hB3)
      exact ValR.mk (by rw [cutF_s, cutF_n, cutF_parts]; exact ⟨by simp; omega, hn1, hn2, hcz, hnc⟩) (by rw [cutF_parts]; omega) (by rw [cutF_names]; simp; omega) (by rw [cutF_names, List.length_take, List.map_take]; exact RoE.take w (hns.mono (Frag.le_trans hB2 hB3))) (fun x hx => hnx x (by rw [cutF_names] at hx; exact List.mem_of_mem_take hx)) hro2 (fun k hk => by
       have h9 : ValR B3 deep ((cutF deep w v).parts.getD k default) _ := (hpr.mono hB3).2 k (by rw [cutF_parts] at hk; exact hk)
       rw [getDp hk] at h9
       exact h9)
theorem Cut_ct : ∀ (deep w : Nat) (v : V) (cs : List Value) (d : Nat) (B : Frag), w ≤ 1000 → deep ≤ 1000 → ValR B d v cs → CtB Tryz.prog 8 [.agg cs.toArray, i64 (deep : Nat), i64 (w : Nat)] B (fun r B' => ∃ cs', r = .agg cs'.toArray ∧ ValR B' (deep + 1) (cutF deep w v) cs') := by
  intro deep
  induction deep with
  | zero => intro w v cs d B hw hd h; exact Cut_step 0 w hw hd (fun k hk => absurd hk (by omega)) v cs d B h
  | succ k ih => intro w v cs d B hw hd h; exact Cut_step (k + 1) w hw hd (fun k' hk v cs d B h => by obtain rfl : k' = k := by omega
                                                                                                      exact ih 4 v cs d B (by omega) (by omega) h) v cs d B h
def Few : Nat → V → Prop
  | 0, _ => True
  | d + 1, v => v.parts.length ≤ 1000 ∧ ∀ p ∈ v.parts, Few d p
theorem Few.parts {d : Nat} {v : V} (h : Few (d + 1) v) {i : Nat} (hi : i < v.parts.length) : Few d v.parts[i] := h.2 _ (List.getElem_mem hi)
set_option maxHeartbeats 1000000 in
theorem Ref_step (d : Nat) (ih : ∀ (v : V) (cs : List Value) (B : Frag), ValR B d v cs → Few d v → CtB Tryz.prog 13 [.agg cs.toArray] B (fun r B' => ∃ cs', r = .agg cs'.toArray ∧ ValR B' d v cs')) (v : V) (cs : List Value) (B : Frag) (h : ValR B (d + 1) v cs) (hf : Few (d + 1) v) : CtB Tryz.prog 13 [.agg cs.toArray] B (fun r B' => ∃ cs', r = .agg cs'.toArray ∧ ValR B' (d + 1) v cs') := by
 have hsm := hf.1
 obtain ⟨Ap, cp, An, cn, rfl, ⟨hsl, hn1, hn2, hcn, hcp⟩, hpl, hnl, hns, hnx, hps⟩ := h
 refine CtB.of_body Tryz.func13 rfl (nt := 35) rfl (by kernel_rfl) rfl ?_
 intro N0 w0 R
 refine Cx.seq (fun K1 k1 => ?_)
 refine Cx.region ?_
 refine Lx.new (boxA rfl) rfl (fun b1 => ?_)
 refine Lx.new (allocO ti39) rfl (fun b2 => ?_)
 refine Lx.nil ?_
 refine Xx.tn (k1 _ _ _ _ ?_)
 refine Cx.seq (fun K2 k2 => ?_)
 refine Cx.region <| Lx.y (fa' fo25_0 rfl) rfl <| Lx.y (ld U3 rfl rfl rfl) rfl <| Lx.y (fa' fo25_1 rfl) rfl <| Lx.y (ld U4 rfl rfl rfl) rfl <| Lx.y (fa' fo25_2 rfl) rfl <| Lx.y (ld U2 rfl rfl rfl) rfl <| Lx.y (fa' fo25_3 rfl) rfl <| Lx.y (ld U9 rfl rfl rfl) rfl <| Lx.y (fa' fo25_5 rfl) rfl <| Lx.y (ld U23 rfl rfl rfl) rfl <| Lx.y (bld ti39 pl39 rfl rfl) rfl <| ?_
 refine Lx.new (allocO ti39) rfl (fun b3 => ?_)
 refine Lx.st (stA (d := .bool) sz39 rfl rfl rfl rfl (by show 0 + 6 ≤ 6; omega) rfl) ?_
 refine Lx.nil ?_
 refine Xx.tn (k2 _ _ _ _ ?_)
 refine Cx.seq (fun K3 k3 => ?_)
 refine Cx.seq (fun K4 k4 => ?_)
 refine Cx.region <| Lx.y (asg rfl) rfl <| ?_
 refine Xx.perm (H' := sbuf 39 6 none 0 0 [] * (_ * (_ * (_ * R)))) ?_ (by rw [sbuf_nil, one_star])
 refine Lx.nil ?_
 refine Xx.tn (k4 _ _ _ _ ?_)
 refine Cx.block ?_
 refine Cx.loopK (Sc 0 rfl (Sc 1 rfl (Sc 2 rfl (Sc 3 rfl (Sc 5 rfl (Sc 6 rfl (Sc 7 rfl (Sc 8 rfl (Sc 9 rfl (Sc 10 rfl (Sc 11 rfl (Sc 12 rfl (Sc 13 rfl (Sc 14 rfl (Sc 15 rfl (Sub.nil _)))))))))))))))) (fun m ρ' B' H' => ∃ (i : Nat) (A : Option Addr) (c : Nat) (xs : List Value) (B2 : Frag), (i ≤ v.parts.length ∧ B.le B2 ∧ PartsR B2 d (fun k => v.parts.getD k default) i xs) ∧ m = v.parts.length - i ∧ ρ' = [(4, i64 i)] ∧ B2 = B' ∧ sbuf 39 6 A i c xs * (row b3 39 [i64 v.kind, .bool v.b, i64 v.n, str v.s, .slice A i c, .slice An v.names.length cn] * (row b2 39 [i64 0, .bool false, i64 0, str [], .slice none 0 0, .slice none 0 0] * (row b1 25 (vcs v Ap cp An cn) * R))) = H') ⟨0, none, 0, [], _, ⟨Nat.zero_le _, Frag.le_refl _, rfl, fun k hk => absurd hk (by omega)⟩, rfl, rfl, rfl, rfl⟩ (Sc 4 rfl (Sc 0 rfl (Sc 1 rfl (Sc 2 rfl (Sc 3 rfl (Sc 5 rfl (Sc 6 rfl (Sc 7 rfl (Sc 8 rfl (Sc 9 rfl (Sc 10 rfl (Sc 11 rfl (Sc 12 rfl (Sc 13 rfl (Sc 14 rfl (Sc 15 rfl (Sub.nil _))))))))))))))))) ?_
 rintro m ρ' B' H' ⟨i, A, c, xs, B2, ⟨hi, hB2, hpr⟩, rfl, rfl, rfl, rfl⟩
 refine Cx.seq (fun K5 k5 => ?_)
 refine Cx.seq (fun K6 k6 => ?_)
 refine Cx.region <| Lx.y (mv rfl) rfl <| Lx.y (fa' fo25_4 rfl) rfl <| Lx.y (ld U22 rfl rfl rfl) rfl <| Lx.y (lenV (ty' := 0) U22 rfl) rfl <| Lx.y (lss rfl rfl) rfl <| Lx.nil <| ?_
 refine Xx.tn (k6 _ _ _ _ ?_)
 refine Cx.condD rfl (fun h7 => ?_) (fun h7 => ?_)
 ·
  have hlt := h7
  refine Cx.skip ?_
  refine Xx.tn (k5 _ _ _ _ ?_)
  refine Cx.seq (fun K8 k8 => ?_)
  refine Cx.block ?_
  have hil : i < v.parts.length := by omega
  obtain ⟨bq, oq, lq, eq, fq, xs0, rfl, hBq, hxs, hv2⟩ := hps i hil
  obtain ⟨Ap2, cp2, An2, cn2, rfl⟩ := ValR.shape hv2
  refine Cx.drawn (by kernel_rfl) ?_
  refine Dx.p (i := 0) rfl (by kernel_rfl) (fa' fo39_4 rfl) rfl ?_
  refine Dx.r (i := 1) rfl (by kernel_rfl) (ld U37 rfl rfl rfl) rfl ?_
  refine Dx.p (i := 2) rfl (by kernel_rfl) (fa' fo25_4 rfl) rfl ?_
  refine Dx.r (i := 3) rfl (by kernel_rfl) (ld U22 rfl rfl rfl) rfl ?_
  refine Dx.p (i := 4) rfl (by kernel_rfl) (mv rfl) rfl ?_
  refine Dx.p (i := 5) rfl (by kernel_rfl) (ia U22 sz25 rfl rfl (by first | exact Int.toNat_natCast _ | rfl) (by omega) (by omega)) rfl ?_
  refine Dx.r (i := 6) rfl (by kernel_rfl) (ldA U25 rfl sz25 rfl (Cells.base (n := 6) (by first | exact hB2 _ _ hBq | exact hBc _ _ (hB2 _ _ hBq)) hxs) rfl) rfl ?_
  refine Dx.one (i := 7) (by kernel_rfl) ?_
  refine Dstep.o (i := 7) rfl (Ox.cb rfl rfl rfl (ih _ _ _ (ValR.mono hB2 hv2) (hf.parts hil))) rfl (fun v B' H' hΦ hB => ?_)
  obtain ⟨rfl, hΦ⟩ := hΦ
  have hBc := hB
  obtain ⟨cs2, rfl, hv3⟩ := hΦ
  obtain ⟨Ap3, cp3, An3, cn3, rfl⟩ := ValR.shape hv3
  refine ⟨JOk.edge (JOk.yes (JOk.yes (JOk.top) (ld U37 rfl rfl rfl)) (ld U22 rfl rfl rfl)) (by kernel_rfl), ?_⟩
  refine Dx.one (i := 8) (by kernel_rfl) ?_
  refine Dstep.o (i := 8) rfl (bslA U37 ti39 rfl rfl (by decide)) rfl (fun v B' H' hΦ hB => ?_)
  obtain ⟨b12, rfl, rfl, rfl⟩ := hΦ; clear hB
  refine ⟨JOk.yes (JOk.yes (JOk.yes (JOk.top) (ld U37 rfl rfl rfl)) (ld U22 rfl rfl rfl)) (ldA U25 rfl sz25 rfl (Cells.base (n := 6) (by first | exact hB2 _ _ hBq | exact hBc _ _ (hB2 _ _ hBq)) hxs) rfl), ?_⟩
  refine Dx.one (i := 9) (by kernel_rfl) ?_
  refine Dstep.o (i := 9) rfl (appR U37 U37 ti39 rfl rfl rfl rfl rfl (by omega) (by omega)) rfl (fun v B' H' hΦ hB => ?_)
  obtain ⟨A2, c2, rfl, hA2, hl2, hc2, rfl, rfl⟩ := hΦ
  refine ⟨JOk.yes (JOk.yes (JOk.edge (JOk.top) (by kernel_rfl)) (ld U22 rfl rfl rfl)) (ldA U25 rfl sz25 rfl (Cells.base (n := 6) (by first | exact hB2 _ _ hBq | exact hBc _ _ (hB2 _ _ hBq)) hxs) rfl), ?_⟩
  refine Dx.p (i := 10) rfl (by kernel_rfl) (fa' fo39_4 rfl) rfl ?_
  refine Dx.one (i := 11) (by kernel_rfl) ?_
  refine Dstep.o0 (i := 11) rfl (stO U37 sz37 rfl rfl rfl (by simp) rfl) (fun v B' H' hΦ hB => ?_)
  obtain ⟨rfl, rfl⟩ := hΦ; clear hB v
  refine ⟨JOk.edge (JOk.edge (JOk.edge (JOk.top) (by kernel_rfl)) (by kernel_rfl)) (by kernel_rfl), ?_⟩
  refine Dx.done (by kernel_rfl) ?_
  refine Xx.bn ?_
  refine Xx.tn (k8 _ _ _ _ ?_)
  refine Cx.region <| Lx.y (mv rfl) rfl <| Lx.y (add rfl rfl (by first | exact wrap64 (by omega) (by omega) | rfl)) rfl <| Lx.y (asg rfl) rfl <| Lx.nil <| ?_
  refine Xx.dropB b12 ?_
  refine Xx.perm ?_ (PickS.eq (A := A2))
  exact Xx.againK ⟨i + 1, A2, c2, _, _, ⟨by omega, Frag.le_trans hB2 hBc, PartsR.snoc (hpr.mono hBc) rfl (by rw [getDp hil]; exact hv3)⟩, rfl, rfl, rfl, rfl⟩ (by omega) (Sc 4 rfl (Sc 0 rfl (Sc 1 rfl (Sc 2 rfl (Sc 3 rfl (Sc 5 rfl (Sc 6 rfl (Sc 7 rfl (Sc 8 rfl (Sc 9 rfl (Sc 10 rfl (Sc 11 rfl (Sc 12 rfl (Sc 13 rfl (Sc 14 rfl (Sc 15 rfl (Sub.nil _)))))))))))))))))
 ·
  obtain rfl : i = v.parts.length := by omega
  refine Cx.exit <| Xx.te <| Xx.te <| Xx.bh <| ?_
  refine Xx.tn (k3 _ _ _ _ ?_)
  refine Cx.seq (fun K9 k9 => ?_)
  refine Cx.region <| Lx.y (ldA U39 rfl sz39 rfl (Cells.own (n := 6) PickB.eq rfl) rfl) rfl <| ?_
  refine Lx.st (stA (d := .bool) sz39 rfl rfl rfl rfl (by show 0 + 6 ≤ 6; omega) rfl) ?_
  refine Lx.nil ?_
  refine Xx.tn (k9 _ _ _ _ ?_)
  refine Cx.ret ?_
  refine Xx.freezeT A fun B3 hB3 hRo hnc _ => ?_
  refine Xx.dropB b3 (Xx.dropB b1 ?_)
  refine Xx.rBa rfl U39 rfl sz39 rfl rfl ⟨_, rfl, ?_⟩ (Frag.le_trans hB2 hB3)
  exact ValR.mk ⟨hsl, hn1, hn2, hcn, hnc⟩ hpl hnl (hns.mono (Frag.le_trans hB2 hB3)) hnx hRo (fun k hk => by
   have h9 : ValR B3 d (v.parts.getD k default) _ := (hpr.mono hB3).2 k hk
   rw [getDp hk] at h9
   exact h9)
theorem Ref_ct : ∀ (d : Nat) (v : V) (cs : List Value) (B : Frag), ValR B d v cs → Few d v → CtB Tryz.prog 13 [.agg cs.toArray] B (fun r B' => ∃ cs', r = .agg cs'.toArray ∧ ValR B' d v cs') := by
  intro d
  induction d with
  | zero => intro v cs B h; exact h.elim
  | succ d ih =>
    intro v cs B h hf
    exact Ref_step d ih v cs B h hf
end KeE
end Go.Proofs.YtdidpocakipinaaGreatDoor
namespace Go.Proofs.YtdidpocakipinaaGreatDoor
open Go.SL Go.RowKit
set_option maxRecDepth 100000
open Ke1 Ke3 Ke4 Ke5 Ke6 Ke7 Ke8 Ke9 KeA KeB KeC KeD KeE
namespace KeF
def Lt (p q : List UInt8) : Prop := ∀ x y, bless (p ++ x) (q ++ y) = true
theorem Lt.head {x y : UInt8} (h : x < y) (p q : List UInt8) : Lt (x :: p) (y :: q) := fun a b => by simp [bless_cons, h]
theorem Lt.pre {p q : List UInt8} (r : List UInt8) (h : Lt p q) : Lt (r ++ p) (r ++ q) := fun x y => by
  rw [List.append_assoc, List.append_assoc, bless_app]; exact h x y
theorem Lt.app {p q : List UInt8} (h : Lt p q) (a b : List UInt8) : Lt (p ++ a) (q ++ b) := fun x y => by
  rw [List.append_assoc, List.append_assoc]; exact h _ _
def Tri (o : Ordering) (p q : List UInt8) : Prop := match o with
  | .lt => Lt p q
  | .eq => p = q
  | .gt => Lt q p
theorem Tri.then {o o2 : Ordering} {p q p2 q2 : List UInt8} (h : Tri o p q) (h2 : o = .eq → Tri o2 p2 q2) : Tri (o.then o2) (p ++ p2) (q ++ q2) := by
  cases o with
  | lt => exact h.app _ _
  | gt => exact h.app _ _
  | eq =>
    have e : p = q := h
    subst e
    have h3 := h2 rfl
    cases o2 with
    | lt => exact h3.pre p
    | gt => exact h3.pre p
    | eq => exact congrArg (p ++ ·) h3
def cmpL (a b : List UInt8) : Ordering := if bless a b then .lt else if bless b a then .gt else .eq
def cmpI (m n : Int) : Ordering := if m < n then .lt else if n < m then .gt else .eq
def cmpB (a b : Bool) : Ordering := if !a && b then .lt else if !b && a then .gt else .eq
theorem byte_tri {x y : UInt8} {o : Ordering} (h : o = if x < y then .lt else if y < x then .gt else .eq) : Tri o [x] [y] := by
  subst h
  by_cases h1 : x < y
  · rw [if_pos h1]; exact Lt.head h1 _ _
  · rw [if_neg h1]
    by_cases h2 : y < x
    · rw [if_pos h2]; exact Lt.head h2 _ _
    · rw [if_neg h2]
      have e : x = y := UInt8.le_antisymm (UInt8.not_lt.1 h2) (UInt8.not_lt.1 h1)
      exact congrArg (fun z => [z]) e
def beN : Nat → Nat → List UInt8
  | 0, _ => []
  | k + 1, n => UInt8.ofNat (n / 256 ^ k) :: beN k (n % 256 ^ k)
def cmpN (m n : Nat) : Ordering := if m < n then .lt else if n < m then .gt else .eq
theorem cmpN_lt {m n : Nat} (h : m < n) : cmpN m n = .lt := if_pos h
theorem cmpN_gt {m n : Nat} (h : n < m) : cmpN m n = .gt := by unfold cmpN; rw [if_neg (by omega), if_pos h]
theorem cmpN_eq {m n : Nat} (h : m = n) : cmpN m n = .eq := by unfold cmpN; rw [if_neg (by omega), if_neg (by omega)]
theorem beN_tri : ∀ (k m n : Nat), m < 256 ^ k → n < 256 ^ k → Tri (cmpN m n) (beN k m) (beN k n) := by
  intro k
  induction k with
  | zero => intro m n hm hn; have h1 : m = 0 := by simpa using hm
            have h2 : n = 0 := by simpa using hn
            subst h1 h2; exact rfl
  | succ k ih =>
    intro m n hm hn
    have hp : 0 < 256 ^ k := Nat.pow_pos (by decide)
    have hm1 : m / 256 ^ k < 256 := Nat.div_lt_of_lt_mul (by rw [Nat.pow_succ] at hm; omega)
    have hn1 : n / 256 ^ k < 256 := Nat.div_lt_of_lt_mul (by rw [Nat.pow_succ] at hn; omega)
    have hm2 := Nat.mod_lt m hp
    have hn2 := Nat.mod_lt n hp
    have em := Nat.div_add_mod m (256 ^ k)
    have en := Nat.div_add_mod n (256 ^ k)
    have h3 := ih (m % 256 ^ k) (n % 256 ^ k) hm2 hn2
    have t1 : (UInt8.ofNat (m / 256 ^ k)).toNat = m / 256 ^ k := by simp; omega
    have t2 : (UInt8.ofNat (n / 256 ^ k)).toNat = n / 256 ^ k := by simp; omega
    have hb : Tri (cmpN (m / 256 ^ k) (n / 256 ^ k)) [UInt8.ofNat (m / 256 ^ k)] [UInt8.ofNat (n / 256 ^ k)] := byte_tri (by
      unfold cmpN
      simp only [UInt8.lt_iff_toNat_lt, t1, t2])
    have := hb.then (o2 := cmpN (m % 256 ^ k) (n % 256 ^ k)) (fun _ => h3)
    have e : (cmpN (m / 256 ^ k) (n / 256 ^ k)).then (cmpN (m % 256 ^ k) (n % 256 ^ k)) = cmpN m n := by
      generalize 256 ^ k = P at *
      generalize m / P = qm at *
      generalize n / P = qn at *
      generalize m % P = rm at *
      generalize n % P = rn at *
      by_cases h1 : qm < qn
      · have h7 : P * qm + P ≤ P * qn := by rw [← Nat.mul_succ]; exact Nat.mul_le_mul_left _ h1
        rw [cmpN_lt h1, cmpN_lt (show m < n by omega)]; rfl
      · by_cases h2 : qn < qm
        · have h7 : P * qn + P ≤ P * qm := by rw [← Nat.mul_succ]; exact Nat.mul_le_mul_left _ h2
          rw [cmpN_gt h2, cmpN_gt (show n < m by omega)]; rfl
        · have h8 : qm = qn := by omega
          subst h8
          rw [cmpN_eq rfl]
          show cmpN rm rn = _
          rcases Nat.lt_trichotomy rm rn with h4 | h4 | h4
          · rw [cmpN_lt h4, cmpN_lt (by omega)]
          · rw [cmpN_eq h4, cmpN_eq (by omega)]
          · rw [cmpN_gt h4, cmpN_gt (by omega)]
    rw [← e]
    exact this
theorem chk_ok {d : Nat} {v : V} {deep : Int} (h : checkF (d + 1) v deep = 0) : deep ≤ 8 ∧ 0 ≤ v.kind ∧ v.kind ≤ 6 ∧ BareP v ∧ v.parts.length ≤ 32 ∧ namesB v = true ∧ ∀ k (hk : k < v.parts.length), checkF d v.parts[k] (deep + 1) = 0 := by
  by_cases h1 : 8 < deep
  · rw [chk1 h1] at h; omega
  · by_cases h2 : v.kind < 0 ∨ 6 < v.kind ∨ ¬ BareP v
    · rw [chk2 h1 h2] at h; omega
    · by_cases h3 : 32 < v.parts.length
      · rw [chk3 h1 h2 h3] at h; omega
      · by_cases h4 : namesB v = false
        · rw [chk4 h1 h2 h3 h4] at h; omega
        · have h4' : namesB v = true := by simpa using h4
          refine ⟨by omega, ?_, ?_, ?_, by omega, h4', ?_⟩
          · exact Int.not_lt.1 fun z => h2 (.inl z)
          · exact Int.not_lt.1 fun z => h2 (.inr (.inl z))
          · exact Classical.byContradiction fun z => h2 (.inr (.inr z))
          · have key : ∀ k, k ≤ v.parts.length → ∀ j (hj : j < v.parts.length), j < k → checkF d v.parts[j] (deep + 1) = 0 := by
              intro k
              induction k with
              | zero => intro _ j hj hjk; omega
              | succ k ih =>
                intro hk j hj hjk
                by_cases e : j = k
                · subst e
                  exact Classical.byContradiction fun hn => by
                    rw [chk5 h1 h2 h3 h4' hj (fun i hi hij => ih (by omega) i hi hij) hn] at h
                    exact hn h
                · exact ih (by omega) j hj (by omega)
            exact fun k hk => key v.parts.length (Nat.le_refl _) k hk hk
theorem namesP {v : V} (h : namesB v = true) : NamesP v := by unfold namesB at h; exact (@decide_eq_true_iff _ (Classical.propDecidable _)).1 h
theorem names_many {d : Nat} {v : V} {deep : Int} (h : checkF (d + 1) v deep = 0) : (v.kind = 6 → v.names.length = v.parts.length) ∧ (v.kind ≠ 6 → v.names.length = 0) := by
  obtain ⟨_, _, _, hb, _, hn, _⟩ := chk_ok h
  exact ⟨(namesP hn).2, fun z => hb.2.2.2.2.resolve_left z⟩
def tlK (P : Nat → List UInt8) : Nat → Nat → List UInt8
  | 0, _ => [0]
  | c + 1, i => P i ++ tlK P c (i + 1)
def lexO (f : Nat → Ordering) : Nat → Nat → Nat → Ordering
  | 0, 0, _ => .eq
  | 0, _ + 1, _ => .lt
  | _ + 1, 0, _ => .gt
  | c + 1, e + 1, i => (f i).then (lexO f c e (i + 1))
theorem lexO_swap {f g : Nat → Ordering} : ∀ c e i, (∀ j, i ≤ j → j < i + c → j < i + e → g j = (f j).swap) → lexO g e c i = (lexO f c e i).swap := by
  intro c
  induction c with
  | zero => intro e i h; cases e <;> rfl
  | succ c ih =>
    intro e i h
    cases e with
    | zero => rfl
    | succ e =>
      show (g i).then _ = ((f i).then _).swap
      rw [h i (by omega) (by omega) (by omega), ih e (i + 1) fun j a b c => h j (by omega) (by omega) (by omega)]
      cases f i <;> rfl
def prtO (f : V → V → Ordering) (a b : V) (i : Nat) : Ordering := (if a.kind = 6 then cmpL (a.names.getD i []) (b.names.getD i []) else .eq).then (f (a.parts.getD i default) (b.parts.getD i default))
def cmpF : Nat → V → V → Ordering
  | 0, _, _ => .eq
  | d + 1, a, b => if a.kind ≠ b.kind then cmpI a.kind b.kind else if a.kind = 1 then cmpB a.b b.b else if a.kind = 2 then cmpI a.n b.n else if a.kind = 3 ∨ a.kind = 4 then cmpL a.s b.s
      else lexO (prtO (cmpF d) a b) a.parts.length b.parts.length 0
theorem cmpI_swap (m n : Int) : cmpI n m = (cmpI m n).swap := by
  unfold cmpI
  by_cases h1 : m < n
  · rw [if_neg (by omega), if_pos h1, if_pos h1]; rfl
  · by_cases h2 : n < m
    · rw [if_pos h2, if_neg h1, if_pos h2]; rfl
    · rw [if_neg h2, if_neg h1, if_neg h1, if_neg h2]; rfl
theorem cmpB_swap (m n : Bool) : cmpB n m = (cmpB m n).swap := by cases m <;> cases n <;> rfl
theorem bless_asymm {a b : List UInt8} (h : bless a b = true) : bless b a = false := by
  cases h2 : bless b a with
  | false => rfl
  | true => have := bless_trans h h2; rw [bless_irrefl] at this; cases this
theorem cmpL_swap (m n : List UInt8) : cmpL n m = (cmpL m n).swap := by
  unfold cmpL
  cases h1 : bless m n with
  | true => rw [bless_asymm h1]; rfl
  | false => cases bless n m <;> rfl
theorem cmpL_lt {a b : List UInt8} : cmpL a b = .lt ↔ bless a b = true := by
  unfold cmpL
  cases bless a b with
  | true => simp
  | false => cases bless b a <;> simp
theorem cmpL_eq {a b : List UInt8} : cmpL a b = .eq ↔ a = b := by
  unfold cmpL
  cases h1 : bless a b with
  | true => simp; exact fun e => by subst e; rw [bless_irrefl] at h1; cases h1
  | false =>
    cases h2 : bless b a with
    | true => simp; exact fun e => by subst e; rw [bless_irrefl] at h2; cases h2
    | false => simp; exact bless_total h1 h2
theorem cmpF_same {d : Nat} {a b : V} (hk : a.kind = b.kind) : cmpF (d + 1) a b = if a.kind = 1 then cmpB a.b b.b else if a.kind = 2 then cmpI a.n b.n else if a.kind = 3 ∨ a.kind = 4 then cmpL a.s b.s else lexO (prtO (cmpF d) a b) a.parts.length b.parts.length 0 := by
  conv => lhs; unfold cmpF
  rw [if_neg (by simp [hk])]
theorem cmpF_diff {d : Nat} {a b : V} (hk : ¬ a.kind = b.kind) : cmpF (d + 1) a b = cmpI a.kind b.kind := by unfold cmpF; rw [if_pos hk]
theorem cmpF_swap : ∀ (d : Nat) (a b : V), cmpF d b a = (cmpF d a b).swap := by
  intro d
  induction d with
  | zero => intro a b; rfl
  | succ d ih =>
    intro a b
    by_cases hk : a.kind = b.kind
    · rw [cmpF_same hk, cmpF_same hk.symm, hk]
      by_cases k1 : b.kind = 1
      · rw [if_pos k1, if_pos k1]; exact cmpB_swap _ _
      · rw [if_neg k1, if_neg k1]
        by_cases k2 : b.kind = 2
        · rw [if_pos k2, if_pos k2]; exact cmpI_swap _ _
        · rw [if_neg k2, if_neg k2]
          by_cases k3 : b.kind = 3 ∨ b.kind = 4
          · rw [if_pos k3, if_pos k3]; exact cmpL_swap _ _
          · rw [if_neg k3, if_neg k3]
            refine lexO_swap _ _ _ fun j _ _ _ => ?_
            unfold prtO
            rw [hk, ih]
            by_cases k6 : b.kind = 6
            · rw [if_pos k6, if_pos k6, cmpL_swap]
              cases cmpL (a.names.getD j []) (b.names.getD j []) <;> rfl
            · rw [if_neg k6, if_neg k6]; rfl
    · rw [cmpF_diff hk, cmpF_diff (fun e => hk e.symm)]; exact cmpI_swap _ _
theorem xor_top (x : BitVec 64) : x ^^^ 9223372036854775808#64 = x + 9223372036854775808#64 := by
  apply BitVec.eq_of_toNat_eq
  rw [BitVec.toNat_xor, BitVec.toNat_add]
  have hx := x.isLt
  have e : (9223372036854775808#64).toNat = 2 ^ 63 := rfl
  rw [e]
  generalize x.toNat = n at *
  apply Nat.eq_of_testBit_eq
  intro i
  rw [Nat.testBit_xor, Nat.testBit_mod_two_pow, Nat.testBit_two_pow]
  by_cases h63 : n < 2 ^ 63
  · rw [Nat.add_comm]
    by_cases hi : i = 63
    · subst hi
      have : n.testBit 63 = false := Nat.testBit_lt_two_pow h63
      rw [Nat.testBit_two_pow_add_eq, this]; rfl
    · by_cases hi2 : i < 63
      · rw [Nat.testBit_two_pow_add_gt hi2]
        simp [show ¬ 63 = i by omega]; omega
      · have h1 : n.testBit i = false := Nat.testBit_lt_two_pow (Nat.lt_of_lt_of_le h63 (Nat.pow_le_pow_right (by decide) (by omega)))
        have h2 : ¬ i < 64 := by omega
        have h3 : ¬ 63 = i := by omega
        simp [h1, h2, h3]
  · obtain ⟨m, rfl⟩ : ∃ m, n = 2 ^ 63 + m := ⟨n - 2 ^ 63, by omega⟩
    have hm : m < 2 ^ 63 := by omega
    have e2 : 2 ^ 63 + m + 2 ^ 63 = 2 ^ 64 * 1 + m := by omega
    rw [e2]
    by_cases hi : i = 63
    · subst hi
      have : m.testBit 63 = false := Nat.testBit_lt_two_pow hm
      rw [Nat.testBit_two_pow_add_eq, this]
      rw [show 2 ^ 64 * 1 + m = 2 ^ 64 + m by omega, Nat.testBit_two_pow_add_gt (by omega), this]; rfl
    · by_cases hi2 : i < 63
      · rw [Nat.testBit_two_pow_add_gt hi2, show 2 ^ 64 * 1 + m = 2 ^ 64 + m by omega, Nat.testBit_two_pow_add_gt (by omega)]
        simp [show ¬ 63 = i by omega]; omega
      · have h1 : (2 ^ 63 + m).testBit i = false := Nat.testBit_lt_two_pow (Nat.lt_of_lt_of_le hx (Nat.pow_le_pow_right (by decide) (by omega)))
        have h2 : ¬ i < 64 := by omega
        have h3 : ¬ 63 = i := by omega
        rw [h1]
        simp [h2, h3]
theorem beN_mod : ∀ (k m : Nat), beN k (m % 256 ^ k) = beN k m := by
  intro k m
  cases k with
  | zero => rfl
  | succ k =>
    unfold beN
    rw [Nat.mod_mod_of_dvd _ (Nat.pow_dvd_pow 256 (Nat.le_succ k)), Nat.pow_succ, Nat.mod_mul_right_div_self]
    congr 1
    apply UInt8.toNat_inj.1
    simp
theorem beN_succ (k m : Nat) : beN (k + 1) m = UInt8.ofNat (m / 256 ^ k) :: beN k m := by
  conv => lhs; unfold beN
  rw [beN_mod]
theorem numL_be (n : BitVec 64) : numL n = beN 8 n.toNat := by
  have e : ∀ i, toB ((n >>> i).toNat : Nat) = UInt8.ofNat (n.toNat / 2 ^ i) := fun i => by
    rw [BitVec.toNat_ushiftRight, Nat.shiftRight_eq_div_pow]
    generalize n.toNat / 2 ^ i = z
    unfold toB
    apply UInt8.toNat_inj.1
    simp
    omega
  simp only [beN_succ]
  show [numB n 0, numB n 1, numB n 2, numB n 3, numB n 4, numB n 5, numB n 6, numB n 7] = _
  unfold numB
  simp only [e]
  simp [beN]
theorem Lt.less {p q : List UInt8} (h : Lt p q) : bless p q = true := by have := h [] []; simpa using this
end KeF
end Go.Proofs.YtdidpocakipinaaGreatDoor
