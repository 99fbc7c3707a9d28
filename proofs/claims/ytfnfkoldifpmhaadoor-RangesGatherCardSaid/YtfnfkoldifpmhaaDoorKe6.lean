/-
  Values as trees; which fields are bare, which names may be.
-/
import Derived.Test.YtfnfkoldifpmhaaDoorProg
import Derived.Test.YtfnfkoldifpmhaaDoorSlj
import Derived.Test.YtfnfkoldifpmhaaDoorKe5
namespace Go.Proofs.YtfnfkoldifpmhaaDoor
open Go.SL Go.RowKit
set_option linter.unusedVariables false
set_option linter.unusedSimpArgs false
set_option maxRecDepth 100000
open Ke1 Ke3 Ke4 Ke5
namespace Ke6
theorem fo26_0 : FO Tryd.prog 26 0 0 1 false := FO.of Tryd.underlying26 rfl rfl (by kernel_rfl) Tryd.underlying3 rfl rfl
theorem fo26_1 : FO Tryd.prog 26 1 1 1 false := FO.of Tryd.underlying26 rfl rfl (by kernel_rfl) Tryd.underlying4 rfl rfl
theorem fo26_2 : FO Tryd.prog 26 2 2 1 false := FO.of Tryd.underlying26 rfl rfl (by kernel_rfl) Tryd.underlying2 rfl rfl
theorem fo26_3 : FO Tryd.prog 26 3 3 1 false := FO.of Tryd.underlying26 rfl rfl (by kernel_rfl) Tryd.underlying9 rfl rfl
theorem fo26_4 : FO Tryd.prog 26 4 4 1 false := FO.of Tryd.underlying26 rfl rfl (by kernel_rfl) Tryd.underlying23 rfl rfl
theorem fo26_5 : FO Tryd.prog 26 5 5 1 false := FO.of Tryd.underlying26 rfl rfl (by kernel_rfl) Tryd.underlying24 rfl rfl

inductive V where
  | mk (kind : Int) (b : Bool) (n : Int) (s : List UInt8) (parts : List V) (names : List (List UInt8))
def V.kind : V → Int | .mk k _ _ _ _ _ => k
def V.b : V → Bool | .mk _ b _ _ _ _ => b
def V.n : V → Int | .mk _ _ n _ _ _ => n
def V.s : V → List UInt8 | .mk _ _ _ s _ _ => s
def V.parts : V → List V | .mk _ _ _ _ p _ => p
def V.names : V → List (List UInt8) | .mk _ _ _ _ _ n => n
/-- The six cells of a value. -/
def vcs (v : V) (Ap : Option Addr) (cp : Nat) (An : Option Addr) (cn : Nat) : List Value := [i64 v.kind, .bool v.b, i64 v.n, str v.s, .slice Ap v.parts.length cp, .slice An v.names.length cn]
/-- These cells are a value that is only read, at most d deep. -/
def ValR (B : Frag) : Nat → V → List Value → Prop
  | 0, _, _ => False
  | d + 1, v, cs => ∃ Ap cp An cn, cs = vcs v Ap cp An cn ∧ (v.s.length ≤ 4611686018427387904 ∧ -9223372036854775808 ≤ v.n ∧ v.n ≤ 9223372036854775807 ∧ v.names.length ≤ cn ∧ v.parts.length ≤ cp) ∧ v.parts.length ≤ 4611686018427387904 ∧ v.names.length ≤ 4611686018427387904 ∧ RoE B An v.names.length (v.names.map str) ∧ (∀ x ∈ v.names, x.length ≤ 4611686018427387904) ∧
      ∀ i (h : i < v.parts.length), ∃ b o l et fz xs, Ap = some ⟨b, o, none⟩ ∧ B b = some (.cells (List.toArray l) et fz) ∧ (l.drop (o + i * 6)).take 6 = xs ∧ ValR B d v.parts[i] xs
theorem ValR.mono {B B' : Frag} (hB : B.le B') : ∀ {d : Nat} {v : V} {cs : List Value}, ValR B d v cs → ValR B' d v cs := by
  intro d
  induction d with
  | zero => intro v cs h; exact h.elim
  | succ d ih =>
    rintro v cs ⟨Ap, cp, An, cn, h1, h2, h3, h4, h5, h6, h7⟩
    exact ⟨Ap, cp, An, cn, h1, h2, h3, h4, h5.mono hB, h6, fun i hi => let ⟨b, o, l, et, fz, xs, g1, g2, g3, g4⟩ := h7 i hi; ⟨b, o, l, et, fz, xs, g1, hB _ _ g2, g3, ih g4⟩⟩
def BareP (v : V) : Prop := (v.kind = 1 ∨ v.b = false) ∧ (v.kind = 2 ∨ v.n = 0) ∧ (v.kind = 3 ∨ v.kind = 4 ∨ v.s = []) ∧ (v.kind = 5 ∨ v.kind = 6 ∨ v.parts.length = 0) ∧ (v.kind = 6 ∨ v.names.length = 0)
instance (v : V) : Decidable (BareP v) := by unfold BareP; infer_instance

set_option maxHeartbeats 1000000 in
theorem bare_ct (v : V) (Ap : Option Addr) (cp : Nat) (An : Option Addr) (cn : Nat) (B : Frag) : CtP Tryd.prog 59 [.agg (vcs v Ap cp An cn).toArray] B (.bool (decide (BareP v))) := by
  refine CtB.of_body Tryd.func59 rfl (nt := 67) rfl (by kernel_rfl) rfl ?_
  intro N0 w0 R
  refine Cx.seq (fun K1 k1 => ?_)
  refine Cx.region ?_
  refine Lx.new (boxA rfl) rfl (fun b1 => ?_)
  refine Lx.y (asg rfl) rfl ?_
  refine Lx.nil ?_
  refine Xx.tn (k1 _ _ _ _ ?_)
  refine Cx.cutK (ds' := []) (Sub.cons (s := 0) rfl (Sub.cons (s := 1) rfl (Sub.cons (s := 2) rfl (Sub.nil _)))) (fun ρ' B' H' => ρ' = [(3, .bool (decide (v.kind = 3 ∨ v.kind = 4)))] ∧ B = B' ∧ row b1 26 (vcs v Ap cp An cn) * R = H') ?_ ?_
  · skip
    refine Cx.region ?_
    refine Lx.y (fa' fo26_0 rfl) rfl ?_
    refine Lx.y (ld Tryd.underlying3 rfl rfl rfl) rfl ?_
    refine Lx.y (eqI rfl rfl) rfl ?_
    refine Lx.y (mv rfl) rfl ?_
    refine Xx.ifD (t := 8) rfl (fun h2 => ?_) (fun h2 => ?_)
    · skip
      refine Lx.gF rfl rfl rfl rfl ?_
      refine Lx.gF rfl rfl rfl rfl ?_
      refine Lx.gF rfl rfl rfl rfl ?_
      refine Lx.y (pickT rfl rfl) rfl ?_
      refine Lx.y (asg rfl) rfl ?_
      refine Lx.nil ?_
      exact Xx.mkK (⟨rfl, rfl, rfl⟩) (Sub.consE (s := 3) rfl (by first | exact congrArg Value.bool (decide_eq_true (by omega)).symm | exact congrArg Value.bool (decide_eq_decide.2 (by omega))) (Sub.cons (s := 0) rfl (Sub.cons (s := 1) rfl (Sub.cons (s := 2) rfl (Sub.nil _)))))
    · skip
      refine Lx.gT rfl rfl rfl ?_
      refine Lx.y (fa' fo26_0 rfl) rfl ?_
      refine Lx.gT rfl rfl rfl ?_
      refine Lx.y (ld Tryd.underlying3 rfl rfl rfl) rfl ?_
      refine Lx.gT rfl rfl rfl ?_
      refine Lx.y (eqI rfl rfl) rfl ?_
      refine Lx.y (pickF rfl rfl) rfl ?_
      refine Lx.y (asg rfl) rfl ?_
      refine Lx.nil ?_
      exact Xx.mkK (⟨rfl, rfl, rfl⟩) (Sub.consE (s := 3) rfl (by first | exact congrArg Value.bool (decide_eq_true (by omega)).symm | exact congrArg Value.bool (decide_eq_decide.2 (by omega))) (Sub.cons (s := 0) rfl (Sub.cons (s := 1) rfl (Sub.cons (s := 2) rfl (Sub.nil _)))))
  · rintro ρ' B' H' ⟨rfl, rfl, rfl⟩
    refine Cx.cutK (ds' := []) (Sub.cons (s := 0) rfl (Sub.cons (s := 1) rfl (Sub.cons (s := 2) rfl (Sub.cons (s := 3) rfl (Sub.nil _))))) (fun ρ' B' H' => ρ' = [(4, .bool (decide (v.kind = 5 ∨ v.kind = 6)))] ∧ B = B' ∧ row b1 26 (vcs v Ap cp An cn) * R = H') ?_ ?_
    · skip
      refine Cx.region ?_
      refine Lx.y (fa' fo26_0 rfl) rfl ?_
      refine Lx.y (ld Tryd.underlying3 rfl rfl rfl) rfl ?_
      refine Lx.y (eqI rfl rfl) rfl ?_
      refine Lx.y (mv rfl) rfl ?_
      refine Xx.ifD (t := 16) rfl (fun h3 => ?_) (fun h3 => ?_)
      · skip
        refine Lx.gF rfl rfl rfl rfl ?_
        refine Lx.gF rfl rfl rfl rfl ?_
        refine Lx.gF rfl rfl rfl rfl ?_
        refine Lx.y (pickT rfl rfl) rfl ?_
        refine Lx.y (asg rfl) rfl ?_
        refine Lx.nil ?_
        exact Xx.mkK (⟨rfl, rfl, rfl⟩) (Sub.consE (s := 4) rfl (by first | exact congrArg Value.bool (decide_eq_true (by omega)).symm | exact congrArg Value.bool (decide_eq_decide.2 (by omega))) (Sub.cons (s := 0) rfl (Sub.cons (s := 1) rfl (Sub.cons (s := 2) rfl (Sub.cons (s := 3) rfl (Sub.nil _))))))
      · skip
        refine Lx.gT rfl rfl rfl ?_
        refine Lx.y (fa' fo26_0 rfl) rfl ?_
        refine Lx.gT rfl rfl rfl ?_
        refine Lx.y (ld Tryd.underlying3 rfl rfl rfl) rfl ?_
        refine Lx.gT rfl rfl rfl ?_
        refine Lx.y (eqI rfl rfl) rfl ?_
        refine Lx.y (pickF rfl rfl) rfl ?_
        refine Lx.y (asg rfl) rfl ?_
        refine Lx.nil ?_
        exact Xx.mkK (⟨rfl, rfl, rfl⟩) (Sub.consE (s := 4) rfl (by first | exact congrArg Value.bool (decide_eq_true (by omega)).symm | exact congrArg Value.bool (decide_eq_decide.2 (by omega))) (Sub.cons (s := 0) rfl (Sub.cons (s := 1) rfl (Sub.cons (s := 2) rfl (Sub.cons (s := 3) rfl (Sub.nil _))))))
    · rintro ρ' B' H' ⟨rfl, rfl, rfl⟩
      refine Cx.seq (fun K4 k4 => ?_)
      refine Cx.region ?_
      refine Lx.y (fa' fo26_0 rfl) rfl ?_
      refine Lx.y (ld Tryd.underlying3 rfl rfl rfl) rfl ?_
      refine Lx.y (eqI rfl rfl) rfl ?_
      refine Lx.y (mv rfl) rfl ?_
      refine Xx.ifD (t := 24) rfl (fun h5 => ?_) (fun h5 => ?_)
      · skip
        refine Lx.gF rfl rfl rfl rfl ?_
        refine Lx.gF rfl rfl rfl rfl ?_
        refine Lx.gF rfl rfl rfl rfl ?_
        refine Lx.y (pickT rfl rfl) rfl ?_
        refine Lx.y (mv rfl) rfl ?_
        refine Lx.gT rfl rfl rfl ?_
        refine Lx.y (fa' fo26_0 rfl) rfl ?_
        refine Lx.gT rfl rfl rfl ?_
        refine Lx.y (ld Tryd.underlying3 rfl rfl rfl) rfl ?_
        refine Lx.gT rfl rfl rfl ?_
        refine Lx.y (eqI rfl rfl) rfl ?_
        refine Lx.gT rfl rfl rfl ?_
        refine Lx.y (mv rfl) rfl ?_
        refine Xx.ifD (t := 33) rfl (fun h6 => ?_) (fun h6 => ?_)
        · skip
          refine Lx.gF rfl rfl rfl rfl ?_
          refine Lx.gF rfl rfl rfl rfl ?_
          refine Lx.gF rfl rfl rfl rfl ?_
          refine Lx.gT rfl rfl rfl ?_
          refine Lx.y (pickT rfl rfl) rfl ?_
          refine Lx.y (pickT rfl rfl) rfl ?_
          refine Lx.y (mv rfl) rfl ?_
          refine Lx.gT rfl rfl rfl ?_
          refine Lx.y (mv rfl) rfl ?_
          refine Lx.gT rfl rfl rfl ?_
          refine Lx.y (mv rfl) rfl ?_
          refine Xx.ifD (t := 41) rfl (fun h7 => ?_) (fun h7 => ?_)
          · skip
            refine Lx.gF rfl rfl rfl rfl ?_
            refine Lx.gF rfl rfl rfl rfl ?_
            refine Lx.gF rfl rfl rfl rfl ?_
            refine Lx.gT rfl rfl rfl ?_
            refine Lx.y (pickT rfl rfl) rfl ?_
            refine Lx.y (pickT rfl rfl) rfl ?_
            refine Lx.y (mv rfl) rfl ?_
            refine Lx.gT rfl rfl rfl ?_
            refine Lx.y (mv rfl) rfl ?_
            refine Lx.gT rfl rfl rfl ?_
            refine Lx.y (mv rfl) rfl ?_
            refine Xx.ifD (t := 49) rfl (fun h8 => ?_) (fun h8 => ?_)
            · skip
              refine Lx.gF rfl rfl rfl rfl ?_
              refine Lx.gF rfl rfl rfl rfl ?_
              refine Lx.gF rfl rfl rfl rfl ?_
              refine Lx.gF rfl rfl rfl rfl ?_
              refine Lx.gT rfl rfl rfl ?_
              refine Lx.y (pickT rfl rfl) rfl ?_
              refine Lx.y (pickT rfl rfl) rfl ?_
              refine Lx.y (mv rfl) rfl ?_
              refine Lx.gT rfl rfl rfl ?_
              refine Lx.y (fa' fo26_0 rfl) rfl ?_
              refine Lx.gT rfl rfl rfl ?_
              refine Lx.y (ld Tryd.underlying3 rfl rfl rfl) rfl ?_
              refine Lx.gT rfl rfl rfl ?_
              refine Lx.y (eqI rfl rfl) rfl ?_
              refine Lx.gT rfl rfl rfl ?_
              refine Lx.y (mv rfl) rfl ?_
              refine Xx.ifD (t := 60) rfl (fun h9 => ?_) (fun h9 => ?_)
              · skip
                refine Lx.gF rfl rfl rfl rfl ?_
                refine Lx.gF rfl rfl rfl rfl ?_
                refine Lx.gF rfl rfl rfl rfl ?_
                refine Lx.gF rfl rfl rfl rfl ?_
                refine Lx.gT rfl rfl rfl ?_
                refine Lx.y (pickT rfl rfl) rfl ?_
                refine Lx.y (pickT rfl rfl) rfl ?_
                refine Lx.y (asg rfl) rfl ?_
                refine Lx.nil ?_
                refine Xx.tn (k4 _ _ _ _ ?_)
                refine Cx.ret ?_
                refine Xx.dropB b1 (Xx.rB1 rfl rfl ⟨congrArg Value.bool ?_, rfl⟩ (Frag.le_refl _) rfl)
                first | exact (decide_eq_false (by unfold BareP; grind)).symm | exact (decide_eq_true (by unfold BareP; grind)).symm | exact decide_eq_decide.2 (by unfold BareP; grind)
              · skip
                refine Lx.gT rfl rfl rfl ?_
                refine Lx.y (fa' fo26_5 rfl) rfl ?_
                refine Lx.gT rfl rfl rfl ?_
                refine Lx.y (ld Tryd.underlying24 rfl rfl rfl) rfl ?_
                refine Lx.gT rfl rfl rfl ?_
                refine Lx.y (lenV (ty' := 0) Tryd.underlying24 rfl) rfl ?_
                refine Lx.gT rfl rfl rfl ?_
                refine Lx.y (eqI rfl rfl) rfl ?_
                refine Lx.gT rfl rfl rfl ?_
                refine Lx.y (pickF rfl rfl) rfl ?_
                refine Lx.y (pickT rfl rfl) rfl ?_
                refine Lx.y (asg rfl) rfl ?_
                refine Lx.nil ?_
                refine Xx.tn (k4 _ _ _ _ ?_)
                refine Cx.ret ?_
                refine Xx.dropB b1 (Xx.rB1 rfl rfl ⟨congrArg Value.bool ?_, rfl⟩ (Frag.le_refl _) rfl)
                first | exact (decide_eq_false (by unfold BareP; grind)).symm | exact (decide_eq_true (by unfold BareP; grind)).symm | exact decide_eq_decide.2 (by unfold BareP; grind)
            · skip
              refine Lx.gT rfl rfl rfl ?_
              refine Lx.y (fa' fo26_4 rfl) rfl ?_
              refine Lx.gT rfl rfl rfl ?_
              refine Lx.y (ld Tryd.underlying23 rfl rfl rfl) rfl ?_
              refine Lx.gT rfl rfl rfl ?_
              refine Lx.y (lenV (ty' := 0) Tryd.underlying23 rfl) rfl ?_
              refine Lx.gT rfl rfl rfl ?_
              refine Lx.y (eqI rfl rfl) rfl ?_
              refine Lx.gT rfl rfl rfl ?_
              refine Lx.y (pickF rfl rfl) rfl ?_
              refine Lx.y (pickT rfl rfl) rfl ?_
              refine Lx.y (mv rfl) rfl ?_
              refine Xx.ifD (t := 56) rfl (fun h10 => ?_) (fun h10 => ?_)
              · skip
                refine Lx.gT rfl rfl rfl ?_
                refine Lx.y (fa' fo26_0 rfl) rfl ?_
                refine Lx.gT rfl rfl rfl ?_
                refine Lx.y (ld Tryd.underlying3 rfl rfl rfl) rfl ?_
                refine Lx.gT rfl rfl rfl ?_
                refine Lx.y (eqI rfl rfl) rfl ?_
                refine Lx.gT rfl rfl rfl ?_
                refine Lx.y (mv rfl) rfl ?_
                refine Xx.ifD (t := 60) rfl (fun h11 => ?_) (fun h11 => ?_)
                · skip
                  refine Lx.gF rfl rfl rfl rfl ?_
                  refine Lx.gF rfl rfl rfl rfl ?_
                  refine Lx.gF rfl rfl rfl rfl ?_
                  refine Lx.gF rfl rfl rfl rfl ?_
                  refine Lx.gT rfl rfl rfl ?_
                  refine Lx.y (pickT rfl rfl) rfl ?_
                  refine Lx.y (pickT rfl rfl) rfl ?_
                  refine Lx.y (asg rfl) rfl ?_
                  refine Lx.nil ?_
                  refine Xx.tn (k4 _ _ _ _ ?_)
                  refine Cx.ret ?_
                  refine Xx.dropB b1 (Xx.rB1 rfl rfl ⟨congrArg Value.bool ?_, rfl⟩ (Frag.le_refl _) rfl)
                  first | exact (decide_eq_false (by unfold BareP; grind)).symm | exact (decide_eq_true (by unfold BareP; grind)).symm | exact decide_eq_decide.2 (by unfold BareP; grind)
                · skip
                  refine Lx.gT rfl rfl rfl ?_
                  refine Lx.y (fa' fo26_5 rfl) rfl ?_
                  refine Lx.gT rfl rfl rfl ?_
                  refine Lx.y (ld Tryd.underlying24 rfl rfl rfl) rfl ?_
                  refine Lx.gT rfl rfl rfl ?_
                  refine Lx.y (lenV (ty' := 0) Tryd.underlying24 rfl) rfl ?_
                  refine Lx.gT rfl rfl rfl ?_
                  refine Lx.y (eqI rfl rfl) rfl ?_
                  refine Lx.gT rfl rfl rfl ?_
                  refine Lx.y (pickF rfl rfl) rfl ?_
                  refine Lx.y (pickT rfl rfl) rfl ?_
                  refine Lx.y (asg rfl) rfl ?_
                  refine Lx.nil ?_
                  refine Xx.tn (k4 _ _ _ _ ?_)
                  refine Cx.ret ?_
                  refine Xx.dropB b1 (Xx.rB1 rfl rfl ⟨congrArg Value.bool ?_, rfl⟩ (Frag.le_refl _) rfl)
                  first | exact (decide_eq_false (by unfold BareP; grind)).symm | exact (decide_eq_true (by unfold BareP; grind)).symm | exact decide_eq_decide.2 (by unfold BareP; grind)
              · skip
                refine Lx.gF rfl rfl rfl rfl ?_
                refine Lx.gF rfl rfl rfl rfl ?_
                refine Lx.gF rfl rfl rfl rfl ?_
                refine Lx.gF rfl rfl rfl rfl ?_
                refine Lx.gU rfl rfl rfl rfl ?_
                refine Lx.gU rfl rfl rfl rfl ?_
                refine Lx.gU rfl rfl rfl rfl ?_
                refine Lx.gU rfl rfl rfl rfl ?_
                refine Lx.gF rfl rfl rfl rfl ?_
                refine Lx.y (pickF rfl rfl) rfl ?_
                refine Lx.y (asg rfl) rfl ?_
                refine Lx.nil ?_
                refine Xx.tn (k4 _ _ _ _ ?_)
                refine Cx.ret ?_
                refine Xx.dropB b1 (Xx.rB1 rfl rfl ⟨congrArg Value.bool ?_, rfl⟩ (Frag.le_refl _) rfl)
                first | exact (decide_eq_false (by unfold BareP; grind)).symm | exact (decide_eq_true (by unfold BareP; grind)).symm | exact decide_eq_decide.2 (by unfold BareP; grind)
          · skip
            refine Lx.gT rfl rfl rfl ?_
            refine Lx.y (fa' fo26_3 rfl) rfl ?_
            refine Lx.gT rfl rfl rfl ?_
            refine Lx.y (ld Tryd.underlying9 rfl rfl rfl) rfl ?_
            refine Lx.gT rfl rfl rfl ?_
            refine Lx.y (eqS rfl rfl) rfl ?_
            refine Lx.gT rfl rfl rfl ?_
            refine Lx.y (pickF rfl rfl) rfl ?_
            refine Lx.y (pickT rfl rfl) rfl ?_
            refine Lx.y (mv rfl) rfl ?_
            refine Xx.ifD (t := 47) rfl (fun h12 => ?_) (fun h12 => ?_)
            · skip
              refine Lx.gT rfl rfl rfl ?_
              refine Lx.y (mv rfl) rfl ?_
              refine Lx.gT rfl rfl rfl ?_
              refine Lx.y (mv rfl) rfl ?_
              refine Xx.ifD (t := 49) rfl (fun h13 => ?_) (fun h13 => ?_)
              · skip
                refine Lx.gF rfl rfl rfl rfl ?_
                refine Lx.gF rfl rfl rfl rfl ?_
                refine Lx.gF rfl rfl rfl rfl ?_
                refine Lx.gF rfl rfl rfl rfl ?_
                refine Lx.gT rfl rfl rfl ?_
                refine Lx.y (pickT rfl rfl) rfl ?_
                refine Lx.y (pickT rfl rfl) rfl ?_
                refine Lx.y (mv rfl) rfl ?_
                refine Lx.gT rfl rfl rfl ?_
                refine Lx.y (fa' fo26_0 rfl) rfl ?_
                refine Lx.gT rfl rfl rfl ?_
                refine Lx.y (ld Tryd.underlying3 rfl rfl rfl) rfl ?_
                refine Lx.gT rfl rfl rfl ?_
                refine Lx.y (eqI rfl rfl) rfl ?_
                refine Lx.gT rfl rfl rfl ?_
                refine Lx.y (mv rfl) rfl ?_
                refine Xx.ifD (t := 60) rfl (fun h14 => ?_) (fun h14 => ?_)
                · skip
                  refine Lx.gF rfl rfl rfl rfl ?_
                  refine Lx.gF rfl rfl rfl rfl ?_
                  refine Lx.gF rfl rfl rfl rfl ?_
                  refine Lx.gF rfl rfl rfl rfl ?_
                  refine Lx.gT rfl rfl rfl ?_
                  refine Lx.y (pickT rfl rfl) rfl ?_
                  refine Lx.y (pickT rfl rfl) rfl ?_
                  refine Lx.y (asg rfl) rfl ?_
                  refine Lx.nil ?_
                  refine Xx.tn (k4 _ _ _ _ ?_)
                  refine Cx.ret ?_
                  refine Xx.dropB b1 (Xx.rB1 rfl rfl ⟨congrArg Value.bool ?_, rfl⟩ (Frag.le_refl _) rfl)
                  first | exact (decide_eq_false (by unfold BareP; grind)).symm | exact (decide_eq_true (by unfold BareP; grind)).symm | exact decide_eq_decide.2 (by unfold BareP; grind)
                · skip
                  refine Lx.gT rfl rfl rfl ?_
                  refine Lx.y (fa' fo26_5 rfl) rfl ?_
                  refine Lx.gT rfl rfl rfl ?_
                  refine Lx.y (ld Tryd.underlying24 rfl rfl rfl) rfl ?_
                  refine Lx.gT rfl rfl rfl ?_
                  refine Lx.y (lenV (ty' := 0) Tryd.underlying24 rfl) rfl ?_
                  refine Lx.gT rfl rfl rfl ?_
                  refine Lx.y (eqI rfl rfl) rfl ?_
                  refine Lx.gT rfl rfl rfl ?_
                  refine Lx.y (pickF rfl rfl) rfl ?_
                  refine Lx.y (pickT rfl rfl) rfl ?_
                  refine Lx.y (asg rfl) rfl ?_
                  refine Lx.nil ?_
                  refine Xx.tn (k4 _ _ _ _ ?_)
                  refine Cx.ret ?_
                  refine Xx.dropB b1 (Xx.rB1 rfl rfl ⟨congrArg Value.bool ?_, rfl⟩ (Frag.le_refl _) rfl)
                  first | exact (decide_eq_false (by unfold BareP; grind)).symm | exact (decide_eq_true (by unfold BareP; grind)).symm | exact decide_eq_decide.2 (by unfold BareP; grind)
              · skip
                refine Lx.gT rfl rfl rfl ?_
                refine Lx.y (fa' fo26_4 rfl) rfl ?_
                refine Lx.gT rfl rfl rfl ?_
                refine Lx.y (ld Tryd.underlying23 rfl rfl rfl) rfl ?_
                refine Lx.gT rfl rfl rfl ?_
                refine Lx.y (lenV (ty' := 0) Tryd.underlying23 rfl) rfl ?_
                refine Lx.gT rfl rfl rfl ?_
                refine Lx.y (eqI rfl rfl) rfl ?_
                refine Lx.gT rfl rfl rfl ?_
                refine Lx.y (pickF rfl rfl) rfl ?_
                refine Lx.y (pickT rfl rfl) rfl ?_
                refine Lx.y (mv rfl) rfl ?_
                refine Xx.ifD (t := 56) rfl (fun h15 => ?_) (fun h15 => ?_)
                · skip
                  refine Lx.gT rfl rfl rfl ?_
                  refine Lx.y (fa' fo26_0 rfl) rfl ?_
                  refine Lx.gT rfl rfl rfl ?_
                  refine Lx.y (ld Tryd.underlying3 rfl rfl rfl) rfl ?_
                  refine Lx.gT rfl rfl rfl ?_
                  refine Lx.y (eqI rfl rfl) rfl ?_
                  refine Lx.gT rfl rfl rfl ?_
                  refine Lx.y (mv rfl) rfl ?_
                  refine Xx.ifD (t := 60) rfl (fun h16 => ?_) (fun h16 => ?_)
                  · skip
                    refine Lx.gF rfl rfl rfl rfl ?_
                    refine Lx.gF rfl rfl rfl rfl ?_
                    refine Lx.gF rfl rfl rfl rfl ?_
                    refine Lx.gF rfl rfl rfl rfl ?_
                    refine Lx.gT rfl rfl rfl ?_
                    refine Lx.y (pickT rfl rfl) rfl ?_
                    refine Lx.y (pickT rfl rfl) rfl ?_
                    refine Lx.y (asg rfl) rfl ?_
                    refine Lx.nil ?_
                    refine Xx.tn (k4 _ _ _ _ ?_)
                    refine Cx.ret ?_
                    refine Xx.dropB b1 (Xx.rB1 rfl rfl ⟨congrArg Value.bool ?_, rfl⟩ (Frag.le_refl _) rfl)
                    first | exact (decide_eq_false (by unfold BareP; grind)).symm | exact (decide_eq_true (by unfold BareP; grind)).symm | exact decide_eq_decide.2 (by unfold BareP; grind)
                  · skip
                    refine Lx.gT rfl rfl rfl ?_
                    refine Lx.y (fa' fo26_5 rfl) rfl ?_
                    refine Lx.gT rfl rfl rfl ?_
                    refine Lx.y (ld Tryd.underlying24 rfl rfl rfl) rfl ?_
                    refine Lx.gT rfl rfl rfl ?_
                    refine Lx.y (lenV (ty' := 0) Tryd.underlying24 rfl) rfl ?_
                    refine Lx.gT rfl rfl rfl ?_
                    refine Lx.y (eqI rfl rfl) rfl ?_
                    refine Lx.gT rfl rfl rfl ?_
                    refine Lx.y (pickF rfl rfl) rfl ?_
                    refine Lx.y (pickT rfl rfl) rfl ?_
                    refine Lx.y (asg rfl) rfl ?_
                    refine Lx.nil ?_
                    refine Xx.tn (k4 _ _ _ _ ?_)
                    refine Cx.ret ?_
                    refine Xx.dropB b1 (Xx.rB1 rfl rfl ⟨congrArg Value.bool ?_, rfl⟩ (Frag.le_refl _) rfl)
                    first | exact (decide_eq_false (by unfold BareP; grind)).symm | exact (decide_eq_true (by unfold BareP; grind)).symm | exact decide_eq_decide.2 (by unfold BareP; grind)
                · skip
                  refine Lx.gF rfl rfl rfl rfl ?_
                  refine Lx.gF rfl rfl rfl rfl ?_
                  refine Lx.gF rfl rfl rfl rfl ?_
                  refine Lx.gF rfl rfl rfl rfl ?_
                  refine Lx.gU rfl rfl rfl rfl ?_
                  refine Lx.gU rfl rfl rfl rfl ?_
                  refine Lx.gU rfl rfl rfl rfl ?_
                  refine Lx.gU rfl rfl rfl rfl ?_
                  refine Lx.gF rfl rfl rfl rfl ?_
                  refine Lx.y (pickF rfl rfl) rfl ?_
                  refine Lx.y (asg rfl) rfl ?_
                  refine Lx.nil ?_
                  refine Xx.tn (k4 _ _ _ _ ?_)
                  refine Cx.ret ?_
                  refine Xx.dropB b1 (Xx.rB1 rfl rfl ⟨congrArg Value.bool ?_, rfl⟩ (Frag.le_refl _) rfl)
                  first | exact (decide_eq_false (by unfold BareP; grind)).symm | exact (decide_eq_true (by unfold BareP; grind)).symm | exact decide_eq_decide.2 (by unfold BareP; grind)
            · skip
              refine Lx.gF rfl rfl rfl rfl ?_
              refine Lx.gF rfl rfl rfl rfl ?_
              refine Lx.gU rfl rfl rfl rfl ?_
              refine Lx.gU rfl rfl rfl rfl ?_
              refine Lx.gU rfl rfl rfl rfl ?_
              refine Lx.gU rfl rfl rfl rfl ?_
              refine Lx.gF rfl rfl rfl rfl ?_
              refine Lx.y (pickF rfl rfl) rfl ?_
              refine Lx.y (mv rfl) rfl ?_
              refine Lx.gF rfl rfl rfl rfl ?_
              refine Lx.gF rfl rfl rfl rfl ?_
              refine Lx.gF rfl rfl rfl rfl ?_
              refine Lx.gF rfl rfl rfl rfl ?_
              refine Lx.gU rfl rfl rfl rfl ?_
              refine Lx.gU rfl rfl rfl rfl ?_
              refine Lx.gU rfl rfl rfl rfl ?_
              refine Lx.gU rfl rfl rfl rfl ?_
              refine Lx.gF rfl rfl rfl rfl ?_
              refine Lx.y (pickF rfl rfl) rfl ?_
              refine Lx.y (asg rfl) rfl ?_
              refine Lx.nil ?_
              refine Xx.tn (k4 _ _ _ _ ?_)
              refine Cx.ret ?_
              refine Xx.dropB b1 (Xx.rB1 rfl rfl ⟨congrArg Value.bool ?_, rfl⟩ (Frag.le_refl _) rfl)
              first | exact (decide_eq_false (by unfold BareP; grind)).symm | exact (decide_eq_true (by unfold BareP; grind)).symm | exact decide_eq_decide.2 (by unfold BareP; grind)
        · skip
          refine Lx.gT rfl rfl rfl ?_
          refine Lx.y (fa' fo26_2 rfl) rfl ?_
          refine Lx.gT rfl rfl rfl ?_
          refine Lx.y (ld Tryd.underlying2 rfl rfl rfl) rfl ?_
          refine Lx.gT rfl rfl rfl ?_
          refine Lx.y (eqI rfl rfl) rfl ?_
          refine Lx.gT rfl rfl rfl ?_
          refine Lx.y (pickF rfl rfl) rfl ?_
          refine Lx.y (pickT rfl rfl) rfl ?_
          refine Lx.y (mv rfl) rfl ?_
          refine Xx.ifD (t := 39) rfl (fun h17 => ?_) (fun h17 => ?_)
          · skip
            refine Lx.gT rfl rfl rfl ?_
            refine Lx.y (mv rfl) rfl ?_
            refine Lx.gT rfl rfl rfl ?_
            refine Lx.y (mv rfl) rfl ?_
            refine Xx.ifD (t := 41) rfl (fun h18 => ?_) (fun h18 => ?_)
            · skip
              refine Lx.gF rfl rfl rfl rfl ?_
              refine Lx.gF rfl rfl rfl rfl ?_
              refine Lx.gF rfl rfl rfl rfl ?_
              refine Lx.gT rfl rfl rfl ?_
              refine Lx.y (pickT rfl rfl) rfl ?_
              refine Lx.y (pickT rfl rfl) rfl ?_
              refine Lx.y (mv rfl) rfl ?_
              refine Lx.gT rfl rfl rfl ?_
              refine Lx.y (mv rfl) rfl ?_
              refine Lx.gT rfl rfl rfl ?_
              refine Lx.y (mv rfl) rfl ?_
              refine Xx.ifD (t := 49) rfl (fun h19 => ?_) (fun h19 => ?_)
              · skip
                refine Lx.gF rfl rfl rfl rfl ?_
                refine Lx.gF rfl rfl rfl rfl ?_
                refine Lx.gF rfl rfl rfl rfl ?_
                refine Lx.gF rfl rfl rfl rfl ?_
                refine Lx.gT rfl rfl rfl ?_
                refine Lx.y (pickT rfl rfl) rfl ?_
                refine Lx.y (pickT rfl rfl) rfl ?_
                refine Lx.y (mv rfl) rfl ?_
                refine Lx.gT rfl rfl rfl ?_
                refine Lx.y (fa' fo26_0 rfl) rfl ?_
                refine Lx.gT rfl rfl rfl ?_
                refine Lx.y (ld Tryd.underlying3 rfl rfl rfl) rfl ?_
                refine Lx.gT rfl rfl rfl ?_
                refine Lx.y (eqI rfl rfl) rfl ?_
                refine Lx.gT rfl rfl rfl ?_
                refine Lx.y (mv rfl) rfl ?_
                refine Xx.ifD (t := 60) rfl (fun h20 => ?_) (fun h20 => ?_)
                · skip
                  refine Lx.gF rfl rfl rfl rfl ?_
                  refine Lx.gF rfl rfl rfl rfl ?_
                  refine Lx.gF rfl rfl rfl rfl ?_
                  refine Lx.gF rfl rfl rfl rfl ?_
                  refine Lx.gT rfl rfl rfl ?_
                  refine Lx.y (pickT rfl rfl) rfl ?_
                  refine Lx.y (pickT rfl rfl) rfl ?_
                  refine Lx.y (asg rfl) rfl ?_
                  refine Lx.nil ?_
                  refine Xx.tn (k4 _ _ _ _ ?_)
                  refine Cx.ret ?_
                  refine Xx.dropB b1 (Xx.rB1 rfl rfl ⟨congrArg Value.bool ?_, rfl⟩ (Frag.le_refl _) rfl)
                  first | exact (decide_eq_false (by unfold BareP; grind)).symm | exact (decide_eq_true (by unfold BareP; grind)).symm | exact decide_eq_decide.2 (by unfold BareP; grind)
                · skip
                  refine Lx.gT rfl rfl rfl ?_
                  refine Lx.y (fa' fo26_5 rfl) rfl ?_
                  refine Lx.gT rfl rfl rfl ?_
                  refine Lx.y (ld Tryd.underlying24 rfl rfl rfl) rfl ?_
                  refine Lx.gT rfl rfl rfl ?_
                  refine Lx.y (lenV (ty' := 0) Tryd.underlying24 rfl) rfl ?_
                  refine Lx.gT rfl rfl rfl ?_
                  refine Lx.y (eqI rfl rfl) rfl ?_
                  refine Lx.gT rfl rfl rfl ?_
                  refine Lx.y (pickF rfl rfl) rfl ?_
                  refine Lx.y (pickT rfl rfl) rfl ?_
                  refine Lx.y (asg rfl) rfl ?_
                  refine Lx.nil ?_
                  refine Xx.tn (k4 _ _ _ _ ?_)
                  refine Cx.ret ?_
                  refine Xx.dropB b1 (Xx.rB1 rfl rfl ⟨congrArg Value.bool ?_, rfl⟩ (Frag.le_refl _) rfl)
                  first | exact (decide_eq_false (by unfold BareP; grind)).symm | exact (decide_eq_true (by unfold BareP; grind)).symm | exact decide_eq_decide.2 (by unfold BareP; grind)
              · skip
                refine Lx.gT rfl rfl rfl ?_
                refine Lx.y (fa' fo26_4 rfl) rfl ?_
                refine Lx.gT rfl rfl rfl ?_
                refine Lx.y (ld Tryd.underlying23 rfl rfl rfl) rfl ?_
                refine Lx.gT rfl rfl rfl ?_
                refine Lx.y (lenV (ty' := 0) Tryd.underlying23 rfl) rfl ?_
                refine Lx.gT rfl rfl rfl ?_
                refine Lx.y (eqI rfl rfl) rfl ?_
                refine Lx.gT rfl rfl rfl ?_
                refine Lx.y (pickF rfl rfl) rfl ?_
                refine Lx.y (pickT rfl rfl) rfl ?_
                refine Lx.y (mv rfl) rfl ?_
                refine Xx.ifD (t := 56) rfl (fun h21 => ?_) (fun h21 => ?_)
                · skip
                  refine Lx.gT rfl rfl rfl ?_
                  refine Lx.y (fa' fo26_0 rfl) rfl ?_
                  refine Lx.gT rfl rfl rfl ?_
                  refine Lx.y (ld Tryd.underlying3 rfl rfl rfl) rfl ?_
                  refine Lx.gT rfl rfl rfl ?_
                  refine Lx.y (eqI rfl rfl) rfl ?_
                  refine Lx.gT rfl rfl rfl ?_
                  refine Lx.y (mv rfl) rfl ?_
                  refine Xx.ifD (t := 60) rfl (fun h22 => ?_) (fun h22 => ?_)
                  · skip
                    refine Lx.gF rfl rfl rfl rfl ?_
                    refine Lx.gF rfl rfl rfl rfl ?_
                    refine Lx.gF rfl rfl rfl rfl ?_
                    refine Lx.gF rfl rfl rfl rfl ?_
                    refine Lx.gT rfl rfl rfl ?_
                    refine Lx.y (pickT rfl rfl) rfl ?_
                    refine Lx.y (pickT rfl rfl) rfl ?_
                    refine Lx.y (asg rfl) rfl ?_
                    refine Lx.nil ?_
                    refine Xx.tn (k4 _ _ _ _ ?_)
                    refine Cx.ret ?_
                    refine Xx.dropB b1 (Xx.rB1 rfl rfl ⟨congrArg Value.bool ?_, rfl⟩ (Frag.le_refl _) rfl)
                    first | exact (decide_eq_false (by unfold BareP; grind)).symm | exact (decide_eq_true (by unfold BareP; grind)).symm | exact decide_eq_decide.2 (by unfold BareP; grind)
                  · skip
                    refine Lx.gT rfl rfl rfl ?_
                    refine Lx.y (fa' fo26_5 rfl) rfl ?_
                    refine Lx.gT rfl rfl rfl ?_
                    refine Lx.y (ld Tryd.underlying24 rfl rfl rfl) rfl ?_
                    refine Lx.gT rfl rfl rfl ?_
                    refine Lx.y (lenV (ty' := 0) Tryd.underlying24 rfl) rfl ?_
                    refine Lx.gT rfl rfl rfl ?_
                    refine Lx.y (eqI rfl rfl) rfl ?_
                    refine Lx.gT rfl rfl rfl ?_
                    refine Lx.y (pickF rfl rfl) rfl ?_
                    refine Lx.y (pickT rfl rfl) rfl ?_
                    refine Lx.y (asg rfl) rfl ?_
                    refine Lx.nil ?_
                    refine Xx.tn (k4 _ _ _ _ ?_)
                    refine Cx.ret ?_
                    refine Xx.dropB b1 (Xx.rB1 rfl rfl ⟨congrArg Value.bool ?_, rfl⟩ (Frag.le_refl _) rfl)
                    first | exact (decide_eq_false (by unfold BareP; grind)).symm | exact (decide_eq_true (by unfold BareP; grind)).symm | exact decide_eq_decide.2 (by unfold BareP; grind)
                · skip
                  refine Lx.gF rfl rfl rfl rfl ?_
                  refine Lx.gF rfl rfl rfl rfl ?_
                  refine Lx.gF rfl rfl rfl rfl ?_
                  refine Lx.gF rfl rfl rfl rfl ?_
                  refine Lx.gU rfl rfl rfl rfl ?_
                  refine Lx.gU rfl rfl rfl rfl ?_
                  refine Lx.gU rfl rfl rfl rfl ?_
                  refine Lx.gU rfl rfl rfl rfl ?_
                  refine Lx.gF rfl rfl rfl rfl ?_
                  refine Lx.y (pickF rfl rfl) rfl ?_
                  refine Lx.y (asg rfl) rfl ?_
                  refine Lx.nil ?_
                  refine Xx.tn (k4 _ _ _ _ ?_)
                  refine Cx.ret ?_
                  refine Xx.dropB b1 (Xx.rB1 rfl rfl ⟨congrArg Value.bool ?_, rfl⟩ (Frag.le_refl _) rfl)
                  first | exact (decide_eq_false (by unfold BareP; grind)).symm | exact (decide_eq_true (by unfold BareP; grind)).symm | exact decide_eq_decide.2 (by unfold BareP; grind)
            · skip
              refine Lx.gT rfl rfl rfl ?_
              refine Lx.y (fa' fo26_3 rfl) rfl ?_
              refine Lx.gT rfl rfl rfl ?_
              refine Lx.y (ld Tryd.underlying9 rfl rfl rfl) rfl ?_
              refine Lx.gT rfl rfl rfl ?_
              refine Lx.y (eqS rfl rfl) rfl ?_
              refine Lx.gT rfl rfl rfl ?_
              refine Lx.y (pickF rfl rfl) rfl ?_
              refine Lx.y (pickT rfl rfl) rfl ?_
              refine Lx.y (mv rfl) rfl ?_
              refine Xx.ifD (t := 47) rfl (fun h23 => ?_) (fun h23 => ?_)
              · skip
                refine Lx.gT rfl rfl rfl ?_
                refine Lx.y (mv rfl) rfl ?_
                refine Lx.gT rfl rfl rfl ?_
                refine Lx.y (mv rfl) rfl ?_
                refine Xx.ifD (t := 49) rfl (fun h24 => ?_) (fun h24 => ?_)
                · skip
                  refine Lx.gF rfl rfl rfl rfl ?_
                  refine Lx.gF rfl rfl rfl rfl ?_
                  refine Lx.gF rfl rfl rfl rfl ?_
                  refine Lx.gF rfl rfl rfl rfl ?_
                  refine Lx.gT rfl rfl rfl ?_
                  refine Lx.y (pickT rfl rfl) rfl ?_
                  refine Lx.y (pickT rfl rfl) rfl ?_
                  refine Lx.y (mv rfl) rfl ?_
                  refine Lx.gT rfl rfl rfl ?_
                  refine Lx.y (fa' fo26_0 rfl) rfl ?_
                  refine Lx.gT rfl rfl rfl ?_
                  refine Lx.y (ld Tryd.underlying3 rfl rfl rfl) rfl ?_
                  refine Lx.gT rfl rfl rfl ?_
                  refine Lx.y (eqI rfl rfl) rfl ?_
                  refine Lx.gT rfl rfl rfl ?_
                  refine Lx.y (mv rfl) rfl ?_
                  refine Xx.ifD (t := 60) rfl (fun h25 => ?_) (fun h25 => ?_)
                  · skip
                    refine Lx.gF rfl rfl rfl rfl ?_
                    refine Lx.gF rfl rfl rfl rfl ?_
                    refine Lx.gF rfl rfl rfl rfl ?_
                    refine Lx.gF rfl rfl rfl rfl ?_
                    refine Lx.gT rfl rfl rfl ?_
                    refine Lx.y (pickT rfl rfl) rfl ?_
                    refine Lx.y (pickT rfl rfl) rfl ?_
                    refine Lx.y (asg rfl) rfl ?_
                    refine Lx.nil ?_
                    refine Xx.tn (k4 _ _ _ _ ?_)
                    refine Cx.ret ?_
                    refine Xx.dropB b1 (Xx.rB1 rfl rfl ⟨congrArg Value.bool ?_, rfl⟩ (Frag.le_refl _) rfl)
                    first | exact (decide_eq_false (by unfold BareP; grind)).symm | exact (decide_eq_true (by unfold BareP; grind)).symm | exact decide_eq_decide.2 (by unfold BareP; grind)
                  · skip
                    refine Lx.gT rfl rfl rfl ?_
                    refine Lx.y (fa' fo26_5 rfl) rfl ?_
                    refine Lx.gT rfl rfl rfl ?_
                    refine Lx.y (ld Tryd.underlying24 rfl rfl rfl) rfl ?_
                    refine Lx.gT rfl rfl rfl ?_
                    refine Lx.y (lenV (ty' := 0) Tryd.underlying24 rfl) rfl ?_
                    refine Lx.gT rfl rfl rfl ?_
                    refine Lx.y (eqI rfl rfl) rfl ?_
                    refine Lx.gT rfl rfl rfl ?_
                    refine Lx.y (pickF rfl rfl) rfl ?_
                    refine Lx.y (pickT rfl rfl) rfl ?_
                    refine Lx.y (asg rfl) rfl ?_
                    refine Lx.nil ?_
                    refine Xx.tn (k4 _ _ _ _ ?_)
                    refine Cx.ret ?_
                    refine Xx.dropB b1 (Xx.rB1 rfl rfl ⟨congrArg Value.bool ?_, rfl⟩ (Frag.le_refl _) rfl)
                    first | exact (decide_eq_false (by unfold BareP; grind)).symm | exact (decide_eq_true (by unfold BareP; grind)).symm | exact decide_eq_decide.2 (by unfold BareP; grind)
                · skip
                  refine Lx.gT rfl rfl rfl ?_
                  refine Lx.y (fa' fo26_4 rfl) rfl ?_
                  refine Lx.gT rfl rfl rfl ?_
                  refine Lx.y (ld Tryd.underlying23 rfl rfl rfl) rfl ?_
                  refine Lx.gT rfl rfl rfl ?_
                  refine Lx.y (lenV (ty' := 0) Tryd.underlying23 rfl) rfl ?_
                  refine Lx.gT rfl rfl rfl ?_
                  refine Lx.y (eqI rfl rfl) rfl ?_
                  refine Lx.gT rfl rfl rfl ?_
                  refine Lx.y (pickF rfl rfl) rfl ?_
                  refine Lx.y (pickT rfl rfl) rfl ?_
                  refine Lx.y (mv rfl) rfl ?_
                  refine Xx.ifD (t := 56) rfl (fun h26 => ?_) (fun h26 => ?_)
                  · skip
                    refine Lx.gT rfl rfl rfl ?_
                    refine Lx.y (fa' fo26_0 rfl) rfl ?_
                    refine Lx.gT rfl rfl rfl ?_
                    refine Lx.y (ld Tryd.underlying3 rfl rfl rfl) rfl ?_
                    refine Lx.gT rfl rfl rfl ?_
                    refine Lx.y (eqI rfl rfl) rfl ?_
                    refine Lx.gT rfl rfl rfl ?_
                    refine Lx.y (mv rfl) rfl ?_
                    refine Xx.ifD (t := 60) rfl (fun h27 => ?_) (fun h27 => ?_)
                    · skip
                      refine Lx.gF rfl rfl rfl rfl ?_
                      refine Lx.gF rfl rfl rfl rfl ?_
                      refine Lx.gF rfl rfl rfl rfl ?_
                      refine Lx.gF rfl rfl rfl rfl ?_
                      refine Lx.gT rfl rfl rfl ?_
                      refine Lx.y (pickT rfl rfl) rfl ?_
                      refine Lx.y (pickT rfl rfl) rfl ?_
                      refine Lx.y (asg rfl) rfl ?_
                      refine Lx.nil ?_
                      refine Xx.tn (k4 _ _ _ _ ?_)
                      refine Cx.ret ?_
                      refine Xx.dropB b1 (Xx.rB1 rfl rfl ⟨congrArg Value.bool ?_, rfl⟩ (Frag.le_refl _) rfl)
                      first | exact (decide_eq_false (by unfold BareP; grind)).symm | exact (decide_eq_true (by unfold BareP; grind)).symm | exact decide_eq_decide.2 (by unfold BareP; grind)
                    · skip
                      refine Lx.gT rfl rfl rfl ?_
                      refine Lx.y (fa' fo26_5 rfl) rfl ?_
                      refine Lx.gT rfl rfl rfl ?_
                      refine Lx.y (ld Tryd.underlying24 rfl rfl rfl) rfl ?_
                      refine Lx.gT rfl rfl rfl ?_
                      refine Lx.y (lenV (ty' := 0) Tryd.underlying24 rfl) rfl ?_
                      refine Lx.gT rfl rfl rfl ?_
                      refine Lx.y (eqI rfl rfl) rfl ?_
                      refine Lx.gT rfl rfl rfl ?_
                      refine Lx.y (pickF rfl rfl) rfl ?_
                      refine Lx.y (pickT rfl rfl) rfl ?_
                      refine Lx.y (asg rfl) rfl ?_
                      refine Lx.nil ?_
                      refine Xx.tn (k4 _ _ _ _ ?_)
                      refine Cx.ret ?_
                      refine Xx.dropB b1 (Xx.rB1 rfl rfl ⟨congrArg Value.bool ?_, rfl⟩ (Frag.le_refl _) rfl)
                      first | exact (decide_eq_false (by unfold BareP; grind)).symm | exact (decide_eq_true (by unfold BareP; grind)).symm | exact decide_eq_decide.2 (by unfold BareP; grind)
                  · skip
                    refine Lx.gF rfl rfl rfl rfl ?_
                    refine Lx.gF rfl rfl rfl rfl ?_
                    refine Lx.gF rfl rfl rfl rfl ?_
                    refine Lx.gF rfl rfl rfl rfl ?_
                    refine Lx.gU rfl rfl rfl rfl ?_
                    refine Lx.gU rfl rfl rfl rfl ?_
                    refine Lx.gU rfl rfl rfl rfl ?_
                    refine Lx.gU rfl rfl rfl rfl ?_
                    refine Lx.gF rfl rfl rfl rfl ?_
                    refine Lx.y (pickF rfl rfl) rfl ?_
                    refine Lx.y (asg rfl) rfl ?_
                    refine Lx.nil ?_
                    refine Xx.tn (k4 _ _ _ _ ?_)
                    refine Cx.ret ?_
                    refine Xx.dropB b1 (Xx.rB1 rfl rfl ⟨congrArg Value.bool ?_, rfl⟩ (Frag.le_refl _) rfl)
                    first | exact (decide_eq_false (by unfold BareP; grind)).symm | exact (decide_eq_true (by unfold BareP; grind)).symm | exact decide_eq_decide.2 (by unfold BareP; grind)
              · skip
                refine Lx.gF rfl rfl rfl rfl ?_
                refine Lx.gF rfl rfl rfl rfl ?_
                refine Lx.gU rfl rfl rfl rfl ?_
                refine Lx.gU rfl rfl rfl rfl ?_
                refine Lx.gU rfl rfl rfl rfl ?_
                refine Lx.gU rfl rfl rfl rfl ?_
                refine Lx.gF rfl rfl rfl rfl ?_
                refine Lx.y (pickF rfl rfl) rfl ?_
                refine Lx.y (mv rfl) rfl ?_
                refine Lx.gF rfl rfl rfl rfl ?_
                refine Lx.gF rfl rfl rfl rfl ?_
                refine Lx.gF rfl rfl rfl rfl ?_
                refine Lx.gF rfl rfl rfl rfl ?_
                refine Lx.gU rfl rfl rfl rfl ?_
                refine Lx.gU rfl rfl rfl rfl ?_
                refine Lx.gU rfl rfl rfl rfl ?_
                refine Lx.gU rfl rfl rfl rfl ?_
                refine Lx.gF rfl rfl rfl rfl ?_
                refine Lx.y (pickF rfl rfl) rfl ?_
                refine Lx.y (asg rfl) rfl ?_
                refine Lx.nil ?_
                refine Xx.tn (k4 _ _ _ _ ?_)
                refine Cx.ret ?_
                refine Xx.dropB b1 (Xx.rB1 rfl rfl ⟨congrArg Value.bool ?_, rfl⟩ (Frag.le_refl _) rfl)
                first | exact (decide_eq_false (by unfold BareP; grind)).symm | exact (decide_eq_true (by unfold BareP; grind)).symm | exact decide_eq_decide.2 (by unfold BareP; grind)
          · skip
            refine Lx.gF rfl rfl rfl rfl ?_
            refine Lx.gF rfl rfl rfl rfl ?_
            refine Lx.gU rfl rfl rfl rfl ?_
            refine Lx.gU rfl rfl rfl rfl ?_
            refine Lx.gU rfl rfl rfl rfl ?_
            refine Lx.gF rfl rfl rfl rfl ?_
            refine Lx.y (pickF rfl rfl) rfl ?_
            refine Lx.y (mv rfl) rfl ?_
            refine Lx.gF rfl rfl rfl rfl ?_
            refine Lx.gF rfl rfl rfl rfl ?_
            refine Lx.gU rfl rfl rfl rfl ?_
            refine Lx.gU rfl rfl rfl rfl ?_
            refine Lx.gU rfl rfl rfl rfl ?_
            refine Lx.gU rfl rfl rfl rfl ?_
            refine Lx.gF rfl rfl rfl rfl ?_
            refine Lx.y (pickF rfl rfl) rfl ?_
            refine Lx.y (mv rfl) rfl ?_
            refine Lx.gF rfl rfl rfl rfl ?_
            refine Lx.gF rfl rfl rfl rfl ?_
            refine Lx.gF rfl rfl rfl rfl ?_
            refine Lx.gF rfl rfl rfl rfl ?_
            refine Lx.gU rfl rfl rfl rfl ?_
            refine Lx.gU rfl rfl rfl rfl ?_
            refine Lx.gU rfl rfl rfl rfl ?_
            refine Lx.gU rfl rfl rfl rfl ?_
            refine Lx.gF rfl rfl rfl rfl ?_
            refine Lx.y (pickF rfl rfl) rfl ?_
            refine Lx.y (asg rfl) rfl ?_
            refine Lx.nil ?_
            refine Xx.tn (k4 _ _ _ _ ?_)
            refine Cx.ret ?_
            refine Xx.dropB b1 (Xx.rB1 rfl rfl ⟨congrArg Value.bool ?_, rfl⟩ (Frag.le_refl _) rfl)
            first | exact (decide_eq_false (by unfold BareP; grind)).symm | exact (decide_eq_true (by unfold BareP; grind)).symm | exact decide_eq_decide.2 (by unfold BareP; grind)
      · skip
        refine Lx.gT rfl rfl rfl ?_
        refine Lx.y (fa' fo26_1 rfl) rfl ?_
        refine Lx.gT rfl rfl rfl ?_
        refine Lx.y (ld Tryd.underlying4 rfl rfl rfl) rfl ?_
        refine Lx.gT rfl rfl rfl ?_
        refine Lx.y (not' rfl) rfl ?_
        refine Lx.y (pickF rfl rfl) rfl ?_
        refine Lx.y (mv rfl) rfl ?_
        refine Xx.ifB (t := 29) rfl (fun h28 => ?_) (fun h28 => ?_)
        · skip
          refine Lx.gT rfl rfl rfl ?_
          refine Lx.y (fa' fo26_0 rfl) rfl ?_
          refine Lx.gT rfl rfl rfl ?_
          refine Lx.y (ld Tryd.underlying3 rfl rfl rfl) rfl ?_
          refine Lx.gT rfl rfl rfl ?_
          refine Lx.y (eqI rfl rfl) rfl ?_
          refine Lx.gT rfl rfl rfl ?_
          refine Lx.y (mv rfl) rfl ?_
          refine Xx.ifD (t := 33) rfl (fun h29 => ?_) (fun h29 => ?_)
          · skip
            refine Lx.gF rfl rfl rfl rfl ?_
            refine Lx.gF rfl rfl rfl rfl ?_
            refine Lx.gF rfl rfl rfl rfl ?_
            refine Lx.gT rfl rfl rfl ?_
            refine Lx.y (pickT rfl rfl) rfl ?_
            refine Lx.y (pickT rfl rfl) rfl ?_
            refine Lx.y (mv rfl) rfl ?_
            refine Lx.gT rfl rfl rfl ?_
            refine Lx.y (mv rfl) rfl ?_
            refine Lx.gT rfl rfl rfl ?_
            refine Lx.y (mv rfl) rfl ?_
            refine Xx.ifD (t := 41) rfl (fun h30 => ?_) (fun h30 => ?_)
            · skip
              refine Lx.gF rfl rfl rfl rfl ?_
              refine Lx.gF rfl rfl rfl rfl ?_
              refine Lx.gF rfl rfl rfl rfl ?_
              refine Lx.gT rfl rfl rfl ?_
              refine Lx.y (pickT rfl rfl) rfl ?_
              refine Lx.y (pickT rfl rfl) rfl ?_
              refine Lx.y (mv rfl) rfl ?_
              refine Lx.gT rfl rfl rfl ?_
              refine Lx.y (mv rfl) rfl ?_
              refine Lx.gT rfl rfl rfl ?_
              refine Lx.y (mv rfl) rfl ?_
              refine Xx.ifD (t := 49) rfl (fun h31 => ?_) (fun h31 => ?_)
              · skip
                refine Lx.gF rfl rfl rfl rfl ?_
                refine Lx.gF rfl rfl rfl rfl ?_
                refine Lx.gF rfl rfl rfl rfl ?_
                refine Lx.gF rfl rfl rfl rfl ?_
                refine Lx.gT rfl rfl rfl ?_
                refine Lx.y (pickT rfl rfl) rfl ?_
                refine Lx.y (pickT rfl rfl) rfl ?_
                refine Lx.y (mv rfl) rfl ?_
                refine Lx.gT rfl rfl rfl ?_
                refine Lx.y (fa' fo26_0 rfl) rfl ?_
                refine Lx.gT rfl rfl rfl ?_
                refine Lx.y (ld Tryd.underlying3 rfl rfl rfl) rfl ?_
                refine Lx.gT rfl rfl rfl ?_
                refine Lx.y (eqI rfl rfl) rfl ?_
                refine Lx.gT rfl rfl rfl ?_
                refine Lx.y (mv rfl) rfl ?_
                refine Xx.ifD (t := 60) rfl (fun h32 => ?_) (fun h32 => ?_)
                · skip
                  refine Lx.gF rfl rfl rfl rfl ?_
                  refine Lx.gF rfl rfl rfl rfl ?_
                  refine Lx.gF rfl rfl rfl rfl ?_
                  refine Lx.gF rfl rfl rfl rfl ?_
                  refine Lx.gT rfl rfl rfl ?_
                  refine Lx.y (pickT rfl rfl) rfl ?_
                  refine Lx.y (pickT rfl rfl) rfl ?_
                  refine Lx.y (asg rfl) rfl ?_
                  refine Lx.nil ?_
                  refine Xx.tn (k4 _ _ _ _ ?_)
                  refine Cx.ret ?_
                  refine Xx.dropB b1 (Xx.rB1 rfl rfl ⟨congrArg Value.bool ?_, rfl⟩ (Frag.le_refl _) rfl)
                  first | exact (decide_eq_false (by unfold BareP; grind)).symm | exact (decide_eq_true (by unfold BareP; grind)).symm | exact decide_eq_decide.2 (by unfold BareP; grind)
                · skip
                  refine Lx.gT rfl rfl rfl ?_
                  refine Lx.y (fa' fo26_5 rfl) rfl ?_
                  refine Lx.gT rfl rfl rfl ?_
                  refine Lx.y (ld Tryd.underlying24 rfl rfl rfl) rfl ?_
                  refine Lx.gT rfl rfl rfl ?_
                  refine Lx.y (lenV (ty' := 0) Tryd.underlying24 rfl) rfl ?_
                  refine Lx.gT rfl rfl rfl ?_
                  refine Lx.y (eqI rfl rfl) rfl ?_
                  refine Lx.gT rfl rfl rfl ?_
                  refine Lx.y (pickF rfl rfl) rfl ?_
                  refine Lx.y (pickT rfl rfl) rfl ?_
                  refine Lx.y (asg rfl) rfl ?_
                  refine Lx.nil ?_
                  refine Xx.tn (k4 _ _ _ _ ?_)
                  refine Cx.ret ?_
                  refine Xx.dropB b1 (Xx.rB1 rfl rfl ⟨congrArg Value.bool ?_, rfl⟩ (Frag.le_refl _) rfl)
                  first | exact (decide_eq_false (by unfold BareP; grind)).symm | exact (decide_eq_true (by unfold BareP; grind)).symm | exact decide_eq_decide.2 (by unfold BareP; grind)
              · skip
                refine Lx.gT rfl rfl rfl ?_
                refine Lx.y (fa' fo26_4 rfl) rfl ?_
                refine Lx.gT rfl rfl rfl ?_
                refine Lx.y (ld Tryd.underlying23 rfl rfl rfl) rfl ?_
                refine Lx.gT rfl rfl rfl ?_
                refine Lx.y (lenV (ty' := 0) Tryd.underlying23 rfl) rfl ?_
                refine Lx.gT rfl rfl rfl ?_
                refine Lx.y (eqI rfl rfl) rfl ?_
                refine Lx.gT rfl rfl rfl ?_
                refine Lx.y (pickF rfl rfl) rfl ?_
                refine Lx.y (pickT rfl rfl) rfl ?_
                refine Lx.y (mv rfl) rfl ?_
                refine Xx.ifD (t := 56) rfl (fun h33 => ?_) (fun h33 => ?_)
                · skip
                  refine Lx.gT rfl rfl rfl ?_
                  refine Lx.y (fa' fo26_0 rfl) rfl ?_
                  refine Lx.gT rfl rfl rfl ?_
                  refine Lx.y (ld Tryd.underlying3 rfl rfl rfl) rfl ?_
                  refine Lx.gT rfl rfl rfl ?_
                  refine Lx.y (eqI rfl rfl) rfl ?_
                  refine Lx.gT rfl rfl rfl ?_
                  refine Lx.y (mv rfl) rfl ?_
                  refine Xx.ifD (t := 60) rfl (fun h34 => ?_) (fun h34 => ?_)
                  · skip
                    refine Lx.gF rfl rfl rfl rfl ?_
                    refine Lx.gF rfl rfl rfl rfl ?_
                    refine Lx.gF rfl rfl rfl rfl ?_
                    refine Lx.gF rfl rfl rfl rfl ?_
                    refine Lx.gT rfl rfl rfl ?_
                    refine Lx.y (pickT rfl rfl) rfl ?_
                    refine Lx.y (pickT rfl rfl) rfl ?_
                    refine Lx.y (asg rfl) rfl ?_
                    refine Lx.nil ?_
                    refine Xx.tn (k4 _ _ _ _ ?_)
                    refine Cx.ret ?_
                    refine Xx.dropB b1 (Xx.rB1 rfl rfl ⟨congrArg Value.bool ?_, rfl⟩ (Frag.le_refl _) rfl)
                    first | exact (decide_eq_false (by unfold BareP; grind)).symm | exact (decide_eq_true (by unfold BareP; grind)).symm | exact decide_eq_decide.2 (by unfold BareP; grind)
                  · skip
                    refine Lx.gT rfl rfl rfl ?_
                    refine Lx.y (fa' fo26_5 rfl) rfl ?_
                    refine Lx.gT rfl rfl rfl ?_
                    refine Lx.y (ld Tryd.underlying24 rfl rfl rfl) rfl ?_
                    refine Lx.gT rfl rfl rfl ?_
                    refine Lx.y (lenV (ty' := 0) Tryd.underlying24 rfl) rfl ?_
                    refine Lx.gT rfl rfl rfl ?_
                    refine Lx.y (eqI rfl rfl) rfl ?_
                    refine Lx.gT rfl rfl rfl ?_
                    refine Lx.y (pickF rfl rfl) rfl ?_
                    refine Lx.y (pickT rfl rfl) rfl ?_
                    refine Lx.y (asg rfl) rfl ?_
                    refine Lx.nil ?_
                    refine Xx.tn (k4 _ _ _ _ ?_)
                    refine Cx.ret ?_
                    refine Xx.dropB b1 (Xx.rB1 rfl rfl ⟨congrArg Value.bool ?_, rfl⟩ (Frag.le_refl _) rfl)
                    first | exact (decide_eq_false (by unfold BareP; grind)).symm | exact (decide_eq_true (by unfold BareP; grind)).symm | exact decide_eq_decide.2 (by unfold BareP; grind)
                · skip
                  refine Lx.gF rfl rfl rfl rfl ?_
                  refine Lx.gF rfl rfl rfl rfl ?_
                  refine Lx.gF rfl rfl rfl rfl ?_
                  refine Lx.gF rfl rfl rfl rfl ?_
                  refine Lx.gU rfl rfl rfl rfl ?_
                  refine Lx.gU rfl rfl rfl rfl ?_
                  refine Lx.gU rfl rfl rfl rfl ?_
                  refine Lx.gU rfl rfl rfl rfl ?_
                  refine Lx.gF rfl rfl rfl rfl ?_
                  refine Lx.y (pickF rfl rfl) rfl ?_
                  refine Lx.y (asg rfl) rfl ?_
                  refine Lx.nil ?_
                  refine Xx.tn (k4 _ _ _ _ ?_)
                  refine Cx.ret ?_
                  refine Xx.dropB b1 (Xx.rB1 rfl rfl ⟨congrArg Value.bool ?_, rfl⟩ (Frag.le_refl _) rfl)
                  first | exact (decide_eq_false (by unfold BareP; grind)).symm | exact (decide_eq_true (by unfold BareP; grind)).symm | exact decide_eq_decide.2 (by unfold BareP; grind)
            · skip
              refine Lx.gT rfl rfl rfl ?_
              refine Lx.y (fa' fo26_3 rfl) rfl ?_
              refine Lx.gT rfl rfl rfl ?_
              refine Lx.y (ld Tryd.underlying9 rfl rfl rfl) rfl ?_
              refine Lx.gT rfl rfl rfl ?_
              refine Lx.y (eqS rfl rfl) rfl ?_
              refine Lx.gT rfl rfl rfl ?_
              refine Lx.y (pickF rfl rfl) rfl ?_
              refine Lx.y (pickT rfl rfl) rfl ?_
              refine Lx.y (mv rfl) rfl ?_
              refine Xx.ifD (t := 47) rfl (fun h35 => ?_) (fun h35 => ?_)
              · skip
                refine Lx.gT rfl rfl rfl ?_
                refine Lx.y (mv rfl) rfl ?_
                refine Lx.gT rfl rfl rfl ?_
                refine Lx.y (mv rfl) rfl ?_
                refine Xx.ifD (t := 49) rfl (fun h36 => ?_) (fun h36 => ?_)
                · skip
                  refine Lx.gF rfl rfl rfl rfl ?_
                  refine Lx.gF rfl rfl rfl rfl ?_
                  refine Lx.gF rfl rfl rfl rfl ?_
                  refine Lx.gF rfl rfl rfl rfl ?_
                  refine Lx.gT rfl rfl rfl ?_
                  refine Lx.y (pickT rfl rfl) rfl ?_
                  refine Lx.y (pickT rfl rfl) rfl ?_
                  refine Lx.y (mv rfl) rfl ?_
                  refine Lx.gT rfl rfl rfl ?_
                  refine Lx.y (fa' fo26_0 rfl) rfl ?_
                  refine Lx.gT rfl rfl rfl ?_
                  refine Lx.y (ld Tryd.underlying3 rfl rfl rfl) rfl ?_
                  refine Lx.gT rfl rfl rfl ?_
                  refine Lx.y (eqI rfl rfl) rfl ?_
                  refine Lx.gT rfl rfl rfl ?_
                  refine Lx.y (mv rfl) rfl ?_
                  refine Xx.ifD (t := 60) rfl (fun h37 => ?_) (fun h37 => ?_)
                  · skip
                    refine Lx.gF rfl rfl rfl rfl ?_
                    refine Lx.gF rfl rfl rfl rfl ?_
                    refine Lx.gF rfl rfl rfl rfl ?_
                    refine Lx.gF rfl rfl rfl rfl ?_
                    refine Lx.gT rfl rfl rfl ?_
                    refine Lx.y (pickT rfl rfl) rfl ?_
                    refine Lx.y (pickT rfl rfl) rfl ?_
                    refine Lx.y (asg rfl) rfl ?_
                    refine Lx.nil ?_
                    refine Xx.tn (k4 _ _ _ _ ?_)
                    refine Cx.ret ?_
                    refine Xx.dropB b1 (Xx.rB1 rfl rfl ⟨congrArg Value.bool ?_, rfl⟩ (Frag.le_refl _) rfl)
                    first | exact (decide_eq_false (by unfold BareP; grind)).symm | exact (decide_eq_true (by unfold BareP; grind)).symm | exact decide_eq_decide.2 (by unfold BareP; grind)
                  · skip
                    refine Lx.gT rfl rfl rfl ?_
                    refine Lx.y (fa' fo26_5 rfl) rfl ?_
                    refine Lx.gT rfl rfl rfl ?_
                    refine Lx.y (ld Tryd.underlying24 rfl rfl rfl) rfl ?_
                    refine Lx.gT rfl rfl rfl ?_
                    refine Lx.y (lenV (ty' := 0) Tryd.underlying24 rfl) rfl ?_
                    refine Lx.gT rfl rfl rfl ?_
                    refine Lx.y (eqI rfl rfl) rfl ?_
                    refine Lx.gT rfl rfl rfl ?_
                    refine Lx.y (pickF rfl rfl) rfl ?_
                    refine Lx.y (pickT rfl rfl) rfl ?_
                    refine Lx.y (asg rfl) rfl ?_
                    refine Lx.nil ?_
                    refine Xx.tn (k4 _ _ _ _ ?_)
                    refine Cx.ret ?_
                    refine Xx.dropB b1 (Xx.rB1 rfl rfl ⟨congrArg Value.bool ?_, rfl⟩ (Frag.le_refl _) rfl)
                    first | exact (decide_eq_false (by unfold BareP; grind)).symm | exact (decide_eq_true (by unfold BareP; grind)).symm | exact decide_eq_decide.2 (by unfold BareP; grind)
                · skip
                  refine Lx.gT rfl rfl rfl ?_
                  refine Lx.y (fa' fo26_4 rfl) rfl ?_
                  refine Lx.gT rfl rfl rfl ?_
                  refine Lx.y (ld Tryd.underlying23 rfl rfl rfl) rfl ?_
                  refine Lx.gT rfl rfl rfl ?_
                  refine Lx.y (lenV (ty' := 0) Tryd.underlying23 rfl) rfl ?_
                  refine Lx.gT rfl rfl rfl ?_
                  refine Lx.y (eqI rfl rfl) rfl ?_
                  refine Lx.gT rfl rfl rfl ?_
                  refine Lx.y (pickF rfl rfl) rfl ?_
                  refine Lx.y (pickT rfl rfl) rfl ?_
                  refine Lx.y (mv rfl) rfl ?_
                  refine Xx.ifD (t := 56) rfl (fun h38 => ?_) (fun h38 => ?_)
                  · skip
                    refine Lx.gT rfl rfl rfl ?_
                    refine Lx.y (fa' fo26_0 rfl) rfl ?_
                    refine Lx.gT rfl rfl rfl ?_
                    refine Lx.y (ld Tryd.underlying3 rfl rfl rfl) rfl ?_
                    refine Lx.gT rfl rfl rfl ?_
                    refine Lx.y (eqI rfl rfl) rfl ?_
                    refine Lx.gT rfl rfl rfl ?_
                    refine Lx.y (mv rfl) rfl ?_
                    refine Xx.ifD (t := 60) rfl (fun h39 => ?_) (fun h39 => ?_)
                    · skip
                      refine Lx.gF rfl rfl rfl rfl ?_
                      refine Lx.gF rfl rfl rfl rfl ?_
                      refine Lx.gF rfl rfl rfl rfl ?_
                      refine Lx.gF rfl rfl rfl rfl ?_
                      refine Lx.gT rfl rfl rfl ?_
                      refine Lx.y (pickT rfl rfl) rfl ?_
                      refine Lx.y (pickT rfl rfl) rfl ?_
                      refine Lx.y (asg rfl) rfl ?_
                      refine Lx.nil ?_
                      refine Xx.tn (k4 _ _ _ _ ?_)
                      refine Cx.ret ?_
                      refine Xx.dropB b1 (Xx.rB1 rfl rfl ⟨congrArg Value.bool ?_, rfl⟩ (Frag.le_refl _) rfl)
                      first | exact (decide_eq_false (by unfold BareP; grind)).symm | exact (decide_eq_true (by unfold BareP; grind)).symm | exact decide_eq_decide.2 (by unfold BareP; grind)
                    · skip
                      refine Lx.gT rfl rfl rfl ?_
                      refine Lx.y (fa' fo26_5 rfl) rfl ?_
                      refine Lx.gT rfl rfl rfl ?_
                      refine Lx.y (ld Tryd.underlying24 rfl rfl rfl) rfl ?_
                      refine Lx.gT rfl rfl rfl ?_
                      refine Lx.y (lenV (ty' := 0) Tryd.underlying24 rfl) rfl ?_
                      refine Lx.gT rfl rfl rfl ?_
                      refine Lx.y (eqI rfl rfl) rfl ?_
                      refine Lx.gT rfl rfl rfl ?_
                      refine Lx.y (pickF rfl rfl) rfl ?_
                      refine Lx.y (pickT rfl rfl) rfl ?_
                      refine Lx.y (asg rfl) rfl ?_
                      refine Lx.nil ?_
                      refine Xx.tn (k4 _ _ _ _ ?_)
                      refine Cx.ret ?_
                      refine Xx.dropB b1 (Xx.rB1 rfl rfl ⟨congrArg Value.bool ?_, rfl⟩ (Frag.le_refl _) rfl)
                      first | exact (decide_eq_false (by unfold BareP; grind)).symm | exact (decide_eq_true (by unfold BareP; grind)).symm | exact decide_eq_decide.2 (by unfold BareP; grind)
                  · skip
                    refine Lx.gF rfl rfl rfl rfl ?_
                    refine Lx.gF rfl rfl rfl rfl ?_
                    refine Lx.gF rfl rfl rfl rfl ?_
                    refine Lx.gF rfl rfl rfl rfl ?_
                    refine Lx.gU rfl rfl rfl rfl ?_
                    refine Lx.gU rfl rfl rfl rfl ?_
                    refine Lx.gU rfl rfl rfl rfl ?_
                    refine Lx.gU rfl rfl rfl rfl ?_
                    refine Lx.gF rfl rfl rfl rfl ?_
                    refine Lx.y (pickF rfl rfl) rfl ?_
                    refine Lx.y (asg rfl) rfl ?_
                    refine Lx.nil ?_
                    refine Xx.tn (k4 _ _ _ _ ?_)
                    refine Cx.ret ?_
                    refine Xx.dropB b1 (Xx.rB1 rfl rfl ⟨congrArg Value.bool ?_, rfl⟩ (Frag.le_refl _) rfl)
                    first | exact (decide_eq_false (by unfold BareP; grind)).symm | exact (decide_eq_true (by unfold BareP; grind)).symm | exact decide_eq_decide.2 (by unfold BareP; grind)
              · skip
                refine Lx.gF rfl rfl rfl rfl ?_
                refine Lx.gF rfl rfl rfl rfl ?_
                refine Lx.gU rfl rfl rfl rfl ?_
                refine Lx.gU rfl rfl rfl rfl ?_
                refine Lx.gU rfl rfl rfl rfl ?_
                refine Lx.gU rfl rfl rfl rfl ?_
                refine Lx.gF rfl rfl rfl rfl ?_
                refine Lx.y (pickF rfl rfl) rfl ?_
                refine Lx.y (mv rfl) rfl ?_
                refine Lx.gF rfl rfl rfl rfl ?_
                refine Lx.gF rfl rfl rfl rfl ?_
                refine Lx.gF rfl rfl rfl rfl ?_
                refine Lx.gF rfl rfl rfl rfl ?_
                refine Lx.gU rfl rfl rfl rfl ?_
                refine Lx.gU rfl rfl rfl rfl ?_
                refine Lx.gU rfl rfl rfl rfl ?_
                refine Lx.gU rfl rfl rfl rfl ?_
                refine Lx.gF rfl rfl rfl rfl ?_
                refine Lx.y (pickF rfl rfl) rfl ?_
                refine Lx.y (asg rfl) rfl ?_
                refine Lx.nil ?_
                refine Xx.tn (k4 _ _ _ _ ?_)
                refine Cx.ret ?_
                refine Xx.dropB b1 (Xx.rB1 rfl rfl ⟨congrArg Value.bool ?_, rfl⟩ (Frag.le_refl _) rfl)
                first | exact (decide_eq_false (by unfold BareP; grind)).symm | exact (decide_eq_true (by unfold BareP; grind)).symm | exact decide_eq_decide.2 (by unfold BareP; grind)
          · skip
            refine Lx.gT rfl rfl rfl ?_
            refine Lx.y (fa' fo26_2 rfl) rfl ?_
            refine Lx.gT rfl rfl rfl ?_
            refine Lx.y (ld Tryd.underlying2 rfl rfl rfl) rfl ?_
            refine Lx.gT rfl rfl rfl ?_
            refine Lx.y (eqI rfl rfl) rfl ?_
            refine Lx.gT rfl rfl rfl ?_
            refine Lx.y (pickF rfl rfl) rfl ?_
            refine Lx.y (pickT rfl rfl) rfl ?_
            refine Lx.y (mv rfl) rfl ?_
            refine Xx.ifD (t := 39) rfl (fun h40 => ?_) (fun h40 => ?_)
            · skip
              refine Lx.gT rfl rfl rfl ?_
              refine Lx.y (mv rfl) rfl ?_
              refine Lx.gT rfl rfl rfl ?_
              refine Lx.y (mv rfl) rfl ?_
              refine Xx.ifD (t := 41) rfl (fun h41 => ?_) (fun h41 => ?_)
              · skip
                refine Lx.gF rfl rfl rfl rfl ?_
                refine Lx.gF rfl rfl rfl rfl ?_
                refine Lx.gF rfl rfl rfl rfl ?_
                refine Lx.gT rfl rfl rfl ?_
                refine Lx.y (pickT rfl rfl) rfl ?_
                refine Lx.y (pickT rfl rfl) rfl ?_
                refine Lx.y (mv rfl) rfl ?_
                refine Lx.gT rfl rfl rfl ?_
                refine Lx.y (mv rfl) rfl ?_
                refine Lx.gT rfl rfl rfl ?_
                refine Lx.y (mv rfl) rfl ?_
                refine Xx.ifD (t := 49) rfl (fun h42 => ?_) (fun h42 => ?_)
                · skip
                  refine Lx.gF rfl rfl rfl rfl ?_
                  refine Lx.gF rfl rfl rfl rfl ?_
                  refine Lx.gF rfl rfl rfl rfl ?_
                  refine Lx.gF rfl rfl rfl rfl ?_
                  refine Lx.gT rfl rfl rfl ?_
                  refine Lx.y (pickT rfl rfl) rfl ?_
                  refine Lx.y (pickT rfl rfl) rfl ?_
                  refine Lx.y (mv rfl) rfl ?_
                  refine Lx.gT rfl rfl rfl ?_
                  refine Lx.y (fa' fo26_0 rfl) rfl ?_
                  refine Lx.gT rfl rfl rfl ?_
                  refine Lx.y (ld Tryd.underlying3 rfl rfl rfl) rfl ?_
                  refine Lx.gT rfl rfl rfl ?_
                  refine Lx.y (eqI rfl rfl) rfl ?_
                  refine Lx.gT rfl rfl rfl ?_
                  refine Lx.y (mv rfl) rfl ?_
                  refine Xx.ifD (t := 60) rfl (fun h43 => ?_) (fun h43 => ?_)
                  · skip
                    refine Lx.gF rfl rfl rfl rfl ?_
                    refine Lx.gF rfl rfl rfl rfl ?_
                    refine Lx.gF rfl rfl rfl rfl ?_
                    refine Lx.gF rfl rfl rfl rfl ?_
                    refine Lx.gT rfl rfl rfl ?_
                    refine Lx.y (pickT rfl rfl) rfl ?_
                    refine Lx.y (pickT rfl rfl) rfl ?_
                    refine Lx.y (asg rfl) rfl ?_
                    refine Lx.nil ?_
                    refine Xx.tn (k4 _ _ _ _ ?_)
                    refine Cx.ret ?_
                    refine Xx.dropB b1 (Xx.rB1 rfl rfl ⟨congrArg Value.bool ?_, rfl⟩ (Frag.le_refl _) rfl)
                    first | exact (decide_eq_false (by unfold BareP; grind)).symm | exact (decide_eq_true (by unfold BareP; grind)).symm | exact decide_eq_decide.2 (by unfold BareP; grind)
                  · skip
                    refine Lx.gT rfl rfl rfl ?_
                    refine Lx.y (fa' fo26_5 rfl) rfl ?_
                    refine Lx.gT rfl rfl rfl ?_
                    refine Lx.y (ld Tryd.underlying24 rfl rfl rfl) rfl ?_
                    refine Lx.gT rfl rfl rfl ?_
                    refine Lx.y (lenV (ty' := 0) Tryd.underlying24 rfl) rfl ?_
                    refine Lx.gT rfl rfl rfl ?_
                    refine Lx.y (eqI rfl rfl) rfl ?_
                    refine Lx.gT rfl rfl rfl ?_
                    refine Lx.y (pickF rfl rfl) rfl ?_
                    refine Lx.y (pickT rfl rfl) rfl ?_
                    refine Lx.y (asg rfl) rfl ?_
                    refine Lx.nil ?_
                    refine Xx.tn (k4 _ _ _ _ ?_)
                    refine Cx.ret ?_
                    refine Xx.dropB b1 (Xx.rB1 rfl rfl ⟨congrArg Value.bool ?_, rfl⟩ (Frag.le_refl _) rfl)
                    first | exact (decide_eq_false (by unfold BareP; grind)).symm | exact (decide_eq_true (by unfold BareP; grind)).symm | exact decide_eq_decide.2 (by unfold BareP; grind)
                · skip
                  refine Lx.gT rfl rfl rfl ?_
                  refine Lx.y (fa' fo26_4 rfl) rfl ?_
                  refine Lx.gT rfl rfl rfl ?_
                  refine Lx.y (ld Tryd.underlying23 rfl rfl rfl) rfl ?_
                  refine Lx.gT rfl rfl rfl ?_
                  refine Lx.y (lenV (ty' := 0) Tryd.underlying23 rfl) rfl ?_
                  refine Lx.gT rfl rfl rfl ?_
                  refine Lx.y (eqI rfl rfl) rfl ?_
                  refine Lx.gT rfl rfl rfl ?_
                  refine Lx.y (pickF rfl rfl) rfl ?_
                  refine Lx.y (pickT rfl rfl) rfl ?_
                  refine Lx.y (mv rfl) rfl ?_
                  refine Xx.ifD (t := 56) rfl (fun h44 => ?_) (fun h44 => ?_)
                  · skip
                    refine Lx.gT rfl rfl rfl ?_
                    refine Lx.y (fa' fo26_0 rfl) rfl ?_
                    refine Lx.gT rfl rfl rfl ?_
                    refine Lx.y (ld Tryd.underlying3 rfl rfl rfl) rfl ?_
                    refine Lx.gT rfl rfl rfl ?_
                    refine Lx.y (eqI rfl rfl) rfl ?_
                    refine Lx.gT rfl rfl rfl ?_
                    refine Lx.y (mv rfl) rfl ?_
                    refine Xx.ifD (t := 60) rfl (fun h45 => ?_) (fun h45 => ?_)
                    · skip
                      refine Lx.gF rfl rfl rfl rfl ?_
                      refine Lx.gF rfl rfl rfl rfl ?_
                      refine Lx.gF rfl rfl rfl rfl ?_
                      refine Lx.gF rfl rfl rfl rfl ?_
                      refine Lx.gT rfl rfl rfl ?_
                      refine Lx.y (pickT rfl rfl) rfl ?_
                      refine Lx.y (pickT rfl rfl) rfl ?_
                      refine Lx.y (asg rfl) rfl ?_
                      refine Lx.nil ?_
                      refine Xx.tn (k4 _ _ _ _ ?_)
                      refine Cx.ret ?_
                      refine Xx.dropB b1 (Xx.rB1 rfl rfl ⟨congrArg Value.bool ?_, rfl⟩ (Frag.le_refl _) rfl)
                      first | exact (decide_eq_false (by unfold BareP; grind)).symm | exact (decide_eq_true (by unfold BareP; grind)).symm | exact decide_eq_decide.2 (by unfold BareP; grind)
                    · skip
                      refine Lx.gT rfl rfl rfl ?_
                      refine Lx.y (fa' fo26_5 rfl) rfl ?_
                      refine Lx.gT rfl rfl rfl ?_
                      refine Lx.y (ld Tryd.underlying24 rfl rfl rfl) rfl ?_
                      refine Lx.gT rfl rfl rfl ?_
                      refine Lx.y (lenV (ty' := 0) Tryd.underlying24 rfl) rfl ?_
                      refine Lx.gT rfl rfl rfl ?_
                      refine Lx.y (eqI rfl rfl) rfl ?_
                      refine Lx.gT rfl rfl rfl ?_
                      refine Lx.y (pickF rfl rfl) rfl ?_
                      refine Lx.y (pickT rfl rfl) rfl ?_
                      refine Lx.y (asg rfl) rfl ?_
                      refine Lx.nil ?_
                      refine Xx.tn (k4 _ _ _ _ ?_)
                      refine Cx.ret ?_
                      refine Xx.dropB b1 (Xx.rB1 rfl rfl ⟨congrArg Value.bool ?_, rfl⟩ (Frag.le_refl _) rfl)
                      first | exact (decide_eq_false (by unfold BareP; grind)).symm | exact (decide_eq_true (by unfold BareP; grind)).symm | exact decide_eq_decide.2 (by unfold BareP; grind)
                  · skip
                    refine Lx.gF rfl rfl rfl rfl ?_
                    refine Lx.gF rfl rfl rfl rfl ?_
                    refine Lx.gF rfl rfl rfl rfl ?_
                    refine Lx.gF rfl rfl rfl rfl ?_
                    refine Lx.gU rfl rfl rfl rfl ?_
                    refine Lx.gU rfl rfl rfl rfl ?_
                    refine Lx.gU rfl rfl rfl rfl ?_
                    refine Lx.gU rfl rfl rfl rfl ?_
                    refine Lx.gF rfl rfl rfl rfl ?_
                    refine Lx.y (pickF rfl rfl) rfl ?_
                    refine Lx.y (asg rfl) rfl ?_
                    refine Lx.nil ?_
                    refine Xx.tn (k4 _ _ _ _ ?_)
                    refine Cx.ret ?_
                    refine Xx.dropB b1 (Xx.rB1 rfl rfl ⟨congrArg Value.bool ?_, rfl⟩ (Frag.le_refl _) rfl)
                    first | exact (decide_eq_false (by unfold BareP; grind)).symm | exact (decide_eq_true (by unfold BareP; grind)).symm | exact decide_eq_decide.2 (by unfold BareP; grind)
              · skip
                refine Lx.gT rfl rfl rfl ?_
                refine Lx.y (fa' fo26_3 rfl) rfl ?_
                refine Lx.gT rfl rfl rfl ?_
                refine Lx.y (ld Tryd.underlying9 rfl rfl rfl) rfl ?_
                refine Lx.gT rfl rfl rfl ?_
                refine Lx.y (eqS rfl rfl) rfl ?_
                refine Lx.gT rfl rfl rfl ?_
                refine Lx.y (pickF rfl rfl) rfl ?_
                refine Lx.y (pickT rfl rfl) rfl ?_
                refine Lx.y (mv rfl) rfl ?_
                refine Xx.ifD (t := 47) rfl (fun h46 => ?_) (fun h46 => ?_)
                · skip
                  refine Lx.gT rfl rfl rfl ?_
                  refine Lx.y (mv rfl) rfl ?_
                  refine Lx.gT rfl rfl rfl ?_
                  refine Lx.y (mv rfl) rfl ?_
                  refine Xx.ifD (t := 49) rfl (fun h47 => ?_) (fun h47 => ?_)
                  · skip
                    refine Lx.gF rfl rfl rfl rfl ?_
                    refine Lx.gF rfl rfl rfl rfl ?_
                    refine Lx.gF rfl rfl rfl rfl ?_
                    refine Lx.gF rfl rfl rfl rfl ?_
                    refine Lx.gT rfl rfl rfl ?_
                    refine Lx.y (pickT rfl rfl) rfl ?_
                    refine Lx.y (pickT rfl rfl) rfl ?_
                    refine Lx.y (mv rfl) rfl ?_
                    refine Lx.gT rfl rfl rfl ?_
                    refine Lx.y (fa' fo26_0 rfl) rfl ?_
                    refine Lx.gT rfl rfl rfl ?_
                    refine Lx.y (ld Tryd.underlying3 rfl rfl rfl) rfl ?_
                    refine Lx.gT rfl rfl rfl ?_
                    refine Lx.y (eqI rfl rfl) rfl ?_
                    refine Lx.gT rfl rfl rfl ?_
                    refine Lx.y (mv rfl) rfl ?_
                    refine Xx.ifD (t := 60) rfl (fun h48 => ?_) (fun h48 => ?_)
                    · skip
                      refine Lx.gF rfl rfl rfl rfl ?_
                      refine Lx.gF rfl rfl rfl rfl ?_
                      refine Lx.gF rfl rfl rfl rfl ?_
                      refine Lx.gF rfl rfl rfl rfl ?_
                      refine Lx.gT rfl rfl rfl ?_
                      refine Lx.y (pickT rfl rfl) rfl ?_
                      refine Lx.y (pickT rfl rfl) rfl ?_
                      refine Lx.y (asg rfl) rfl ?_
                      refine Lx.nil ?_
                      refine Xx.tn (k4 _ _ _ _ ?_)
                      refine Cx.ret ?_
                      refine Xx.dropB b1 (Xx.rB1 rfl rfl ⟨congrArg Value.bool ?_, rfl⟩ (Frag.le_refl _) rfl)
                      first | exact (decide_eq_false (by unfold BareP; grind)).symm | exact (decide_eq_true (by unfold BareP; grind)).symm | exact decide_eq_decide.2 (by unfold BareP; grind)
                    · skip
                      refine Lx.gT rfl rfl rfl ?_
                      refine Lx.y (fa' fo26_5 rfl) rfl ?_
                      refine Lx.gT rfl rfl rfl ?_
                      refine Lx.y (ld Tryd.underlying24 rfl rfl rfl) rfl ?_
                      refine Lx.gT rfl rfl rfl ?_
                      refine Lx.y (lenV (ty' := 0) Tryd.underlying24 rfl) rfl ?_
                      refine Lx.gT rfl rfl rfl ?_
                      refine Lx.y (eqI rfl rfl) rfl ?_
                      refine Lx.gT rfl rfl rfl ?_
                      refine Lx.y (pickF rfl rfl) rfl ?_
                      refine Lx.y (pickT rfl rfl) rfl ?_
                      refine Lx.y (asg rfl) rfl ?_
                      refine Lx.nil ?_
                      refine Xx.tn (k4 _ _ _ _ ?_)
                      refine Cx.ret ?_
                      refine Xx.dropB b1 (Xx.rB1 rfl rfl ⟨congrArg Value.bool ?_, rfl⟩ (Frag.le_refl _) rfl)
                      first | exact (decide_eq_false (by unfold BareP; grind)).symm | exact (decide_eq_true (by unfold BareP; grind)).symm | exact decide_eq_decide.2 (by unfold BareP; grind)
                  · skip
                    refine Lx.gT rfl rfl rfl ?_
                    refine Lx.y (fa' fo26_4 rfl) rfl ?_
                    refine Lx.gT rfl rfl rfl ?_
                    refine Lx.y (ld Tryd.underlying23 rfl rfl rfl) rfl ?_
                    refine Lx.gT rfl rfl rfl ?_
                    refine Lx.y (lenV (ty' := 0) Tryd.underlying23 rfl) rfl ?_
                    refine Lx.gT rfl rfl rfl ?_
                    refine Lx.y (eqI rfl rfl) rfl ?_
                    refine Lx.gT rfl rfl rfl ?_
                    refine Lx.y (pickF rfl rfl) rfl ?_
                    refine Lx.y (pickT rfl rfl) rfl ?_
                    refine Lx.y (mv rfl) rfl ?_
                    refine Xx.ifD (t := 56) rfl (fun h49 => ?_) (fun h49 => ?_)
                    · skip
                      refine Lx.gT rfl rfl rfl ?_
                      refine Lx.y (fa' fo26_0 rfl) rfl ?_
                      refine Lx.gT rfl rfl rfl ?_
                      refine Lx.y (ld Tryd.underlying3 rfl rfl rfl) rfl ?_
                      refine Lx.gT rfl rfl rfl ?_
                      refine Lx.y (eqI rfl rfl) rfl ?_
                      refine Lx.gT rfl rfl rfl ?_
                      refine Lx.y (mv rfl) rfl ?_
                      refine Xx.ifD (t := 60) rfl (fun h50 => ?_) (fun h50 => ?_)
                      · skip
                        refine Lx.gF rfl rfl rfl rfl ?_
                        refine Lx.gF rfl rfl rfl rfl ?_
                        refine Lx.gF rfl rfl rfl rfl ?_
                        refine Lx.gF rfl rfl rfl rfl ?_
                        refine Lx.gT rfl rfl rfl ?_
                        refine Lx.y (pickT rfl rfl) rfl ?_
                        refine Lx.y (pickT rfl rfl) rfl ?_
                        refine Lx.y (asg rfl) rfl ?_
                        refine Lx.nil ?_
                        refine Xx.tn (k4 _ _ _ _ ?_)
                        refine Cx.ret ?_
                        refine Xx.dropB b1 (Xx.rB1 rfl rfl ⟨congrArg Value.bool ?_, rfl⟩ (Frag.le_refl _) rfl)
                        first | exact (decide_eq_false (by unfold BareP; grind)).symm | exact (decide_eq_true (by unfold BareP; grind)).symm | exact decide_eq_decide.2 (by unfold BareP; grind)
                      · skip
                        refine Lx.gT rfl rfl rfl ?_
                        refine Lx.y (fa' fo26_5 rfl) rfl ?_
                        refine Lx.gT rfl rfl rfl ?_
                        refine Lx.y (ld Tryd.underlying24 rfl rfl rfl) rfl ?_
                        refine Lx.gT rfl rfl rfl ?_
                        refine Lx.y (lenV (ty' := 0) Tryd.underlying24 rfl) rfl ?_
                        refine Lx.gT rfl rfl rfl ?_
                        refine Lx.y (eqI rfl rfl) rfl ?_
                        refine Lx.gT rfl rfl rfl ?_
                        refine Lx.y (pickF rfl rfl) rfl ?_
                        refine Lx.y (pickT rfl rfl) rfl ?_
                        refine Lx.y (asg rfl) rfl ?_
                        refine Lx.nil ?_
                        refine Xx.tn (k4 _ _ _ _ ?_)
                        refine Cx.ret ?_
                        refine Xx.dropB b1 (Xx.rB1 rfl rfl ⟨congrArg Value.bool ?_, rfl⟩ (Frag.le_refl _) rfl)
                        first | exact (decide_eq_false (by unfold BareP; grind)).symm | exact (decide_eq_true (by unfold BareP; grind)).symm | exact decide_eq_decide.2 (by unfold BareP; grind)
                    · skip
                      refine Lx.gF rfl rfl rfl rfl ?_
                      refine Lx.gF rfl rfl rfl rfl ?_
                      refine Lx.gF rfl rfl rfl rfl ?_
                      refine Lx.gF rfl rfl rfl rfl ?_
                      refine Lx.gU rfl rfl rfl rfl ?_
                      refine Lx.gU rfl rfl rfl rfl ?_
                      refine Lx.gU rfl rfl rfl rfl ?_
                      refine Lx.gU rfl rfl rfl rfl ?_
                      refine Lx.gF rfl rfl rfl rfl ?_
                      refine Lx.y (pickF rfl rfl) rfl ?_
                      refine Lx.y (asg rfl) rfl ?_
                      refine Lx.nil ?_
                      refine Xx.tn (k4 _ _ _ _ ?_)
                      refine Cx.ret ?_
                      refine Xx.dropB b1 (Xx.rB1 rfl rfl ⟨congrArg Value.bool ?_, rfl⟩ (Frag.le_refl _) rfl)
                      first | exact (decide_eq_false (by unfold BareP; grind)).symm | exact (decide_eq_true (by unfold BareP; grind)).symm | exact decide_eq_decide.2 (by unfold BareP; grind)
                · skip
                  refine Lx.gF rfl rfl rfl rfl ?_
                  refine Lx.gF rfl rfl rfl rfl ?_
                  refine Lx.gU rfl rfl rfl rfl ?_
                  refine Lx.gU rfl rfl rfl rfl ?_
                  refine Lx.gU rfl rfl rfl rfl ?_
                  refine Lx.gU rfl rfl rfl rfl ?_
                  refine Lx.gF rfl rfl rfl rfl ?_
                  refine Lx.y (pickF rfl rfl) rfl ?_
                  refine Lx.y (mv rfl) rfl ?_
                  refine Lx.gF rfl rfl rfl rfl ?_
                  refine Lx.gF rfl rfl rfl rfl ?_
                  refine Lx.gF rfl rfl rfl rfl ?_
                  refine Lx.gF rfl rfl rfl rfl ?_
                  refine Lx.gU rfl rfl rfl rfl ?_
                  refine Lx.gU rfl rfl rfl rfl ?_
                  refine Lx.gU rfl rfl rfl rfl ?_
                  refine Lx.gU rfl rfl rfl rfl ?_
                  refine Lx.gF rfl rfl rfl rfl ?_
                  refine Lx.y (pickF rfl rfl) rfl ?_
                  refine Lx.y (asg rfl) rfl ?_
                  refine Lx.nil ?_
                  refine Xx.tn (k4 _ _ _ _ ?_)
                  refine Cx.ret ?_
                  refine Xx.dropB b1 (Xx.rB1 rfl rfl ⟨congrArg Value.bool ?_, rfl⟩ (Frag.le_refl _) rfl)
                  first | exact (decide_eq_false (by unfold BareP; grind)).symm | exact (decide_eq_true (by unfold BareP; grind)).symm | exact decide_eq_decide.2 (by unfold BareP; grind)
            · skip
              refine Lx.gF rfl rfl rfl rfl ?_
              refine Lx.gF rfl rfl rfl rfl ?_
              refine Lx.gU rfl rfl rfl rfl ?_
              refine Lx.gU rfl rfl rfl rfl ?_
              refine Lx.gU rfl rfl rfl rfl ?_
              refine Lx.gF rfl rfl rfl rfl ?_
              refine Lx.y (pickF rfl rfl) rfl ?_
              refine Lx.y (mv rfl) rfl ?_
              refine Lx.gF rfl rfl rfl rfl ?_
              refine Lx.gF rfl rfl rfl rfl ?_
              refine Lx.gU rfl rfl rfl rfl ?_
              refine Lx.gU rfl rfl rfl rfl ?_
              refine Lx.gU rfl rfl rfl rfl ?_
              refine Lx.gU rfl rfl rfl rfl ?_
              refine Lx.gF rfl rfl rfl rfl ?_
              refine Lx.y (pickF rfl rfl) rfl ?_
              refine Lx.y (mv rfl) rfl ?_
              refine Lx.gF rfl rfl rfl rfl ?_
              refine Lx.gF rfl rfl rfl rfl ?_
              refine Lx.gF rfl rfl rfl rfl ?_
              refine Lx.gF rfl rfl rfl rfl ?_
              refine Lx.gU rfl rfl rfl rfl ?_
              refine Lx.gU rfl rfl rfl rfl ?_
              refine Lx.gU rfl rfl rfl rfl ?_
              refine Lx.gU rfl rfl rfl rfl ?_
              refine Lx.gF rfl rfl rfl rfl ?_
              refine Lx.y (pickF rfl rfl) rfl ?_
              refine Lx.y (asg rfl) rfl ?_
              refine Lx.nil ?_
              refine Xx.tn (k4 _ _ _ _ ?_)
              refine Cx.ret ?_
              refine Xx.dropB b1 (Xx.rB1 rfl rfl ⟨congrArg Value.bool ?_, rfl⟩ (Frag.le_refl _) rfl)
              first | exact (decide_eq_false (by unfold BareP; grind)).symm | exact (decide_eq_true (by unfold BareP; grind)).symm | exact decide_eq_decide.2 (by unfold BareP; grind)
        · skip
          refine Lx.gF rfl rfl rfl rfl ?_
          refine Lx.gF rfl rfl rfl rfl ?_
          refine Lx.gF rfl rfl rfl rfl ?_
          refine Lx.gF rfl rfl rfl rfl ?_
          refine Lx.gU rfl rfl rfl rfl ?_
          refine Lx.gU rfl rfl rfl rfl ?_
          refine Lx.gU rfl rfl rfl rfl ?_
          refine Lx.gF rfl rfl rfl rfl ?_
          refine Lx.y (pickF rfl rfl) rfl ?_
          refine Lx.y (mv rfl) rfl ?_
          refine Lx.gF rfl rfl rfl rfl ?_
          refine Lx.gF rfl rfl rfl rfl ?_
          refine Lx.gU rfl rfl rfl rfl ?_
          refine Lx.gU rfl rfl rfl rfl ?_
          refine Lx.gU rfl rfl rfl rfl ?_
          refine Lx.gF rfl rfl rfl rfl ?_
          refine Lx.y (pickF rfl rfl) rfl ?_
          refine Lx.y (mv rfl) rfl ?_
          refine Lx.gF rfl rfl rfl rfl ?_
          refine Lx.gF rfl rfl rfl rfl ?_
          refine Lx.gU rfl rfl rfl rfl ?_
          refine Lx.gU rfl rfl rfl rfl ?_
          refine Lx.gU rfl rfl rfl rfl ?_
          refine Lx.gU rfl rfl rfl rfl ?_
          refine Lx.gF rfl rfl rfl rfl ?_
          refine Lx.y (pickF rfl rfl) rfl ?_
          refine Lx.y (mv rfl) rfl ?_
          refine Lx.gF rfl rfl rfl rfl ?_
          refine Lx.gF rfl rfl rfl rfl ?_
          refine Lx.gF rfl rfl rfl rfl ?_
          refine Lx.gF rfl rfl rfl rfl ?_
          refine Lx.gU rfl rfl rfl rfl ?_
          refine Lx.gU rfl rfl rfl rfl ?_
          refine Lx.gU rfl rfl rfl rfl ?_
          refine Lx.gU rfl rfl rfl rfl ?_
          refine Lx.gF rfl rfl rfl rfl ?_
          refine Lx.y (pickF rfl rfl) rfl ?_
          refine Lx.y (asg rfl) rfl ?_
          refine Lx.nil ?_
          refine Xx.tn (k4 _ _ _ _ ?_)
          refine Cx.ret ?_
          refine Xx.dropB b1 (Xx.rB1 rfl rfl ⟨congrArg Value.bool ?_, rfl⟩ (Frag.le_refl _) rfl)
          first | exact (decide_eq_false (by unfold BareP; grind)).symm | exact (decide_eq_true (by unfold BareP; grind)).symm | exact decide_eq_decide.2 (by unfold BareP; grind)
end Ke6
end Go.Proofs.YtfnfkoldifpmhaaDoor
