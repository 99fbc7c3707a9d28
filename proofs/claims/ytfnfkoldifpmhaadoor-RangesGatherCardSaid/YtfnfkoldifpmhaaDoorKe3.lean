/-
  The walks of what a span has, and of the law of spans.
-/
import Derived.Test.YtfnfkoldifpmhaaDoorProg
import Derived.Test.YtfnfkoldifpmhaaDoorSlj
import Derived.Test.YtfnfkoldifpmhaaDoorKe1
namespace Go.Proofs.YtfnfkoldifpmhaaDoor
open Go.SL Go.RowKit
set_option linter.unusedVariables false
set_option linter.unusedSimpArgs false
set_option maxRecDepth 100000
open Ke1
namespace Ke3
theorem fo34_0 : FO Tryd.prog 34 0 0 1 false := FO.of Tryd.underlying34 rfl rfl (by kernel_rfl) Tryd.underlying9 rfl rfl
theorem fo34_1 : FO Tryd.prog 34 1 1 1 false := FO.of Tryd.underlying34 rfl rfl (by kernel_rfl) Tryd.underlying9 rfl rfl

def spV (lo hi : List UInt8) : Value := .agg [str lo, str hi].toArray
def hasB (lo hi k : List UInt8) : Bool := !bless k lo && (decide (hi = []) || bless k hi)
def emptyB (lo hi : List UInt8) : Bool := !decide (hi = []) && !bless lo hi
def maxL (a b : List UInt8) : List UInt8 := if bless a b then b else a
def meetHi (h1 h2 : List UInt8) : List UInt8 := if h1 = [] then h2 else if h2 = [] then h1 else if bless h2 h1 then h2 else h1
theorem bless_irrefl (a : List UInt8) : bless a a = false := by
  induction a with
  | nil => rfl
  | cons x a ih => rw [bless_cons, ih]; simp
theorem bless_total {a b : List UInt8} (h1 : bless a b = false) (h2 : bless b a = false) : a = b := by
  induction a generalizing b with
  | nil => cases b with
    | nil => rfl
    | cons y b => cases h1
  | cons x a ih =>
    cases b with
    | nil => cases h2
    | cons y b =>
      rw [bless_cons] at h1 h2
      simp at h1 h2
      have e : x = y := UInt8.le_antisymm h2.1 h1.1
      subst e
      rw [ih (by simpa using h1.2 rfl) (by simpa using h2.2 rfl)]
theorem bless_trans {a b c : List UInt8} (h1 : bless a b = true) (h2 : bless b c = true) : bless a c = true := by
  induction a generalizing b c with
  | nil => cases c with
    | nil => rw [bless_nil] at h2; cases h2
    | cons z c => rfl
  | cons x a ih =>
    cases b with
    | nil => cases h1
    | cons y b =>
      cases c with
      | nil => cases h2
      | cons z c =>
        rw [bless_cons] at *
        simp at *
        rcases h1 with h1 | ⟨rfl, h1⟩ <;> rcases h2 with h2 | ⟨rfl, h2⟩
        · exact .inl (UInt8.lt_trans h1 h2)
        · exact .inl h1
        · exact .inl h2
        · exact .inr ⟨rfl, ih h1 h2⟩
/-- not less than the greater: than neither -/
theorem bless_max (a b k : List UInt8) : bless k (maxL a b) = (bless k a || bless k b) := by
  unfold maxL
  cases h : bless a b with
  | true =>
    simp only [if_true]
    cases hk : bless k a with
    | true => rw [bless_trans hk h]; rfl
    | false => simp
  | false =>
    simp only [Bool.false_eq_true, if_false]
    cases hk : bless k b with
    | true =>
      cases hb : bless b a with
      | true => rw [bless_trans hk hb]; rfl
      | false => rw [bless_total h hb, hk]; rfl
    | false => simp
theorem bless_min (a b k : List UInt8) : bless k (if bless b a = true then b else a) = (bless k a && bless k b) := by
  cases h : bless b a with
  | true =>
    simp only [if_true]
    cases hk : bless k b with
    | true => rw [bless_trans hk h]; rfl
    | false => simp
  | false =>
    simp only [Bool.false_eq_true, if_false]
    cases hk : bless k a with
    | true =>
      cases hb : bless a b with
      | true => rw [bless_trans hk hb]; rfl
      | false => rw [← bless_total hb h, hk]; rfl
    | false => simp
theorem meet_has (l1 h1 l2 h2 k : List UInt8) : hasB (maxL l1 l2) (meetHi h1 h2) k = (hasB l1 h1 k && hasB l2 h2 k) := by
  have e : (decide (meetHi h1 h2 = []) || bless k (meetHi h1 h2)) = ((decide (h1 = []) || bless k h1) && (decide (h2 = []) || bless k h2)) := by
    unfold meetHi
    by_cases c1 : h1 = []
    · subst c1; simp
    · by_cases c2 : h2 = []
      · subst c2; simp [c1]
      · rw [if_neg c1, if_neg c2, bless_min]
        have c3 : ¬ (if bless h2 h1 = true then h2 else h1) = [] := by split <;> assumption
        simp [c1, c2, c3]
  unfold hasB
  rw [e, bless_max]
  cases bless k l1 <;> cases bless k l2 <;> simp
theorem empty_has {lo hi k : List UInt8} (h : emptyB lo hi = true) : hasB lo hi k = false := by
  unfold emptyB at h
  unfold hasB
  simp at h
  cases hk : bless k lo with
  | true => rfl
  | false =>
    simp [h.1]
    cases hh : bless k hi with
    | false => rfl
    | true =>
      cases hb : bless hi lo with
      | true => rw [bless_trans hh hb] at hk; cases hk
      | false => rw [← bless_total hb h.2] at hk; rw [hk] at hh; cases hh
theorem has_low {lo hi : List UInt8} (h : emptyB lo hi = false) : hasB lo hi lo = true := by
  unfold emptyB at h
  unfold hasB
  rw [bless_irrefl]
  by_cases c : hi = []
  · simp [c]
  · simp [c] at h ⊢
    exact h
theorem maxS {P : Program} {S : World → Prop} {ρ : Sl} {x y : Operand} {t t2 ty : TypeId} {a b : List UInt8} (hx : ev ρ x = some (str a)) (hy : ev ρ y = some (str b)) :
    Yx P (.call { callee := .builtin .max, args := #[x, y], argTypes := #[t, t2] }) ty ρ S (str (maxL a b)) := .of (fun _ h => by cases h) fun f w _ _ _ _ he _ => by
  have h1 := he _ _ hx
  have h2 := he _ _ hy
  have hg : (Op.stringOp .geq (⟨a.toArray⟩ : ByteArray) ⟨b.toArray⟩).run P w = .ok (.bool (!bless a b)) w := by
    simp only [Op.stringOp, ByteArray.toList_mk]
    simp [Sem.run_pure]
  unfold maxL
  cases hb : bless a b <;> rw [hb] at hg <;> simp_all [asBool, hg, execOp, resolve, invoke, builtin, Builtin.max_, Builtin.max2, Sem.run_bind, Sem.run_pure, Result.andThen, ByteArray.toList_mk]

set_option maxHeartbeats 1000000 in
theorem Has_ct (lo hi k : List UInt8) (B : Frag) : CtP Tryd.prog 43 [spV lo hi, str k] B (.bool (hasB lo hi k)) := by
  refine CtB.of_body Tryd.func43 rfl (nt := 20) rfl (by kernel_rfl) rfl ?_
  intro N0 w0 R
  refine Cx.seq (fun K1 k1 => ?_)
  refine Cx.region ?_
  refine Lx.new (boxA rfl) rfl (fun b2 => ?_)
  refine Lx.y (asg rfl) rfl ?_
  refine Lx.nil ?_
  refine Xx.tn (k1 _ _ _ _ ?_)
  refine Cx.seq (fun K2 k2 => ?_)
  refine Cx.region ?_
  refine Lx.y (mv rfl) rfl ?_
  refine Lx.y (fa' fo34_0 rfl) rfl ?_
  refine Lx.y (ld Tryd.underlying9 rfl rfl rfl) rfl ?_
  refine Lx.y (geqS rfl rfl) rfl ?_
  refine Lx.y (mv rfl) rfl ?_
  refine Xx.ifB (t := 9) rfl (fun h3 => ?_) (fun h3 => ?_)
  · skip
    have z1 := h3
    refine Lx.gT rfl rfl rfl ?_
    refine Lx.y (fa' fo34_1 rfl) rfl ?_
    refine Lx.gT rfl rfl rfl ?_
    refine Lx.y (ld Tryd.underlying9 rfl rfl rfl) rfl ?_
    refine Lx.gT rfl rfl rfl ?_
    refine Lx.y (eqS rfl rfl) rfl ?_
    refine Lx.gT rfl rfl rfl ?_
    refine Lx.y (mv rfl) rfl ?_
    refine Xx.ifD (t := 13) rfl (fun h4 => ?_) (fun h4 => ?_)
    · skip
      have hz : hasB lo hi k = true := by unfold hasB; rw [z1, decide_eq_true h4]; rfl
      refine Lx.gF rfl rfl rfl rfl ?_
      refine Lx.gF rfl rfl rfl rfl ?_
      refine Lx.gF rfl rfl rfl rfl ?_
      refine Lx.gF rfl rfl rfl rfl ?_
      refine Lx.gT rfl rfl rfl ?_
      refine Lx.y (pickT rfl rfl) rfl ?_
      refine Lx.y (pickT rfl rfl) rfl ?_
      refine Lx.y (asg rfl) rfl ?_
      refine Lx.nil ?_
      refine Xx.tn (k2 _ _ _ _ ?_)
      refine Cx.ret ?_
      exact Xx.dropB b2 (Xx.rB1 rfl rfl ⟨congrArg Value.bool hz.symm, rfl⟩ (Frag.le_refl _) rfl)
    · skip
      have hz : hasB lo hi k = bless k hi := by unfold hasB; rw [z1, decide_eq_false h4]; simp
      refine Lx.gT rfl rfl rfl ?_
      refine Lx.y (mv rfl) rfl ?_
      refine Lx.gT rfl rfl rfl ?_
      refine Lx.y (fa' fo34_1 rfl) rfl ?_
      refine Lx.gT rfl rfl rfl ?_
      refine Lx.y (ld Tryd.underlying9 rfl rfl rfl) rfl ?_
      refine Lx.gT rfl rfl rfl ?_
      refine Lx.y (lssS rfl rfl) rfl ?_
      refine Lx.gT rfl rfl rfl ?_
      refine Lx.y (pickF rfl rfl) rfl ?_
      refine Lx.y (pickT rfl rfl) rfl ?_
      refine Lx.y (asg rfl) rfl ?_
      refine Lx.nil ?_
      refine Xx.tn (k2 _ _ _ _ ?_)
      refine Cx.ret ?_
      exact Xx.dropB b2 (Xx.rB1 rfl rfl ⟨congrArg Value.bool hz.symm, rfl⟩ (Frag.le_refl _) rfl)
  · skip
    have hz : hasB lo hi k = false := by unfold hasB; rw [h3]; rfl
    refine Lx.gF rfl rfl rfl rfl ?_
    refine Lx.gF rfl rfl rfl rfl ?_
    refine Lx.gF rfl rfl rfl rfl ?_
    refine Lx.gF rfl rfl rfl rfl ?_
    refine Lx.gU rfl rfl rfl rfl ?_
    refine Lx.gU rfl rfl rfl rfl ?_
    refine Lx.gU rfl rfl rfl rfl ?_
    refine Lx.gU rfl rfl rfl rfl ?_
    refine Lx.gF rfl rfl rfl rfl ?_
    refine Lx.y (pickF rfl rfl) rfl ?_
    refine Lx.y (asg rfl) rfl ?_
    refine Lx.nil ?_
    refine Xx.tn (k2 _ _ _ _ ?_)
    refine Cx.ret ?_
    exact Xx.dropB b2 (Xx.rB1 rfl rfl ⟨congrArg Value.bool hz.symm, rfl⟩ (Frag.le_refl _) rfl)
end Ke3
end Go.Proofs.YtfnfkoldifpmhaaDoor
