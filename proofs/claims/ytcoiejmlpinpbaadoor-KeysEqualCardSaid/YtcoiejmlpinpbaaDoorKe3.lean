/-
  The walks of what a span has, and of the law of spans.
-/
import Derived.Test.YtcoiejmlpinpbaaDoorProg
import Derived.Test.YtcoiejmlpinpbaaDoorSlj
import Derived.Test.YtcoiejmlpinpbaaDoorKe2
namespace Go.Proofs.YtcoiejmlpinpbaaDoor
open Go.SL Go.RowKit
set_option linter.unusedVariables false
set_option linter.unusedSimpArgs false
set_option maxRecDepth 100000
open Ke1 Ke2
namespace Ke3
theorem sz9 : (Tryd.prog.info? 9).map (·.size) = some 1 := by kernel_rfl
theorem sz26 : (Tryd.prog.info? 26).map (·.size) = some 2 := by kernel_rfl
theorem ti26 : TI Tryd.prog 26 [str [], str []] 2 32 := TI.of (by kernel_rfl) rfl rfl
theorem fo26_0 : FO Tryd.prog 26 0 0 1 false := FO.of Tryd.underlying26 rfl rfl (by kernel_rfl) Tryd.underlying9 rfl rfl
theorem fo26_1 : FO Tryd.prog 26 1 1 1 false := FO.of Tryd.underlying26 rfl rfl (by kernel_rfl) Tryd.underlying9 rfl rfl
theorem pl26 : PL Tryd.prog 26 [(0, 1), (1, 1)] := PL.of Tryd.underlying26 (by kernel_rfl)

def spV (lo hi : List UInt8) : Value := .agg [str lo, str hi].toArray
def hasB (lo hi k : List UInt8) : Bool := !bless k lo && (decide (hi = []) || bless k hi)
def emptyB (lo hi : List UInt8) : Bool := !decide (hi = []) && !bless lo hi
def maxL (a b : List UInt8) : List UInt8 := if bless a b then b else a
def meetHi (h1 h2 : List UInt8) : List UInt8 := if h1 = [] then h2 else if h2 = [] then h1 else if bless h2 h1 then h2 else h1
theorem bless_irrefl (a : List UInt8) : bless a a = false := by
  induction a with
  | nil => rfl
  | cons x a ih => rw [bless_cons, ih]; simp
theorem bless_total {a b : List UInt8} (h1 : bless a b = false) (h2 : bless b a = false) : a = b := by
  induction a generalizing b with
  | nil => cases b with
    | nil => rfl
    | cons y b => cases h1
  | cons x a ih =>
    cases b with
    | nil => cases h2
    | cons y b =>
      rw [bless_cons] at h1 h2
      simp at h1 h2
      have e : x = y := UInt8.le_antisymm h2.1 h1.1
      subst e
      rw [ih (by simpa using h1.2 rfl) (by simpa using h2.2 rfl)]
theorem bless_trans {a b c : List UInt8} (h1 : bless a b = true) (h2 : bless b c = true) : bless a c = true := by
  induction a generalizing b c with
  | nil => cases c with
    | nil => rw [bless_nil] at h2; cases h2
    | cons z c => rfl
  | cons x a ih =>
    cases b with
    | nil => cases h1
    | cons y b =>
      cases c with
      | nil => cases h2
      | cons z c =>
        rw [bless_cons] at *
        simp at *
        rcases h1 with h1 | ⟨rfl, h1⟩ <;> rcases h2 with h2 | ⟨rfl, h2⟩
        · exact .inl (UInt8.lt_trans h1 h2)
        · exact .inl h1
        · exact .inl h2
        · exact .inr ⟨rfl, ih h1 h2⟩
/-- not less than the greater: than neither -/
theorem bless_max (a b k : List UInt8) : bless k (maxL a b) = (bless k a || bless k b) := by
  unfold maxL
  cases h : bless a b with
  | true =>
    simp only [if_true]
    cases hk : bless k a with
    | true => rw [bless_trans hk h]; rfl
    | false => simp
  | false =>
    simp only [Bool.false_eq_true, if_false]
    cases hk : bless k b with
    | true =>
      cases hb : bless b a with
      | true => rw [bless_trans hk hb]; rfl
      | false => rw [bless_total h hb, hk]; rfl
    | false => simp
theorem bless_min (a b k : List UInt8) : bless k (if bless b a = true then b else a) = (bless k a && bless k b) := by
  cases h : bless b a with
  | true =>
    simp only [if_true]
    cases hk : bless k b with
    | true => rw [bless_trans hk h]; rfl
    | false => simp
  | false =>
    simp only [Bool.false_eq_true, if_false]
    cases hk : bless k a with
    | true =>
      cases hb : bless a b with
      | true => rw [bless_trans hk hb]; rfl
      | false => rw [← bless_total hb h, hk]; rfl
    | false => simp
theorem meet_has (l1 h1 l2 h2 k : List UInt8) : hasB (maxL l1 l2) (meetHi h1 h2) k = (hasB l1 h1 k && hasB l2 h2 k) := by
  have e : (decide (meetHi h1 h2 = []) || bless k (meetHi h1 h2)) = ((decide (h1 = []) || bless k h1) && (decide (h2 = []) || bless k h2)) := by
    unfold meetHi
    by_cases c1 : h1 = []
    · subst c1; simp
    · by_cases c2 : h2 = []
      · subst c2; simp [c1]
      · rw [if_neg c1, if_neg c2, bless_min]
        have c3 : ¬ (if bless h2 h1 = true then h2 else h1) = [] := by split <;> assumption
        simp [c1, c2, c3]
  unfold hasB
  rw [e, bless_max]
  cases bless k l1 <;> cases bless k l2 <;> simp
theorem empty_has {lo hi k : List UInt8} (h : emptyB lo hi = true) : hasB lo hi k = false := by
  unfold emptyB at h
  unfold hasB
  simp at h
  cases hk : bless k lo with
  | true => rfl
  | false =>
    simp [h.1]
    cases hh : bless k hi with
    | false => rfl
    | true =>
      cases hb : bless hi lo with
      | true => rw [bless_trans hh hb] at hk; cases hk
      | false => rw [← bless_total hb h.2] at hk; rw [hk] at hh; cases hh
theorem has_low {lo hi : List UInt8} (h : emptyB lo hi = false) : hasB lo hi lo = true := by
  unfold emptyB at h
  unfold hasB
  rw [bless_irrefl]
  by_cases c : hi = []
  · simp [c]
  · simp [c] at h ⊢
    exact h
theorem maxS {P : Program} {S : World → Prop} {ρ : Sl} {x y : Operand} {t t2 ty : TypeId} {a b : List UInt8} (hx : ev ρ x = some (str a)) (hy : ev ρ y = some (str b)) :
    Yx P (.call { callee := .builtin .max, args := #[x, y], argTypes := #[t, t2] }) ty ρ S (str (maxL a b)) := .of (fun _ h => by cases h) fun f w _ _ _ _ he _ => by
  have h1 := he _ _ hx
  have h2 := he _ _ hy
  have hg : (Op.stringOp .geq (⟨a.toArray⟩ : ByteArray) ⟨b.toArray⟩).run P w = .ok (.bool (!bless a b)) w := by
    simp only [Op.stringOp, ByteArray.toList_mk]
    simp [Sem.run_pure]
  unfold maxL
  cases hb : bless a b <;> rw [hb] at hg <;> simp_all [asBool, hg, execOp, resolve, invoke, builtin, Builtin.max_, Builtin.max2, Sem.run_bind, Sem.run_pure, Result.andThen, ByteArray.toList_mk]

set_option maxHeartbeats 1000000 in
theorem Has_ct (lo hi k : List UInt8) (B : Frag) : CtP Tryd.prog 12 [spV lo hi, str k] B (.bool (hasB lo hi k)) := by
  refine CtB.of_body Tryd.func12 rfl (nt := 20) rfl (by kernel_rfl) rfl ?_
  intro N0 w0 R
  refine Cx.seq (fun K1 k1 => ?_)
  refine Cx.region ?_
  refine Lx.new (boxA rfl) rfl (fun b2 => ?_)
  refine Lx.y (asg rfl) rfl ?_
  refine Lx.nil ?_
  refine Xx.tn (k1 _ _ _ _ ?_)
  refine Cx.seq (fun K2 k2 => ?_)
  refine Cx.region ?_
  refine Lx.y (mv rfl) rfl ?_
  refine Lx.y (fa' fo26_0 rfl) rfl ?_
  refine Lx.y (ld Tryd.underlying9 rfl rfl rfl) rfl ?_
  refine Lx.y (geqS rfl rfl) rfl ?_
  refine Lx.y (mv rfl) rfl ?_
  refine Xx.ifB (t := 9) rfl (fun h3 => ?_) (fun h3 => ?_)
  · skip
    have z1 := h3
    refine Lx.gT rfl rfl rfl ?_
    refine Lx.y (fa' fo26_1 rfl) rfl ?_
    refine Lx.gT rfl rfl rfl ?_
    refine Lx.y (ld Tryd.underlying9 rfl rfl rfl) rfl ?_
    refine Lx.gT rfl rfl rfl ?_
    refine Lx.y (eqS rfl rfl) rfl ?_
    refine Lx.gT rfl rfl rfl ?_
    refine Lx.y (mv rfl) rfl ?_
    refine Xx.ifD (t := 13) rfl (fun h4 => ?_) (fun h4 => ?_)
    · skip
      have hz : hasB lo hi k = true := by unfold hasB; rw [z1, decide_eq_true h4]; rfl
      refine Lx.gF rfl rfl rfl rfl ?_
      refine Lx.gF rfl rfl rfl rfl ?_
      refine Lx.gF rfl rfl rfl rfl ?_
      refine Lx.gF rfl rfl rfl rfl ?_
      refine Lx.gT rfl rfl rfl ?_
      refine Lx.y (pickT rfl rfl) rfl ?_
      refine Lx.y (pickT rfl rfl) rfl ?_
      refine Lx.y (asg rfl) rfl ?_
      refine Lx.nil ?_
      refine Xx.tn (k2 _ _ _ _ ?_)
      refine Cx.ret ?_
      exact Xx.dropB b2 (Xx.rB1 rfl rfl ⟨congrArg Value.bool hz.symm, rfl⟩ (Frag.le_refl _) rfl)
    · skip
      have hz : hasB lo hi k = bless k hi := by unfold hasB; rw [z1, decide_eq_false h4]; simp
      refine Lx.gT rfl rfl rfl ?_
      refine Lx.y (mv rfl) rfl ?_
      refine Lx.gT rfl rfl rfl ?_
      refine Lx.y (fa' fo26_1 rfl) rfl ?_
      refine Lx.gT rfl rfl rfl ?_
      refine Lx.y (ld Tryd.underlying9 rfl rfl rfl) rfl ?_
      refine Lx.gT rfl rfl rfl ?_
      refine Lx.y (lssS rfl rfl) rfl ?_
      refine Lx.gT rfl rfl rfl ?_
      refine Lx.y (pickF rfl rfl) rfl ?_
      refine Lx.y (pickT rfl rfl) rfl ?_
      refine Lx.y (asg rfl) rfl ?_
      refine Lx.nil ?_
      refine Xx.tn (k2 _ _ _ _ ?_)
      refine Cx.ret ?_
      exact Xx.dropB b2 (Xx.rB1 rfl rfl ⟨congrArg Value.bool hz.symm, rfl⟩ (Frag.le_refl _) rfl)
  · skip
    have hz : hasB lo hi k = false := by unfold hasB; rw [h3]; rfl
    refine Lx.gF rfl rfl rfl rfl ?_
    refine Lx.gF rfl rfl rfl rfl ?_
    refine Lx.gF rfl rfl rfl rfl ?_
    refine Lx.gF rfl rfl rfl rfl ?_
    refine Lx.gU rfl rfl rfl rfl ?_
    refine Lx.gU rfl rfl rfl rfl ?_
    refine Lx.gU rfl rfl rfl rfl ?_
    refine Lx.gU rfl rfl rfl rfl ?_
    refine Lx.gF rfl rfl rfl rfl ?_
    refine Lx.y (pickF rfl rfl) rfl ?_
    refine Lx.y (asg rfl) rfl ?_
    refine Lx.nil ?_
    refine Xx.tn (k2 _ _ _ _ ?_)
    refine Cx.ret ?_
    exact Xx.dropB b2 (Xx.rB1 rfl rfl ⟨congrArg Value.bool hz.symm, rfl⟩ (Frag.le_refl _) rfl)

set_option maxHeartbeats 1000000 in
theorem Empty_ct (lo hi : List UInt8) (B : Frag) : CtP Tryd.prog 13 [spV lo hi] B (.bool (emptyB lo hi)) := by
  refine CtB.of_body Tryd.func13 rfl (nt := 13) rfl (by kernel_rfl) rfl ?_
  intro N0 w0 R
  refine Cx.seq (fun K1 k1 => ?_)
  refine Cx.region ?_
  refine Lx.new (boxA rfl) rfl (fun b2 => ?_)
  refine Lx.y (asg rfl) rfl ?_
  refine Lx.nil ?_
  refine Xx.tn (k1 _ _ _ _ ?_)
  refine Cx.seq (fun K2 k2 => ?_)
  refine Cx.region ?_
  refine Lx.y (fa' fo26_1 rfl) rfl ?_
  refine Lx.y (ld Tryd.underlying9 rfl rfl rfl) rfl ?_
  refine Lx.y (neS rfl rfl) rfl ?_
  refine Lx.y (mv rfl) rfl ?_
  refine Xx.ifN (t := 6) rfl (fun h3 => ?_) (fun h3 => ?_)
  · skip
    have hz : emptyB lo hi = !bless lo hi := by unfold emptyB; rw [decide_eq_false h3]; rfl
    refine Lx.gT rfl rfl rfl ?_
    refine Lx.y (fa' fo26_1 rfl) rfl ?_
    refine Lx.gT rfl rfl rfl ?_
    refine Lx.y (ld Tryd.underlying9 rfl rfl rfl) rfl ?_
    refine Lx.gT rfl rfl rfl ?_
    refine Lx.y (fa' fo26_0 rfl) rfl ?_
    refine Lx.gT rfl rfl rfl ?_
    refine Lx.y (ld Tryd.underlying9 rfl rfl rfl) rfl ?_
    refine Lx.gT rfl rfl rfl ?_
    refine Lx.y (leqS rfl rfl) rfl ?_
    refine Lx.y (pickT rfl rfl) rfl ?_
    refine Lx.y (asg rfl) rfl ?_
    refine Lx.nil ?_
    refine Xx.tn (k2 _ _ _ _ ?_)
    refine Cx.ret ?_
    exact Xx.dropB b2 (Xx.rB1 rfl rfl ⟨congrArg Value.bool hz.symm, rfl⟩ (Frag.le_refl _) rfl)
  · skip
    have hz : emptyB lo hi = false := by unfold emptyB; rw [decide_eq_true h3]; rfl
    refine Lx.gF rfl rfl rfl rfl ?_
    refine Lx.gF rfl rfl rfl rfl ?_
    refine Lx.gF rfl rfl rfl rfl ?_
    refine Lx.gF rfl rfl rfl rfl ?_
    refine Lx.gF rfl rfl rfl rfl ?_
    refine Lx.y (pickF rfl rfl) rfl ?_
    refine Lx.y (asg rfl) rfl ?_
    refine Lx.nil ?_
    refine Xx.tn (k2 _ _ _ _ ?_)
    refine Cx.ret ?_
    exact Xx.dropB b2 (Xx.rB1 rfl rfl ⟨congrArg Value.bool hz.symm, rfl⟩ (Frag.le_refl _) rfl)

set_option maxHeartbeats 1000000 in
theorem All_ct (B : Frag) : CtP Tryd.prog 14 [] B (spV [] []) := by
  refine CtB.of_body Tryd.func14 rfl (nt := 2) rfl (by kernel_rfl) rfl ?_
  intro N0 w0 R
  refine Cx.seq (fun K1 k1 => ?_)
  refine Cx.region ?_
  refine Lx.new (allocO ti26) rfl (fun b => ?_)
  refine Lx.nil ?_
  refine Xx.tn (k1 _ _ _ _ ?_)
  refine Cx.seq (fun K2 k2 => ?_)
  refine Cx.region ?_
  refine Lx.y (bld ti26 pl26 rfl rfl) rfl ?_
  refine Lx.st (stA (d := .bool) sz26 rfl rfl rfl rfl (by simp) rfl) ?_
  refine Lx.nil ?_
  refine Xx.tn (k2 _ _ _ _ ?_)
  refine Cx.ret ?_
  exact Xx.rBa rfl Tryd.underlying26 rfl sz26 rfl rfl ⟨rfl, rfl⟩ (Frag.le_refl _)

set_option maxHeartbeats 1000000 in
theorem In_ct (lo hi k : List UInt8) (bk : Nat) (B : Frag) (hb : B bk = some (.cells [str k].toArray 9 (0, 0))) : CtP Tryd.prog 10 [spV lo hi, .pointer (some ⟨bk, 0, none⟩)] B (.bool (hasB lo hi k)) := by
  refine CtB.of_body Tryd.func10 rfl (nt := 19) rfl (by kernel_rfl) rfl ?_
  intro N0 w0 R
  refine Cx.seq (fun K1 k1 => ?_)
  refine Cx.region ?_
  refine Lx.new (boxA rfl) rfl (fun b2 => ?_)
  refine Lx.y (asg rfl) rfl ?_
  refine Lx.nil ?_
  refine Xx.tn (k1 _ _ _ _ ?_)
  refine Cx.seq (fun K2 k2 => ?_)
  refine Cx.region ?_
  refine Lx.y (ldB Tryd.underlying9 rfl rfl hb rfl) rfl ?_
  refine Lx.y (fa' fo26_0 rfl) rfl ?_
  refine Lx.y (ld Tryd.underlying9 rfl rfl rfl) rfl ?_
  refine Lx.y (geqS rfl rfl) rfl ?_
  refine Lx.y (mv rfl) rfl ?_
  refine Xx.ifB (t := 8) rfl (fun h3 => ?_) (fun h3 => ?_)
  · skip
    have z1 := h3
    refine Lx.gT rfl rfl rfl ?_
    refine Lx.y (fa' fo26_1 rfl) rfl ?_
    refine Lx.gT rfl rfl rfl ?_
    refine Lx.y (ld Tryd.underlying9 rfl rfl rfl) rfl ?_
    refine Lx.gT rfl rfl rfl ?_
    refine Lx.y (eqS rfl rfl) rfl ?_
    refine Lx.gT rfl rfl rfl ?_
    refine Lx.y (mv rfl) rfl ?_
    refine Xx.ifD (t := 12) rfl (fun h4 => ?_) (fun h4 => ?_)
    · skip
      have hz : hasB lo hi k = true := by unfold hasB; rw [z1, decide_eq_true h4]; rfl
      refine Lx.gF rfl rfl rfl rfl ?_
      refine Lx.gF rfl rfl rfl rfl ?_
      refine Lx.gF rfl rfl rfl rfl ?_
      refine Lx.gF rfl rfl rfl rfl ?_
      refine Lx.gT rfl rfl rfl ?_
      refine Lx.y (pickT rfl rfl) rfl ?_
      refine Lx.y (pickT rfl rfl) rfl ?_
      refine Lx.y (asg rfl) rfl ?_
      refine Lx.nil ?_
      refine Xx.tn (k2 _ _ _ _ ?_)
      refine Cx.ret ?_
      exact Xx.dropB b2 (Xx.rB1 rfl rfl ⟨congrArg Value.bool hz.symm, rfl⟩ (Frag.le_refl _) rfl)
    · skip
      have hz : hasB lo hi k = bless k hi := by unfold hasB; rw [z1, decide_eq_false h4]; simp
      refine Lx.gT rfl rfl rfl ?_
      refine Lx.y (ldB Tryd.underlying9 rfl rfl hb rfl) rfl ?_
      refine Lx.gT rfl rfl rfl ?_
      refine Lx.y (fa' fo26_1 rfl) rfl ?_
      refine Lx.gT rfl rfl rfl ?_
      refine Lx.y (ld Tryd.underlying9 rfl rfl rfl) rfl ?_
      refine Lx.gT rfl rfl rfl ?_
      refine Lx.y (lssS rfl rfl) rfl ?_
      refine Lx.gT rfl rfl rfl ?_
      refine Lx.y (pickF rfl rfl) rfl ?_
      refine Lx.y (pickT rfl rfl) rfl ?_
      refine Lx.y (asg rfl) rfl ?_
      refine Lx.nil ?_
      refine Xx.tn (k2 _ _ _ _ ?_)
      refine Cx.ret ?_
      exact Xx.dropB b2 (Xx.rB1 rfl rfl ⟨congrArg Value.bool hz.symm, rfl⟩ (Frag.le_refl _) rfl)
  · skip
    have hz : hasB lo hi k = false := by unfold hasB; rw [h3]; rfl
    refine Lx.gF rfl rfl rfl rfl ?_
    refine Lx.gF rfl rfl rfl rfl ?_
    refine Lx.gF rfl rfl rfl rfl ?_
    refine Lx.gF rfl rfl rfl rfl ?_
    refine Lx.gU rfl rfl rfl rfl ?_
    refine Lx.gU rfl rfl rfl rfl ?_
    refine Lx.gU rfl rfl rfl rfl ?_
    refine Lx.gU rfl rfl rfl rfl ?_
    refine Lx.gF rfl rfl rfl rfl ?_
    refine Lx.y (pickF rfl rfl) rfl ?_
    refine Lx.y (asg rfl) rfl ?_
    refine Lx.nil ?_
    refine Xx.tn (k2 _ _ _ _ ?_)
    refine Cx.ret ?_
    exact Xx.dropB b2 (Xx.rB1 rfl rfl ⟨congrArg Value.bool hz.symm, rfl⟩ (Frag.le_refl _) rfl)

set_option maxHeartbeats 1000000 in
theorem Meet_ct (l1 h1 l2 h2 : List UInt8) (B : Frag) : CtP Tryd.prog 11 [spV l1 h1, spV l2 h2] B (spV (maxL l1 l2) (meetHi h1 h2)) := by
  refine CtB.of_body Tryd.func11 rfl (nt := 33) rfl (by kernel_rfl) rfl ?_
  intro N0 w0 R
  refine Cx.seq (fun K1 k1 => ?_)
  refine Cx.region ?_
  refine Lx.new (boxA rfl) rfl (fun b2 => ?_)
  refine Lx.new (boxA rfl) rfl (fun b3 => ?_)
  refine Lx.new (allocO ti26) rfl (fun b4 => ?_)
  refine Lx.nil ?_
  refine Xx.tn (k1 _ _ _ _ ?_)
  refine Cx.seq (fun K2 k2 => ?_)
  refine Cx.region ?_
  refine Lx.y (fa' fo26_0 rfl) rfl ?_
  refine Lx.y (ld Tryd.underlying9 rfl rfl rfl) rfl ?_
  refine Lx.y (fa' fo26_0 rfl) rfl ?_
  refine Lx.y (ld Tryd.underlying9 rfl rfl rfl) rfl ?_
  refine Lx.y (maxS rfl rfl) rfl ?_
  refine Lx.y (fa' fo26_1 rfl) rfl ?_
  refine Lx.y (ld Tryd.underlying9 rfl rfl rfl) rfl ?_
  refine Lx.y (bld ti26 pl26 rfl rfl) rfl ?_
  refine Lx.new (allocO ti26) rfl (fun b5 => ?_)
  refine Lx.st (stA (d := .bool) sz26 rfl rfl rfl rfl (by simp) rfl) ?_
  refine Lx.nil ?_
  refine Xx.tn (k2 _ _ _ _ ?_)
  refine Cx.seq (fun K3 k3 => ?_)
  refine Cx.seq (fun K4 k4 => ?_)
  refine Cx.region ?_
  refine Lx.y (fa' fo26_1 rfl) rfl ?_
  refine Lx.y (ld Tryd.underlying9 rfl rfl rfl) rfl ?_
  refine Lx.y (eqS rfl rfl) rfl ?_
  refine Lx.y (mv rfl) rfl ?_
  refine Xx.ifD (t := 17) rfl (fun h5 => ?_) (fun h5 => ?_)
  · skip
    have hz : meetHi h1 h2 = h2 := by unfold meetHi; rw [if_pos h5]
    refine Lx.gF rfl rfl rfl rfl ?_
    refine Lx.gF rfl rfl rfl rfl ?_
    refine Lx.gF rfl rfl rfl rfl ?_
    refine Lx.gF rfl rfl rfl rfl ?_
    refine Lx.gU rfl rfl rfl rfl ?_
    refine Lx.gU rfl rfl rfl rfl ?_
    refine Lx.gU rfl rfl rfl rfl ?_
    refine Lx.gU rfl rfl rfl rfl ?_
    refine Lx.gU rfl rfl rfl rfl ?_
    refine Lx.gF rfl rfl rfl rfl ?_
    refine Lx.y (pickT rfl rfl) rfl ?_
    refine Lx.nil ?_
    refine Xx.tn (k4 _ _ _ _ ?_)
    refine Cx.condT rfl ?_
    refine Cx.region ?_
    refine Lx.y (fa' fo26_1 rfl) rfl ?_
    refine Lx.y (ld Tryd.underlying9 rfl rfl rfl) rfl ?_
    refine Lx.y (fa' fo26_1 rfl) rfl ?_
    refine Lx.st (stO Tryd.underlying9 sz9 rfl rfl rfl (by simp) rfl) ?_
    refine Lx.nil ?_
    refine Xx.tn (k3 _ _ _ _ ?_)
    refine Cx.seq (fun K6 k6 => ?_)
    refine Cx.region ?_
    refine Lx.y (ldA Tryd.underlying26 rfl sz26 rfl (Cells.own (n := 2) PickB.eq rfl) rfl) rfl ?_
    refine Lx.st (stA (d := .bool) sz26 rfl rfl rfl rfl (by simp) rfl) ?_
    refine Lx.nil ?_
    refine Xx.tn (k6 _ _ _ _ ?_)
    refine Cx.ret ?_
    refine Xx.dropB b5 (Xx.dropB b3 (Xx.dropB b2 ?_))
    exact Xx.rBa rfl Tryd.underlying26 rfl sz26 rfl rfl ⟨congrArg (spV _) (by first | exact hz.symm | (unfold meetHi; rw [if_neg z1, if_neg z2, if_pos z3]) | (unfold meetHi; rw [if_neg z1, if_neg z2, if_neg (by rw [z3]; decide)])), rfl⟩ (Frag.le_refl _)
  · skip
    have z1 := h5
    refine Lx.gT rfl rfl rfl ?_
    refine Lx.y (fa' fo26_1 rfl) rfl ?_
    refine Lx.gT rfl rfl rfl ?_
    refine Lx.y (ld Tryd.underlying9 rfl rfl rfl) rfl ?_
    refine Lx.gT rfl rfl rfl ?_
    refine Lx.y (neS rfl rfl) rfl ?_
    refine Lx.gT rfl rfl rfl ?_
    refine Lx.y (mv rfl) rfl ?_
    refine Xx.ifN (t := 21) rfl (fun h7 => ?_) (fun h7 => ?_)
    · skip
      have z2 := h7
      refine Lx.gT rfl rfl rfl ?_
      refine Lx.y (fa' fo26_1 rfl) rfl ?_
      refine Lx.gT rfl rfl rfl ?_
      refine Lx.y (ld Tryd.underlying9 rfl rfl rfl) rfl ?_
      refine Lx.gT rfl rfl rfl ?_
      refine Lx.y (fa' fo26_1 rfl) rfl ?_
      refine Lx.gT rfl rfl rfl ?_
      refine Lx.y (ld Tryd.underlying9 rfl rfl rfl) rfl ?_
      refine Lx.gT rfl rfl rfl ?_
      refine Lx.y (lssS rfl rfl) rfl ?_
      refine Lx.gT rfl rfl rfl ?_
      refine Lx.y (pickT rfl rfl) rfl ?_
      refine Lx.y (pickF rfl rfl) rfl ?_
      refine Lx.nil ?_
      refine Xx.tn (k4 _ _ _ _ ?_)
      refine Cx.condB rfl (fun h8 => ?_) (fun h8 => ?_)
      · skip
        have z3 := h8
        refine Cx.region ?_
        refine Lx.y (fa' fo26_1 rfl) rfl ?_
        refine Lx.y (ld Tryd.underlying9 rfl rfl rfl) rfl ?_
        refine Lx.y (fa' fo26_1 rfl) rfl ?_
        refine Lx.st (stO Tryd.underlying9 sz9 rfl rfl rfl (by simp) rfl) ?_
        refine Lx.nil ?_
        refine Xx.tn (k3 _ _ _ _ ?_)
        refine Cx.seq (fun K9 k9 => ?_)
        refine Cx.region ?_
        refine Lx.y (ldA Tryd.underlying26 rfl sz26 rfl (Cells.own (n := 2) PickB.eq rfl) rfl) rfl ?_
        refine Lx.st (stA (d := .bool) sz26 rfl rfl rfl rfl (by simp) rfl) ?_
        refine Lx.nil ?_
        refine Xx.tn (k9 _ _ _ _ ?_)
        refine Cx.ret ?_
        refine Xx.dropB b5 (Xx.dropB b3 (Xx.dropB b2 ?_))
        exact Xx.rBa rfl Tryd.underlying26 rfl sz26 rfl rfl ⟨congrArg (spV _) (by first | exact hz.symm | (unfold meetHi; rw [if_neg z1, if_neg z2, if_pos z3]) | (unfold meetHi; rw [if_neg z1, if_neg z2, if_neg (by rw [z3]; decide)])), rfl⟩ (Frag.le_refl _)
      · skip
        have z3 := h8
        refine Cx.skip ?_
        refine Xx.tn (k3 _ _ _ _ ?_)
        refine Cx.seq (fun K10 k10 => ?_)
        refine Cx.region ?_
        refine Lx.y (ldA Tryd.underlying26 rfl sz26 rfl (Cells.own (n := 2) PickB.eq rfl) rfl) rfl ?_
        refine Lx.st (stA (d := .bool) sz26 rfl rfl rfl rfl (by simp) rfl) ?_
        refine Lx.nil ?_
        refine Xx.tn (k10 _ _ _ _ ?_)
        refine Cx.ret ?_
        refine Xx.dropB b5 (Xx.dropB b3 (Xx.dropB b2 ?_))
        exact Xx.rBa rfl Tryd.underlying26 rfl sz26 rfl rfl ⟨congrArg (spV _) (by first | exact hz.symm | (unfold meetHi; rw [if_neg z1, if_neg z2, if_pos z3]) | (unfold meetHi; rw [if_neg z1, if_neg z2, if_neg (by rw [z3]; decide)])), rfl⟩ (Frag.le_refl _)
    · skip
      have hz : meetHi h1 h2 = h1 := by unfold meetHi; rw [if_neg z1, if_pos h7]
      refine Lx.gF rfl rfl rfl rfl ?_
      refine Lx.gF rfl rfl rfl rfl ?_
      refine Lx.gF rfl rfl rfl rfl ?_
      refine Lx.gF rfl rfl rfl rfl ?_
      refine Lx.gF rfl rfl rfl rfl ?_
      refine Lx.gT rfl rfl rfl ?_
      refine Lx.y (pickF rfl rfl) rfl ?_
      refine Lx.y (pickF rfl rfl) rfl ?_
      refine Lx.nil ?_
      refine Xx.tn (k4 _ _ _ _ ?_)
      refine Cx.condF rfl ?_
      refine Cx.skip ?_
      refine Xx.tn (k3 _ _ _ _ ?_)
      refine Cx.seq (fun K11 k11 => ?_)
      refine Cx.region ?_
      refine Lx.y (ldA Tryd.underlying26 rfl sz26 rfl (Cells.own (n := 2) PickB.eq rfl) rfl) rfl ?_
      refine Lx.st (stA (d := .bool) sz26 rfl rfl rfl rfl (by simp) rfl) ?_
      refine Lx.nil ?_
      refine Xx.tn (k11 _ _ _ _ ?_)
      refine Cx.ret ?_
      refine Xx.dropB b5 (Xx.dropB b3 (Xx.dropB b2 ?_))
      exact Xx.rBa rfl Tryd.underlying26 rfl sz26 rfl rfl ⟨congrArg (spV _) (by first | exact hz.symm | (unfold meetHi; rw [if_neg z1, if_neg z2, if_pos z3]) | (unfold meetHi; rw [if_neg z1, if_neg z2, if_neg (by rw [z3]; decide)])), rfl⟩ (Frag.le_refl _)

set_option maxHeartbeats 1000000 in
theorem KeysSpans_ct (l1 h1 l2 h2 k : List UInt8) (B : Frag) : CtB Tryd.prog 4 [spV l1 h1, spV l2 h2, str k] B (fun v _ => v = .bool true) := by
  refine CtB.of_body Tryd.func4 rfl (nt := 76) rfl (by kernel_rfl) rfl ?_
  intro N0 w0 R
  refine Cx.seq (fun K1 k1 => ?_)
  refine Cx.region ?_
  refine Lx.new (boxA rfl) rfl (fun b3 => ?_)
  refine Lx.new (boxA rfl) rfl (fun b4 => ?_)
  refine Lx.new (boxO rfl rfl) rfl (fun b5 => ?_)
  refine Lx.y (asg rfl) rfl ?_
  refine Lx.nil ?_
  refine Xx.tn (k1 _ _ _ _ ?_)
  refine Cx.seq (fun K2 k2 => ?_)
  refine Xx.freezeB b5 fun B1 hB1 hbk => ?_
  refine Cx.region ?_
  refine Lx.y (mkf rfl rfl) rfl ?_
  refine Lx.y (asg rfl) rfl ?_
  refine Lx.nil ?_
  refine Xx.tn (k2 _ _ _ _ ?_)
  refine Cx.seq (fun K3 k3 => ?_)
  refine Cx.region ?_
  refine Lx.y (ldA Tryd.underlying26 rfl sz26 rfl (Cells.own (n := 2) PickB.eq rfl) rfl) rfl ?_
  refine Lx.y (ldA Tryd.underlying26 rfl sz26 rfl (Cells.own (n := 2) PickB.eq rfl) rfl) rfl ?_
  refine Lx.cp rfl rfl rfl (Meet_ct _ _ _ _ _) rfl ?_
  refine Lx.new (allocO ti26) rfl (fun b8 => ?_)
  refine Lx.st (stA (d := .bool) sz26 rfl rfl rfl rfl (by simp) rfl) ?_
  refine Lx.nil ?_
  refine Xx.tn (k3 _ _ _ _ ?_)
  refine Cx.seq (fun K4 k4 => ?_)
  refine Cx.seq (fun K5 k5 => ?_)
  refine Cx.drawn (by kernel_rfl) ?_
  refine Dx.one (i := 0) (by kernel_rfl) ?_
  refine Dstep.o (i := 0) rfl (Ox.cb rfl rfl rfl (awake_ct _)) rfl (fun v B' H' hΦ hB => ?_)
  obtain ⟨rfl, hΦ⟩ := hΦ
  obtain ⟨rfl, hBB⟩ := hΦ
  obtain rfl := hBB.symm
  clear hB
  refine ⟨JOk.top, ?_⟩
  refine Dx.p (i := 1) rfl (by kernel_rfl) (not' rfl) rfl ?_
  refine Dx.p (i := 2) rfl (by kernel_rfl) (mv rfl) rfl ?_
  refine Xx.ifB (t := 15) rfl (fun h6 => ?_) (fun h6 => ?_)
  · skip
    cases h6
  · skip
    refine Dx.rT (i := 3) rfl rfl rfl rfl (by kernel_rfl) (ldA Tryd.underlying26 rfl sz26 rfl (Cells.own (n := 2) PickB.eq rfl) rfl) rfl ?_
    refine Dx.rT (i := 4) rfl rfl rfl rfl (by kernel_rfl) (ldB Tryd.underlying9 rfl rfl hbk rfl) rfl ?_
    refine Dx.pT (i := 6) rfl rfl rfl rfl (by kernel_rfl) (mv rfl) rfl ?_
    refine Dx.rT (i := 7) rfl rfl rfl rfl (by kernel_rfl) (ldA Tryd.underlying26 rfl sz26 rfl (Cells.own (n := 2) PickB.eq rfl) rfl) rfl ?_
    refine Dx.one (i := 5) (by kernel_rfl) ?_
    refine Dstep.oT (i := 5) rfl rfl rfl rfl (Ox.cb rfl rfl rfl (Has_ct _ _ _ _)) rfl (fun v B' H' hΦ hB => ?_)
    obtain ⟨rfl, rfl, rfl⟩ := hΦ; clear hB
    refine ⟨JOk.yes (JOk.edge (JOk.edge (JOk.top) (by kernel_rfl)) (by kernel_rfl)) (ldA Tryd.underlying26 rfl sz26 rfl (Cells.own (n := 2) PickB.eq rfl) rfl), ?_⟩
    refine Dx.one (i := 8) (by kernel_rfl) ?_
    refine Dstep.oT (i := 8) rfl rfl rfl rfl (Ox.cb rfl rfl rfl (In_ct _ _ _ _ _ hbk)) rfl (fun v B' H' hΦ hB => ?_)
    obtain ⟨rfl, rfl, rfl⟩ := hΦ; clear hB
    refine ⟨JOk.edge (JOk.yes (JOk.yes (JOk.top) (ldA Tryd.underlying26 rfl sz26 rfl (Cells.own (n := 2) PickB.eq rfl) rfl)) (ldB Tryd.underlying9 rfl rfl hbk rfl)) (by kernel_rfl), ?_⟩
    refine Dx.pT (i := 9) rfl rfl rfl rfl (by kernel_rfl) (neB Tryd.underlying4 rfl rfl) rfl ?_
    refine Dx.p (i := 10) rfl (by kernel_rfl) (pickF rfl rfl) rfl ?_
    refine Dx.p (i := 11) rfl (by kernel_rfl) (mv rfl) rfl ?_
    refine Xx.ifB (t := 24) rfl (fun h7 => ?_) (fun h7 => ?_)
    · skip
      exact absurd h7 (by simp)
    · skip
      refine Dx.rT (i := 12) rfl rfl rfl rfl (by kernel_rfl) (ldA Tryd.underlying26 rfl sz26 rfl (Cells.own (n := 2) PickB.eq rfl) rfl) rfl ?_
      refine Dx.rT (i := 13) rfl rfl rfl rfl (by kernel_rfl) (ldB Tryd.underlying9 rfl rfl hbk rfl) rfl ?_
      refine Dx.pT (i := 15) rfl rfl rfl rfl (by kernel_rfl) (mv rfl) rfl ?_
      refine Dx.rT (i := 16) rfl rfl rfl rfl (by kernel_rfl) (ldA Tryd.underlying26 rfl sz26 rfl (Cells.own (n := 2) PickB.eq rfl) rfl) rfl ?_
      refine Dx.one (i := 14) (by kernel_rfl) ?_
      refine Dstep.oT (i := 14) rfl rfl rfl rfl (Ox.cb rfl rfl rfl (Has_ct _ _ _ _)) rfl (fun v B' H' hΦ hB => ?_)
      obtain ⟨rfl, rfl, rfl⟩ := hΦ; clear hB
      refine ⟨JOk.yes (JOk.edge (JOk.edge (JOk.yes (JOk.yes (JOk.yes (JOk.top) (ldA Tryd.underlying26 rfl sz26 rfl (Cells.own (n := 2) PickB.eq rfl) rfl)) (ldB Tryd.underlying9 rfl rfl hbk rfl)) (ldA Tryd.underlying26 rfl sz26 rfl (Cells.own (n := 2) PickB.eq rfl) rfl)) (by kernel_rfl)) (by kernel_rfl)) (ldA Tryd.underlying26 rfl sz26 rfl (Cells.own (n := 2) PickB.eq rfl) rfl), ?_⟩
      refine Dx.one (i := 17) (by kernel_rfl) ?_
      refine Dstep.oT (i := 17) rfl rfl rfl rfl (Ox.cb rfl rfl rfl (In_ct _ _ _ _ _ hbk)) rfl (fun v B' H' hΦ hB => ?_)
      obtain ⟨rfl, rfl, rfl⟩ := hΦ; clear hB
      refine ⟨JOk.edge (JOk.yes (JOk.yes (JOk.yes (JOk.yes (JOk.yes (JOk.top) (ldA Tryd.underlying26 rfl sz26 rfl (Cells.own (n := 2) PickB.eq rfl) rfl)) (ldB Tryd.underlying9 rfl rfl hbk rfl)) (ldA Tryd.underlying26 rfl sz26 rfl (Cells.own (n := 2) PickB.eq rfl) rfl)) (ldA Tryd.underlying26 rfl sz26 rfl (Cells.own (n := 2) PickB.eq rfl) rfl)) (ldB Tryd.underlying9 rfl rfl hbk rfl)) (by kernel_rfl), ?_⟩
      refine Dx.pT (i := 18) rfl rfl rfl rfl (by kernel_rfl) (mv rfl) rfl ?_
      refine Xx.ifB (t := 31) rfl (fun h8 => ?_) (fun h8 => ?_)
      · skip
        have hA := h8
        refine Dx.pT (i := 19) rfl rfl rfl rfl (by kernel_rfl) (mv rfl) rfl ?_
        refine Dx.rT (i := 20) rfl rfl rfl rfl (by kernel_rfl) (ldA Tryd.underlying26 rfl sz26 rfl (Cells.own (n := 2) PickB.eq rfl) rfl) rfl ?_
        refine Dx.one (i := 21) (by kernel_rfl) ?_
        refine Dstep.oT (i := 21) rfl rfl rfl rfl (Ox.cb rfl rfl rfl (In_ct _ _ _ _ _ hbk)) rfl (fun v B' H' hΦ hB => ?_)
        obtain ⟨rfl, rfl, rfl⟩ := hΦ; clear hB
        refine ⟨JOk.edge (JOk.yes (JOk.yes (JOk.yes (JOk.yes (JOk.yes (JOk.yes (JOk.top) (ldA Tryd.underlying26 rfl sz26 rfl (Cells.own (n := 2) PickB.eq rfl) rfl)) (ldB Tryd.underlying9 rfl rfl hbk rfl)) (ldA Tryd.underlying26 rfl sz26 rfl (Cells.own (n := 2) PickB.eq rfl) rfl)) (ldA Tryd.underlying26 rfl sz26 rfl (Cells.own (n := 2) PickB.eq rfl) rfl)) (ldB Tryd.underlying9 rfl rfl hbk rfl)) (ldA Tryd.underlying26 rfl sz26 rfl (Cells.own (n := 2) PickB.eq rfl) rfl)) (by kernel_rfl), ?_⟩
        refine Dx.pT (i := 22) rfl rfl rfl rfl (by kernel_rfl) (pickT rfl rfl) rfl ?_
        refine Dx.pT (i := 23) rfl rfl rfl rfl (by kernel_rfl) (neB Tryd.underlying4 rfl rfl) rfl ?_
        refine Dx.p (i := 24) rfl (by kernel_rfl) (pickF rfl rfl) rfl ?_
        refine Dx.p (i := 25) rfl (by kernel_rfl) (mv rfl) rfl ?_
        refine Xx.ifB (t := 38) rfl (fun h9 => ?_) (fun h9 => ?_)
        · skip
          exact absurd h9 (by rw [meet_has, hA]; simp)
        · skip
          refine Dx.rT (i := 26) rfl rfl rfl rfl (by kernel_rfl) (ldA Tryd.underlying26 rfl sz26 rfl (Cells.own (n := 2) PickB.eq rfl) rfl) rfl ?_
          refine Dx.one (i := 27) (by kernel_rfl) ?_
          refine Dstep.oT (i := 27) rfl rfl rfl rfl (Ox.cb rfl rfl rfl (Empty_ct _ _ _)) rfl (fun v B' H' hΦ hB => ?_)
          obtain ⟨rfl, rfl, rfl⟩ := hΦ; clear hB
          refine ⟨JOk.edge (JOk.yes (JOk.yes (JOk.yes (JOk.yes (JOk.yes (JOk.yes (JOk.yes (JOk.top) (ldA Tryd.underlying26 rfl sz26 rfl (Cells.own (n := 2) PickB.eq rfl) rfl)) (ldB Tryd.underlying9 rfl rfl hbk rfl)) (ldA Tryd.underlying26 rfl sz26 rfl (Cells.own (n := 2) PickB.eq rfl) rfl)) (ldA Tryd.underlying26 rfl sz26 rfl (Cells.own (n := 2) PickB.eq rfl) rfl)) (ldB Tryd.underlying9 rfl rfl hbk rfl)) (ldA Tryd.underlying26 rfl sz26 rfl (Cells.own (n := 2) PickB.eq rfl) rfl)) (ldA Tryd.underlying26 rfl sz26 rfl (Cells.own (n := 2) PickB.eq rfl) rfl)) (by kernel_rfl), ?_⟩
          refine Dx.pT (i := 28) rfl rfl rfl rfl (by kernel_rfl) (mv rfl) rfl ?_
          refine Xx.ifB (t := 41) rfl (fun h10 => ?_) (fun h10 => ?_)
          · skip
            have hE := h10
            refine Dx.pT (i := 29) rfl rfl rfl rfl (by kernel_rfl) (mv rfl) rfl ?_
            refine Dx.rT (i := 30) rfl rfl rfl rfl (by kernel_rfl) (ldA Tryd.underlying26 rfl sz26 rfl (Cells.own (n := 2) PickB.eq rfl) rfl) rfl ?_
            refine Dx.one (i := 31) (by kernel_rfl) ?_
            refine Dstep.oT (i := 31) rfl rfl rfl rfl (Ox.cb rfl rfl rfl (In_ct _ _ _ _ _ hbk)) rfl (fun v B' H' hΦ hB => ?_)
            obtain ⟨rfl, rfl, rfl⟩ := hΦ; clear hB
            refine ⟨JOk.edge (JOk.yes (JOk.yes (JOk.yes (JOk.yes (JOk.yes (JOk.yes (JOk.yes (JOk.yes (JOk.top) (ldA Tryd.underlying26 rfl sz26 rfl (Cells.own (n := 2) PickB.eq rfl) rfl)) (ldB Tryd.underlying9 rfl rfl hbk rfl)) (ldA Tryd.underlying26 rfl sz26 rfl (Cells.own (n := 2) PickB.eq rfl) rfl)) (ldA Tryd.underlying26 rfl sz26 rfl (Cells.own (n := 2) PickB.eq rfl) rfl)) (ldB Tryd.underlying9 rfl rfl hbk rfl)) (ldA Tryd.underlying26 rfl sz26 rfl (Cells.own (n := 2) PickB.eq rfl) rfl)) (ldA Tryd.underlying26 rfl sz26 rfl (Cells.own (n := 2) PickB.eq rfl) rfl)) (ldA Tryd.underlying26 rfl sz26 rfl (Cells.own (n := 2) PickB.eq rfl) rfl)) (by kernel_rfl), ?_⟩
            refine Dx.pT (i := 32) rfl rfl rfl rfl (by kernel_rfl) (pickT rfl rfl) rfl ?_
            refine Dx.p (i := 33) rfl (by kernel_rfl) (pickF rfl rfl) rfl ?_
            refine Dx.p (i := 34) rfl (by kernel_rfl) (mv rfl) rfl ?_
            refine Xx.ifB (t := 47) rfl (fun h11 => ?_) (fun h11 => ?_)
            · skip
              exact absurd h11 (by rw [empty_has hE]; decide)
            · skip
              refine Dx.rT (i := 36) rfl rfl rfl rfl (by kernel_rfl) (ldB Tryd.underlying9 rfl rfl hbk rfl) rfl ?_
              refine Dx.one (i := 35) (by kernel_rfl) ?_
              refine Dstep.oT (i := 35) rfl rfl rfl rfl (Ox.cb rfl rfl rfl (All_ct _)) rfl (fun v B' H' hΦ hB => ?_)
              obtain ⟨rfl, rfl, rfl⟩ := hΦ; clear hB
              refine ⟨JOk.yes (JOk.yes (JOk.yes (JOk.yes (JOk.yes (JOk.yes (JOk.yes (JOk.yes (JOk.yes (JOk.yes (JOk.top) (ldA Tryd.underlying26 rfl sz26 rfl (Cells.own (n := 2) PickB.eq rfl) rfl)) (ldB Tryd.underlying9 rfl rfl hbk rfl)) (ldA Tryd.underlying26 rfl sz26 rfl (Cells.own (n := 2) PickB.eq rfl) rfl)) (ldA Tryd.underlying26 rfl sz26 rfl (Cells.own (n := 2) PickB.eq rfl) rfl)) (ldB Tryd.underlying9 rfl rfl hbk rfl)) (ldA Tryd.underlying26 rfl sz26 rfl (Cells.own (n := 2) PickB.eq rfl) rfl)) (ldA Tryd.underlying26 rfl sz26 rfl (Cells.own (n := 2) PickB.eq rfl) rfl)) (ldA Tryd.underlying26 rfl sz26 rfl (Cells.own (n := 2) PickB.eq rfl) rfl)) (ldA Tryd.underlying26 rfl sz26 rfl (Cells.own (n := 2) PickB.eq rfl) rfl)) (ldB Tryd.underlying9 rfl rfl hbk rfl), ?_⟩
              refine Dx.one (i := 37) (by kernel_rfl) ?_
              refine Dstep.oT (i := 37) rfl rfl rfl rfl (Ox.cb rfl rfl rfl (Has_ct _ _ _ _)) rfl (fun v B' H' hΦ hB => ?_)
              obtain ⟨rfl, rfl, rfl⟩ := hΦ; clear hB
              refine ⟨JOk.edge (JOk.yes (JOk.yes (JOk.yes (JOk.yes (JOk.yes (JOk.yes (JOk.yes (JOk.yes (JOk.yes (JOk.top) (ldA Tryd.underlying26 rfl sz26 rfl (Cells.own (n := 2) PickB.eq rfl) rfl)) (ldB Tryd.underlying9 rfl rfl hbk rfl)) (ldA Tryd.underlying26 rfl sz26 rfl (Cells.own (n := 2) PickB.eq rfl) rfl)) (ldA Tryd.underlying26 rfl sz26 rfl (Cells.own (n := 2) PickB.eq rfl) rfl)) (ldB Tryd.underlying9 rfl rfl hbk rfl)) (ldA Tryd.underlying26 rfl sz26 rfl (Cells.own (n := 2) PickB.eq rfl) rfl)) (ldA Tryd.underlying26 rfl sz26 rfl (Cells.own (n := 2) PickB.eq rfl) rfl)) (ldA Tryd.underlying26 rfl sz26 rfl (Cells.own (n := 2) PickB.eq rfl) rfl)) (ldA Tryd.underlying26 rfl sz26 rfl (Cells.own (n := 2) PickB.eq rfl) rfl)) (by kernel_rfl), ?_⟩
              refine Dx.pT (i := 38) rfl rfl rfl rfl (by kernel_rfl) (not' rfl) rfl ?_
              refine Dx.p (i := 39) rfl (by kernel_rfl) (pickF rfl rfl) rfl ?_
              refine Dx.done (by kernel_rfl) ?_
              refine Xx.tn (k5 _ _ _ _ ?_)
              refine Cx.condB rfl (fun h12 => ?_) (fun h12 => ?_)
              · skip
                exact absurd h12 (by simp [hasB, bless_nil])
              · skip
                refine Cx.skip ?_
                refine Xx.tn (k4 _ _ _ _ ?_)
                refine Cx.seq (fun K13 k13 => ?_)
                refine Cx.drawn (by kernel_rfl) ?_
                refine Dx.r (i := 0) rfl (by kernel_rfl) (ldA Tryd.underlying26 rfl sz26 rfl (Cells.own (n := 2) PickB.eq rfl) rfl) rfl ?_
                refine Dx.p (i := 2) rfl (by kernel_rfl) (fa' fo26_1 rfl) rfl ?_
                refine Dx.r (i := 3) rfl (by kernel_rfl) (ld Tryd.underlying9 rfl rfl rfl) rfl ?_
                refine Dx.p (i := 4) rfl (by kernel_rfl) (neS rfl rfl) rfl ?_
                refine Dx.one (i := 1) (by kernel_rfl) ?_
                refine Dstep.o (i := 1) rfl (Ox.cb rfl rfl rfl (Empty_ct _ _ _)) rfl (fun v B' H' hΦ hB => ?_)
                obtain ⟨rfl, rfl, rfl⟩ := hΦ; clear hB
                refine ⟨JOk.yes (JOk.edge (JOk.top) (by kernel_rfl)) (ld Tryd.underlying9 rfl rfl rfl), ?_⟩
                refine Dx.p (i := 5) rfl (by kernel_rfl) (mv rfl) rfl ?_
                refine Xx.ifN (t := 58) rfl (fun h14 => ?_) (fun h14 => ?_)
                · skip
                  have z8 := h14
                  refine Dx.pT (i := 6) rfl rfl rfl rfl (by kernel_rfl) (fa' fo26_1 rfl) rfl ?_
                  refine Dx.rT (i := 7) rfl rfl rfl rfl (by kernel_rfl) (ld Tryd.underlying9 rfl rfl rfl) rfl ?_
                  refine Dx.pT (i := 8) rfl rfl rfl rfl (by kernel_rfl) (fa' fo26_0 rfl) rfl ?_
                  refine Dx.rT (i := 9) rfl rfl rfl rfl (by kernel_rfl) (ld Tryd.underlying9 rfl rfl rfl) rfl ?_
                  refine Dx.pT (i := 10) rfl rfl rfl rfl (by kernel_rfl) (leqS rfl rfl) rfl ?_
                  refine Dx.p (i := 11) rfl (by kernel_rfl) (pickT rfl rfl) rfl ?_
                  refine Dx.p (i := 12) rfl (by kernel_rfl) (eqB Tryd.underlying4 rfl rfl) rfl ?_
                  refine Dx.p (i := 13) rfl (by kernel_rfl) (mv rfl) rfl ?_
                  refine Xx.ifB (t := 66) rfl (fun h15 => ?_) (fun h15 => ?_)
                  · skip
                    refine Dx.rT (i := 14) rfl rfl rfl rfl (by kernel_rfl) (ldA Tryd.underlying26 rfl sz26 rfl (Cells.own (n := 2) PickB.eq rfl) rfl) rfl ?_
                    refine Dx.one (i := 15) (by kernel_rfl) ?_
                    refine Dstep.oT (i := 15) rfl rfl rfl rfl (Ox.cb rfl rfl rfl (Empty_ct _ _ _)) rfl (fun v B' H' hΦ hB => ?_)
                    obtain ⟨rfl, rfl, rfl⟩ := hΦ; clear hB
                    refine ⟨JOk.edge (JOk.yes (JOk.yes (JOk.yes (JOk.yes (JOk.top) (ldA Tryd.underlying26 rfl sz26 rfl (Cells.own (n := 2) PickB.eq rfl) rfl)) (ld Tryd.underlying9 rfl rfl rfl)) (ld Tryd.underlying9 rfl rfl rfl)) (ld Tryd.underlying9 rfl rfl rfl)) (by kernel_rfl), ?_⟩
                    refine Dx.pT (i := 16) rfl rfl rfl rfl (by kernel_rfl) (mv rfl) rfl ?_
                    refine Xx.ifB (t := 69) rfl (fun h16 => ?_) (fun h16 => ?_)
                    · skip
                      refine Dx.pF (i := 17) rfl (fun _ h => by cases h) rfl rfl rfl (by kernel_rfl) rfl ?_
                      refine Dx.pF (i := 18) rfl (fun _ h => by cases h) rfl rfl rfl (by kernel_rfl) rfl ?_
                      refine Dx.pF (i := 19) rfl (fun _ h => by cases h) rfl rfl rfl (by kernel_rfl) rfl ?_
                      refine Dx.pF (i := 20) rfl (fun _ h => by cases h) rfl rfl rfl (by kernel_rfl) rfl ?_
                      refine Dx.pT (i := 21) rfl rfl rfl rfl (by kernel_rfl) (pickT rfl rfl) rfl ?_
                      refine Dx.p (i := 22) rfl (by kernel_rfl) (pickT rfl rfl) rfl ?_
                      refine Dx.p (i := 23) rfl (by kernel_rfl) (asg rfl) rfl ?_
                      refine Dx.done (by kernel_rfl) ?_
                      refine Xx.tn (k13 _ _ _ _ ?_)
                      refine Cx.ret ?_
                      refine Xx.dropB b8 (Xx.dropB b4 (Xx.dropB b3 ?_))
                      first | exact Xx.rB1 rfl rfl rfl hB1 rfl | exact Xx.rB1 rfl rfl (congrArg Value.bool (has_low hE2)) hB1 rfl
                    · skip
                      have hE2 := h16
                      refine Dx.rT (i := 17) rfl rfl rfl rfl (by kernel_rfl) (ldA Tryd.underlying26 rfl sz26 rfl (Cells.own (n := 2) PickB.eq rfl) rfl) rfl ?_
                      refine Dx.pT (i := 18) rfl rfl rfl rfl (by kernel_rfl) (fa' fo26_0 rfl) rfl ?_
                      refine Dx.rT (i := 19) rfl rfl rfl rfl (by kernel_rfl) (ld Tryd.underlying9 rfl rfl rfl) rfl ?_
                      refine Dx.one (i := 20) (by kernel_rfl) ?_
                      refine Dstep.oT (i := 20) rfl rfl rfl rfl (Ox.cb rfl rfl rfl (Has_ct _ _ _ _)) rfl (fun v B' H' hΦ hB => ?_)
                      obtain ⟨rfl, rfl, rfl⟩ := hΦ; clear hB
                      refine ⟨JOk.edge (JOk.edge (JOk.yes (JOk.yes (JOk.yes (JOk.yes (JOk.yes (JOk.top) (ldA Tryd.underlying26 rfl sz26 rfl (Cells.own (n := 2) PickB.eq rfl) rfl)) (ld Tryd.underlying9 rfl rfl rfl)) (ld Tryd.underlying9 rfl rfl rfl)) (ld Tryd.underlying9 rfl rfl rfl)) (ldA Tryd.underlying26 rfl sz26 rfl (Cells.own (n := 2) PickB.eq rfl) rfl)) (by kernel_rfl)) (by kernel_rfl), ?_⟩
                      refine Dx.pT (i := 21) rfl rfl rfl rfl (by kernel_rfl) (pickF rfl rfl) rfl ?_
                      refine Dx.p (i := 22) rfl (by kernel_rfl) (pickT rfl rfl) rfl ?_
                      refine Dx.p (i := 23) rfl (by kernel_rfl) (asg rfl) rfl ?_
                      refine Dx.done (by kernel_rfl) ?_
                      refine Xx.tn (k13 _ _ _ _ ?_)
                      refine Cx.ret ?_
                      refine Xx.dropB b8 (Xx.dropB b4 (Xx.dropB b3 ?_))
                      first | exact Xx.rB1 rfl rfl rfl hB1 rfl | exact Xx.rB1 rfl rfl (congrArg Value.bool (has_low hE2)) hB1 rfl
                  · skip
                    exact absurd h15 (by simp [emptyB, z8])
                · skip
                  have z8 := h14
                  refine Dx.pF (i := 6) rfl (fun _ h => by cases h) rfl rfl rfl (by kernel_rfl) rfl ?_
                  refine Dx.pF (i := 7) rfl (fun _ h => by cases h) rfl rfl rfl (by kernel_rfl) rfl ?_
                  refine Dx.pF (i := 8) rfl (fun _ h => by cases h) rfl rfl rfl (by kernel_rfl) rfl ?_
                  refine Dx.pF (i := 9) rfl (fun _ h => by cases h) rfl rfl rfl (by kernel_rfl) rfl ?_
                  refine Dx.pF (i := 10) rfl (fun _ h => by cases h) rfl rfl rfl (by kernel_rfl) rfl ?_
                  refine Dx.p (i := 11) rfl (by kernel_rfl) (pickF rfl rfl) rfl ?_
                  refine Dx.p (i := 12) rfl (by kernel_rfl) (eqB Tryd.underlying4 rfl rfl) rfl ?_
                  refine Dx.p (i := 13) rfl (by kernel_rfl) (mv rfl) rfl ?_
                  refine Xx.ifB (t := 66) rfl (fun h17 => ?_) (fun h17 => ?_)
                  · skip
                    refine Dx.rT (i := 14) rfl rfl rfl rfl (by kernel_rfl) (ldA Tryd.underlying26 rfl sz26 rfl (Cells.own (n := 2) PickB.eq rfl) rfl) rfl ?_
                    refine Dx.one (i := 15) (by kernel_rfl) ?_
                    refine Dstep.oT (i := 15) rfl rfl rfl rfl (Ox.cb rfl rfl rfl (Empty_ct _ _ _)) rfl (fun v B' H' hΦ hB => ?_)
                    obtain ⟨rfl, rfl, rfl⟩ := hΦ; clear hB
                    refine ⟨JOk.edge (JOk.yes (JOk.yes (JOk.top) (ldA Tryd.underlying26 rfl sz26 rfl (Cells.own (n := 2) PickB.eq rfl) rfl)) (ld Tryd.underlying9 rfl rfl rfl)) (by kernel_rfl), ?_⟩
                    refine Dx.pT (i := 16) rfl rfl rfl rfl (by kernel_rfl) (mv rfl) rfl ?_
                    refine Xx.ifB (t := 69) rfl (fun h18 => ?_) (fun h18 => ?_)
                    · skip
                      refine Dx.pF (i := 17) rfl (fun _ h => by cases h) rfl rfl rfl (by kernel_rfl) rfl ?_
                      refine Dx.pF (i := 18) rfl (fun _ h => by cases h) rfl rfl rfl (by kernel_rfl) rfl ?_
                      refine Dx.pF (i := 19) rfl (fun _ h => by cases h) rfl rfl rfl (by kernel_rfl) rfl ?_
                      refine Dx.pF (i := 20) rfl (fun _ h => by cases h) rfl rfl rfl (by kernel_rfl) rfl ?_
                      refine Dx.pT (i := 21) rfl rfl rfl rfl (by kernel_rfl) (pickT rfl rfl) rfl ?_
                      refine Dx.p (i := 22) rfl (by kernel_rfl) (pickT rfl rfl) rfl ?_
                      refine Dx.p (i := 23) rfl (by kernel_rfl) (asg rfl) rfl ?_
                      refine Dx.done (by kernel_rfl) ?_
                      refine Xx.tn (k13 _ _ _ _ ?_)
                      refine Cx.ret ?_
                      refine Xx.dropB b8 (Xx.dropB b4 (Xx.dropB b3 ?_))
                      first | exact Xx.rB1 rfl rfl rfl hB1 rfl | exact Xx.rB1 rfl rfl (congrArg Value.bool (has_low hE2)) hB1 rfl
                    · skip
                      have hE2 := h18
                      refine Dx.rT (i := 17) rfl rfl rfl rfl (by kernel_rfl) (ldA Tryd.underlying26 rfl sz26 rfl (Cells.own (n := 2) PickB.eq rfl) rfl) rfl ?_
                      refine Dx.pT (i := 18) rfl rfl rfl rfl (by kernel_rfl) (fa' fo26_0 rfl) rfl ?_
                      refine Dx.rT (i := 19) rfl rfl rfl rfl (by kernel_rfl) (ld Tryd.underlying9 rfl rfl rfl) rfl ?_
                      refine Dx.one (i := 20) (by kernel_rfl) ?_
                      refine Dstep.oT (i := 20) rfl rfl rfl rfl (Ox.cb rfl rfl rfl (Has_ct _ _ _ _)) rfl (fun v B' H' hΦ hB => ?_)
                      obtain ⟨rfl, rfl, rfl⟩ := hΦ; clear hB
                      refine ⟨JOk.edge (JOk.edge (JOk.yes (JOk.yes (JOk.yes (JOk.top) (ldA Tryd.underlying26 rfl sz26 rfl (Cells.own (n := 2) PickB.eq rfl) rfl)) (ld Tryd.underlying9 rfl rfl rfl)) (ldA Tryd.underlying26 rfl sz26 rfl (Cells.own (n := 2) PickB.eq rfl) rfl)) (by kernel_rfl)) (by kernel_rfl), ?_⟩
                      refine Dx.pT (i := 21) rfl rfl rfl rfl (by kernel_rfl) (pickF rfl rfl) rfl ?_
                      refine Dx.p (i := 22) rfl (by kernel_rfl) (pickT rfl rfl) rfl ?_
                      refine Dx.p (i := 23) rfl (by kernel_rfl) (asg rfl) rfl ?_
                      refine Dx.done (by kernel_rfl) ?_
                      refine Xx.tn (k13 _ _ _ _ ?_)
                      refine Cx.ret ?_
                      refine Xx.dropB b8 (Xx.dropB b4 (Xx.dropB b3 ?_))
                      first | exact Xx.rB1 rfl rfl rfl hB1 rfl | exact Xx.rB1 rfl rfl (congrArg Value.bool (has_low hE2)) hB1 rfl
                  · skip
                    exact absurd h17 (by simp [emptyB, z8])
          · skip
            refine Dx.pF (i := 29) rfl (fun _ h => by cases h) rfl rfl rfl (by kernel_rfl) rfl ?_
            refine Dx.pF (i := 30) rfl (fun _ h => by cases h) rfl rfl rfl (by kernel_rfl) rfl ?_
            refine Dx.pF (i := 31) rfl (fun _ h => by cases h) rfl rfl rfl (by kernel_rfl) rfl ?_
            refine Dx.pT (i := 32) rfl rfl rfl rfl (by kernel_rfl) (pickF rfl rfl) rfl ?_
            refine Dx.p (i := 33) rfl (by kernel_rfl) (pickF rfl rfl) rfl ?_
            refine Dx.p (i := 34) rfl (by kernel_rfl) (mv rfl) rfl ?_
            refine Dx.rT (i := 36) rfl rfl rfl rfl (by kernel_rfl) (ldB Tryd.underlying9 rfl rfl hbk rfl) rfl ?_
            refine Dx.one (i := 35) (by kernel_rfl) ?_
            refine Dstep.oT (i := 35) rfl rfl rfl rfl (Ox.cb rfl rfl rfl (All_ct _)) rfl (fun v B' H' hΦ hB => ?_)
            obtain ⟨rfl, rfl, rfl⟩ := hΦ; clear hB
            refine ⟨JOk.yes (JOk.yes (JOk.yes (JOk.yes (JOk.yes (JOk.yes (JOk.yes (JOk.yes (JOk.yes (JOk.top) (ldA Tryd.underlying26 rfl sz26 rfl (Cells.own (n := 2) PickB.eq rfl) rfl)) (ldB Tryd.underlying9 rfl rfl hbk rfl)) (ldA Tryd.underlying26 rfl sz26 rfl (Cells.own (n := 2) PickB.eq rfl) rfl)) (ldA Tryd.underlying26 rfl sz26 rfl (Cells.own (n := 2) PickB.eq rfl) rfl)) (ldB Tryd.underlying9 rfl rfl hbk rfl)) (ldA Tryd.underlying26 rfl sz26 rfl (Cells.own (n := 2) PickB.eq rfl) rfl)) (ldA Tryd.underlying26 rfl sz26 rfl (Cells.own (n := 2) PickB.eq rfl) rfl)) (ldA Tryd.underlying26 rfl sz26 rfl (Cells.own (n := 2) PickB.eq rfl) rfl)) (ldB Tryd.underlying9 rfl rfl hbk rfl), ?_⟩
            refine Dx.one (i := 37) (by kernel_rfl) ?_
            refine Dstep.oT (i := 37) rfl rfl rfl rfl (Ox.cb rfl rfl rfl (Has_ct _ _ _ _)) rfl (fun v B' H' hΦ hB => ?_)
            obtain ⟨rfl, rfl, rfl⟩ := hΦ; clear hB
            refine ⟨JOk.edge (JOk.yes (JOk.yes (JOk.yes (JOk.yes (JOk.yes (JOk.yes (JOk.yes (JOk.yes (JOk.top) (ldA Tryd.underlying26 rfl sz26 rfl (Cells.own (n := 2) PickB.eq rfl) rfl)) (ldB Tryd.underlying9 rfl rfl hbk rfl)) (ldA Tryd.underlying26 rfl sz26 rfl (Cells.own (n := 2) PickB.eq rfl) rfl)) (ldA Tryd.underlying26 rfl sz26 rfl (Cells.own (n := 2) PickB.eq rfl) rfl)) (ldB Tryd.underlying9 rfl rfl hbk rfl)) (ldA Tryd.underlying26 rfl sz26 rfl (Cells.own (n := 2) PickB.eq rfl) rfl)) (ldA Tryd.underlying26 rfl sz26 rfl (Cells.own (n := 2) PickB.eq rfl) rfl)) (ldA Tryd.underlying26 rfl sz26 rfl (Cells.own (n := 2) PickB.eq rfl) rfl)) (by kernel_rfl), ?_⟩
            refine Dx.pT (i := 38) rfl rfl rfl rfl (by kernel_rfl) (not' rfl) rfl ?_
            refine Dx.p (i := 39) rfl (by kernel_rfl) (pickF rfl rfl) rfl ?_
            refine Dx.done (by kernel_rfl) ?_
            refine Xx.tn (k5 _ _ _ _ ?_)
            refine Cx.condB rfl (fun h19 => ?_) (fun h19 => ?_)
            · skip
              exact absurd h19 (by simp [hasB, bless_nil])
            · skip
              refine Cx.skip ?_
              refine Xx.tn (k4 _ _ _ _ ?_)
              refine Cx.seq (fun K20 k20 => ?_)
              refine Cx.drawn (by kernel_rfl) ?_
              refine Dx.r (i := 0) rfl (by kernel_rfl) (ldA Tryd.underlying26 rfl sz26 rfl (Cells.own (n := 2) PickB.eq rfl) rfl) rfl ?_
              refine Dx.p (i := 2) rfl (by kernel_rfl) (fa' fo26_1 rfl) rfl ?_
              refine Dx.r (i := 3) rfl (by kernel_rfl) (ld Tryd.underlying9 rfl rfl rfl) rfl ?_
              refine Dx.p (i := 4) rfl (by kernel_rfl) (neS rfl rfl) rfl ?_
              refine Dx.one (i := 1) (by kernel_rfl) ?_
              refine Dstep.o (i := 1) rfl (Ox.cb rfl rfl rfl (Empty_ct _ _ _)) rfl (fun v B' H' hΦ hB => ?_)
              obtain ⟨rfl, rfl, rfl⟩ := hΦ; clear hB
              refine ⟨JOk.yes (JOk.edge (JOk.top) (by kernel_rfl)) (ld Tryd.underlying9 rfl rfl rfl), ?_⟩
              refine Dx.p (i := 5) rfl (by kernel_rfl) (mv rfl) rfl ?_
              refine Xx.ifN (t := 58) rfl (fun h21 => ?_) (fun h21 => ?_)
              · skip
                have z8 := h21
                refine Dx.pT (i := 6) rfl rfl rfl rfl (by kernel_rfl) (fa' fo26_1 rfl) rfl ?_
                refine Dx.rT (i := 7) rfl rfl rfl rfl (by kernel_rfl) (ld Tryd.underlying9 rfl rfl rfl) rfl ?_
                refine Dx.pT (i := 8) rfl rfl rfl rfl (by kernel_rfl) (fa' fo26_0 rfl) rfl ?_
                refine Dx.rT (i := 9) rfl rfl rfl rfl (by kernel_rfl) (ld Tryd.underlying9 rfl rfl rfl) rfl ?_
                refine Dx.pT (i := 10) rfl rfl rfl rfl (by kernel_rfl) (leqS rfl rfl) rfl ?_
                refine Dx.p (i := 11) rfl (by kernel_rfl) (pickT rfl rfl) rfl ?_
                refine Dx.p (i := 12) rfl (by kernel_rfl) (eqB Tryd.underlying4 rfl rfl) rfl ?_
                refine Dx.p (i := 13) rfl (by kernel_rfl) (mv rfl) rfl ?_
                refine Xx.ifB (t := 66) rfl (fun h22 => ?_) (fun h22 => ?_)
                · skip
                  refine Dx.rT (i := 14) rfl rfl rfl rfl (by kernel_rfl) (ldA Tryd.underlying26 rfl sz26 rfl (Cells.own (n := 2) PickB.eq rfl) rfl) rfl ?_
                  refine Dx.one (i := 15) (by kernel_rfl) ?_
                  refine Dstep.oT (i := 15) rfl rfl rfl rfl (Ox.cb rfl rfl rfl (Empty_ct _ _ _)) rfl (fun v B' H' hΦ hB => ?_)
                  obtain ⟨rfl, rfl, rfl⟩ := hΦ; clear hB
                  refine ⟨JOk.edge (JOk.yes (JOk.yes (JOk.yes (JOk.yes (JOk.top) (ldA Tryd.underlying26 rfl sz26 rfl (Cells.own (n := 2) PickB.eq rfl) rfl)) (ld Tryd.underlying9 rfl rfl rfl)) (ld Tryd.underlying9 rfl rfl rfl)) (ld Tryd.underlying9 rfl rfl rfl)) (by kernel_rfl), ?_⟩
                  refine Dx.pT (i := 16) rfl rfl rfl rfl (by kernel_rfl) (mv rfl) rfl ?_
                  refine Xx.ifB (t := 69) rfl (fun h23 => ?_) (fun h23 => ?_)
                  · skip
                    refine Dx.pF (i := 17) rfl (fun _ h => by cases h) rfl rfl rfl (by kernel_rfl) rfl ?_
                    refine Dx.pF (i := 18) rfl (fun _ h => by cases h) rfl rfl rfl (by kernel_rfl) rfl ?_
                    refine Dx.pF (i := 19) rfl (fun _ h => by cases h) rfl rfl rfl (by kernel_rfl) rfl ?_
                    refine Dx.pF (i := 20) rfl (fun _ h => by cases h) rfl rfl rfl (by kernel_rfl) rfl ?_
                    refine Dx.pT (i := 21) rfl rfl rfl rfl (by kernel_rfl) (pickT rfl rfl) rfl ?_
                    refine Dx.p (i := 22) rfl (by kernel_rfl) (pickT rfl rfl) rfl ?_
                    refine Dx.p (i := 23) rfl (by kernel_rfl) (asg rfl) rfl ?_
                    refine Dx.done (by kernel_rfl) ?_
                    refine Xx.tn (k20 _ _ _ _ ?_)
                    refine Cx.ret ?_
                    refine Xx.dropB b8 (Xx.dropB b4 (Xx.dropB b3 ?_))
                    first | exact Xx.rB1 rfl rfl rfl hB1 rfl | exact Xx.rB1 rfl rfl (congrArg Value.bool (has_low hE2)) hB1 rfl
                  · skip
                    have hE2 := h23
                    refine Dx.rT (i := 17) rfl rfl rfl rfl (by kernel_rfl) (ldA Tryd.underlying26 rfl sz26 rfl (Cells.own (n := 2) PickB.eq rfl) rfl) rfl ?_
                    refine Dx.pT (i := 18) rfl rfl rfl rfl (by kernel_rfl) (fa' fo26_0 rfl) rfl ?_
                    refine Dx.rT (i := 19) rfl rfl rfl rfl (by kernel_rfl) (ld Tryd.underlying9 rfl rfl rfl) rfl ?_
                    refine Dx.one (i := 20) (by kernel_rfl) ?_
                    refine Dstep.oT (i := 20) rfl rfl rfl rfl (Ox.cb rfl rfl rfl (Has_ct _ _ _ _)) rfl (fun v B' H' hΦ hB => ?_)
                    obtain ⟨rfl, rfl, rfl⟩ := hΦ; clear hB
                    refine ⟨JOk.edge (JOk.edge (JOk.yes (JOk.yes (JOk.yes (JOk.yes (JOk.yes (JOk.top) (ldA Tryd.underlying26 rfl sz26 rfl (Cells.own (n := 2) PickB.eq rfl) rfl)) (ld Tryd.underlying9 rfl rfl rfl)) (ld Tryd.underlying9 rfl rfl rfl)) (ld Tryd.underlying9 rfl rfl rfl)) (ldA Tryd.underlying26 rfl sz26 rfl (Cells.own (n := 2) PickB.eq rfl) rfl)) (by kernel_rfl)) (by kernel_rfl), ?_⟩
                    refine Dx.pT (i := 21) rfl rfl rfl rfl (by kernel_rfl) (pickF rfl rfl) rfl ?_
                    refine Dx.p (i := 22) rfl (by kernel_rfl) (pickT rfl rfl) rfl ?_
                    refine Dx.p (i := 23) rfl (by kernel_rfl) (asg rfl) rfl ?_
                    refine Dx.done (by kernel_rfl) ?_
                    refine Xx.tn (k20 _ _ _ _ ?_)
                    refine Cx.ret ?_
                    refine Xx.dropB b8 (Xx.dropB b4 (Xx.dropB b3 ?_))
                    first | exact Xx.rB1 rfl rfl rfl hB1 rfl | exact Xx.rB1 rfl rfl (congrArg Value.bool (has_low hE2)) hB1 rfl
                · skip
                  exact absurd h22 (by simp [emptyB, z8])
              · skip
                have z8 := h21
                refine Dx.pF (i := 6) rfl (fun _ h => by cases h) rfl rfl rfl (by kernel_rfl) rfl ?_
                refine Dx.pF (i := 7) rfl (fun _ h => by cases h) rfl rfl rfl (by kernel_rfl) rfl ?_
                refine Dx.pF (i := 8) rfl (fun _ h => by cases h) rfl rfl rfl (by kernel_rfl) rfl ?_
                refine Dx.pF (i := 9) rfl (fun _ h => by cases h) rfl rfl rfl (by kernel_rfl) rfl ?_
                refine Dx.pF (i := 10) rfl (fun _ h => by cases h) rfl rfl rfl (by kernel_rfl) rfl ?_
                refine Dx.p (i := 11) rfl (by kernel_rfl) (pickF rfl rfl) rfl ?_
                refine Dx.p (i := 12) rfl (by kernel_rfl) (eqB Tryd.underlying4 rfl rfl) rfl ?_
                refine Dx.p (i := 13) rfl (by kernel_rfl) (mv rfl) rfl ?_
                refine Xx.ifB (t := 66) rfl (fun h24 => ?_) (fun h24 => ?_)
                · skip
                  refine Dx.rT (i := 14) rfl rfl rfl rfl (by kernel_rfl) (ldA Tryd.underlying26 rfl sz26 rfl (Cells.own (n := 2) PickB.eq rfl) rfl) rfl ?_
                  refine Dx.one (i := 15) (by kernel_rfl) ?_
                  refine Dstep.oT (i := 15) rfl rfl rfl rfl (Ox.cb rfl rfl rfl (Empty_ct _ _ _)) rfl (fun v B' H' hΦ hB => ?_)
                  obtain ⟨rfl, rfl, rfl⟩ := hΦ; clear hB
                  refine ⟨JOk.edge (JOk.yes (JOk.yes (JOk.top) (ldA Tryd.underlying26 rfl sz26 rfl (Cells.own (n := 2) PickB.eq rfl) rfl)) (ld Tryd.underlying9 rfl rfl rfl)) (by kernel_rfl), ?_⟩
                  refine Dx.pT (i := 16) rfl rfl rfl rfl (by kernel_rfl) (mv rfl) rfl ?_
                  refine Xx.ifB (t := 69) rfl (fun h25 => ?_) (fun h25 => ?_)
                  · skip
                    refine Dx.pF (i := 17) rfl (fun _ h => by cases h) rfl rfl rfl (by kernel_rfl) rfl ?_
                    refine Dx.pF (i := 18) rfl (fun _ h => by cases h) rfl rfl rfl (by kernel_rfl) rfl ?_
                    refine Dx.pF (i := 19) rfl (fun _ h => by cases h) rfl rfl rfl (by kernel_rfl) rfl ?_
                    refine Dx.pF (i := 20) rfl (fun _ h => by cases h) rfl rfl rfl (by kernel_rfl) rfl ?_
                    refine Dx.pT (i := 21) rfl rfl rfl rfl (by kernel_rfl) (pickT rfl rfl) rfl ?_
                    refine Dx.p (i := 22) rfl (by kernel_rfl) (pickT rfl rfl) rfl ?_
                    refine Dx.p (i := 23) rfl (by kernel_rfl) (asg rfl) rfl ?_
                    refine Dx.done (by kernel_rfl) ?_
                    refine Xx.tn (k20 _ _ _ _ ?_)
                    refine Cx.ret ?_
                    refine Xx.dropB b8 (Xx.dropB b4 (Xx.dropB b3 ?_))
                    first | exact Xx.rB1 rfl rfl rfl hB1 rfl | exact Xx.rB1 rfl rfl (congrArg Value.bool (has_low hE2)) hB1 rfl
                  · skip
                    have hE2 := h25
                    refine Dx.rT (i := 17) rfl rfl rfl rfl (by kernel_rfl) (ldA Tryd.underlying26 rfl sz26 rfl (Cells.own (n := 2) PickB.eq rfl) rfl) rfl ?_
                    refine Dx.pT (i := 18) rfl rfl rfl rfl (by kernel_rfl) (fa' fo26_0 rfl) rfl ?_
                    refine Dx.rT (i := 19) rfl rfl rfl rfl (by kernel_rfl) (ld Tryd.underlying9 rfl rfl rfl) rfl ?_
                    refine Dx.one (i := 20) (by kernel_rfl) ?_
                    refine Dstep.oT (i := 20) rfl rfl rfl rfl (Ox.cb rfl rfl rfl (Has_ct _ _ _ _)) rfl (fun v B' H' hΦ hB => ?_)
                    obtain ⟨rfl, rfl, rfl⟩ := hΦ; clear hB
                    refine ⟨JOk.edge (JOk.edge (JOk.yes (JOk.yes (JOk.yes (JOk.top) (ldA Tryd.underlying26 rfl sz26 rfl (Cells.own (n := 2) PickB.eq rfl) rfl)) (ld Tryd.underlying9 rfl rfl rfl)) (ldA Tryd.underlying26 rfl sz26 rfl (Cells.own (n := 2) PickB.eq rfl) rfl)) (by kernel_rfl)) (by kernel_rfl), ?_⟩
                    refine Dx.pT (i := 21) rfl rfl rfl rfl (by kernel_rfl) (pickF rfl rfl) rfl ?_
                    refine Dx.p (i := 22) rfl (by kernel_rfl) (pickT rfl rfl) rfl ?_
                    refine Dx.p (i := 23) rfl (by kernel_rfl) (asg rfl) rfl ?_
                    refine Dx.done (by kernel_rfl) ?_
                    refine Xx.tn (k20 _ _ _ _ ?_)
                    refine Cx.ret ?_
                    refine Xx.dropB b8 (Xx.dropB b4 (Xx.dropB b3 ?_))
                    first | exact Xx.rB1 rfl rfl rfl hB1 rfl | exact Xx.rB1 rfl rfl (congrArg Value.bool (has_low hE2)) hB1 rfl
                · skip
                  exact absurd h24 (by simp [emptyB, z8])
      · skip
        have hA := h8
        refine Dx.pF (i := 19) rfl (fun _ h => by cases h) rfl rfl rfl (by kernel_rfl) rfl ?_
        refine Dx.pF (i := 20) rfl (fun _ h => by cases h) rfl rfl rfl (by kernel_rfl) rfl ?_
        refine Dx.pF (i := 21) rfl (fun _ h => by cases h) rfl rfl rfl (by kernel_rfl) rfl ?_
        refine Dx.pT (i := 22) rfl rfl rfl rfl (by kernel_rfl) (pickF rfl rfl) rfl ?_
        refine Dx.pT (i := 23) rfl rfl rfl rfl (by kernel_rfl) (neB Tryd.underlying4 rfl rfl) rfl ?_
        refine Dx.p (i := 24) rfl (by kernel_rfl) (pickF rfl rfl) rfl ?_
        refine Dx.p (i := 25) rfl (by kernel_rfl) (mv rfl) rfl ?_
        refine Xx.ifB (t := 38) rfl (fun h26 => ?_) (fun h26 => ?_)
        · skip
          exact absurd h26 (by rw [meet_has, hA]; simp)
        · skip
          refine Dx.rT (i := 26) rfl rfl rfl rfl (by kernel_rfl) (ldA Tryd.underlying26 rfl sz26 rfl (Cells.own (n := 2) PickB.eq rfl) rfl) rfl ?_
          refine Dx.one (i := 27) (by kernel_rfl) ?_
          refine Dstep.oT (i := 27) rfl rfl rfl rfl (Ox.cb rfl rfl rfl (Empty_ct _ _ _)) rfl (fun v B' H' hΦ hB => ?_)
          obtain ⟨rfl, rfl, rfl⟩ := hΦ; clear hB
          refine ⟨JOk.edge (JOk.yes (JOk.yes (JOk.yes (JOk.yes (JOk.yes (JOk.yes (JOk.top) (ldA Tryd.underlying26 rfl sz26 rfl (Cells.own (n := 2) PickB.eq rfl) rfl)) (ldB Tryd.underlying9 rfl rfl hbk rfl)) (ldA Tryd.underlying26 rfl sz26 rfl (Cells.own (n := 2) PickB.eq rfl) rfl)) (ldA Tryd.underlying26 rfl sz26 rfl (Cells.own (n := 2) PickB.eq rfl) rfl)) (ldB Tryd.underlying9 rfl rfl hbk rfl)) (ldA Tryd.underlying26 rfl sz26 rfl (Cells.own (n := 2) PickB.eq rfl) rfl)) (by kernel_rfl), ?_⟩
          refine Dx.pT (i := 28) rfl rfl rfl rfl (by kernel_rfl) (mv rfl) rfl ?_
          refine Xx.ifB (t := 41) rfl (fun h27 => ?_) (fun h27 => ?_)
          · skip
            have hE := h27
            refine Dx.pT (i := 29) rfl rfl rfl rfl (by kernel_rfl) (mv rfl) rfl ?_
            refine Dx.rT (i := 30) rfl rfl rfl rfl (by kernel_rfl) (ldA Tryd.underlying26 rfl sz26 rfl (Cells.own (n := 2) PickB.eq rfl) rfl) rfl ?_
            refine Dx.one (i := 31) (by kernel_rfl) ?_
            refine Dstep.oT (i := 31) rfl rfl rfl rfl (Ox.cb rfl rfl rfl (In_ct _ _ _ _ _ hbk)) rfl (fun v B' H' hΦ hB => ?_)
            obtain ⟨rfl, rfl, rfl⟩ := hΦ; clear hB
            refine ⟨JOk.edge (JOk.yes (JOk.yes (JOk.yes (JOk.yes (JOk.yes (JOk.yes (JOk.yes (JOk.top) (ldA Tryd.underlying26 rfl sz26 rfl (Cells.own (n := 2) PickB.eq rfl) rfl)) (ldB Tryd.underlying9 rfl rfl hbk rfl)) (ldA Tryd.underlying26 rfl sz26 rfl (Cells.own (n := 2) PickB.eq rfl) rfl)) (ldA Tryd.underlying26 rfl sz26 rfl (Cells.own (n := 2) PickB.eq rfl) rfl)) (ldB Tryd.underlying9 rfl rfl hbk rfl)) (ldA Tryd.underlying26 rfl sz26 rfl (Cells.own (n := 2) PickB.eq rfl) rfl)) (ldA Tryd.underlying26 rfl sz26 rfl (Cells.own (n := 2) PickB.eq rfl) rfl)) (by kernel_rfl), ?_⟩
            refine Dx.pT (i := 32) rfl rfl rfl rfl (by kernel_rfl) (pickT rfl rfl) rfl ?_
            refine Dx.p (i := 33) rfl (by kernel_rfl) (pickF rfl rfl) rfl ?_
            refine Dx.p (i := 34) rfl (by kernel_rfl) (mv rfl) rfl ?_
            refine Xx.ifB (t := 47) rfl (fun h28 => ?_) (fun h28 => ?_)
            · skip
              exact absurd h28 (by rw [empty_has hE]; decide)
            · skip
              refine Dx.rT (i := 36) rfl rfl rfl rfl (by kernel_rfl) (ldB Tryd.underlying9 rfl rfl hbk rfl) rfl ?_
              refine Dx.one (i := 35) (by kernel_rfl) ?_
              refine Dstep.oT (i := 35) rfl rfl rfl rfl (Ox.cb rfl rfl rfl (All_ct _)) rfl (fun v B' H' hΦ hB => ?_)
              obtain ⟨rfl, rfl, rfl⟩ := hΦ; clear hB
              refine ⟨JOk.yes (JOk.yes (JOk.yes (JOk.yes (JOk.yes (JOk.yes (JOk.yes (JOk.yes (JOk.yes (JOk.top) (ldA Tryd.underlying26 rfl sz26 rfl (Cells.own (n := 2) PickB.eq rfl) rfl)) (ldB Tryd.underlying9 rfl rfl hbk rfl)) (ldA Tryd.underlying26 rfl sz26 rfl (Cells.own (n := 2) PickB.eq rfl) rfl)) (ldA Tryd.underlying26 rfl sz26 rfl (Cells.own (n := 2) PickB.eq rfl) rfl)) (ldB Tryd.underlying9 rfl rfl hbk rfl)) (ldA Tryd.underlying26 rfl sz26 rfl (Cells.own (n := 2) PickB.eq rfl) rfl)) (ldA Tryd.underlying26 rfl sz26 rfl (Cells.own (n := 2) PickB.eq rfl) rfl)) (ldA Tryd.underlying26 rfl sz26 rfl (Cells.own (n := 2) PickB.eq rfl) rfl)) (ldB Tryd.underlying9 rfl rfl hbk rfl), ?_⟩
              refine Dx.one (i := 37) (by kernel_rfl) ?_
              refine Dstep.oT (i := 37) rfl rfl rfl rfl (Ox.cb rfl rfl rfl (Has_ct _ _ _ _)) rfl (fun v B' H' hΦ hB => ?_)
              obtain ⟨rfl, rfl, rfl⟩ := hΦ; clear hB
              refine ⟨JOk.edge (JOk.yes (JOk.yes (JOk.yes (JOk.yes (JOk.yes (JOk.yes (JOk.yes (JOk.yes (JOk.top) (ldA Tryd.underlying26 rfl sz26 rfl (Cells.own (n := 2) PickB.eq rfl) rfl)) (ldB Tryd.underlying9 rfl rfl hbk rfl)) (ldA Tryd.underlying26 rfl sz26 rfl (Cells.own (n := 2) PickB.eq rfl) rfl)) (ldA Tryd.underlying26 rfl sz26 rfl (Cells.own (n := 2) PickB.eq rfl) rfl)) (ldB Tryd.underlying9 rfl rfl hbk rfl)) (ldA Tryd.underlying26 rfl sz26 rfl (Cells.own (n := 2) PickB.eq rfl) rfl)) (ldA Tryd.underlying26 rfl sz26 rfl (Cells.own (n := 2) PickB.eq rfl) rfl)) (ldA Tryd.underlying26 rfl sz26 rfl (Cells.own (n := 2) PickB.eq rfl) rfl)) (by kernel_rfl), ?_⟩
              refine Dx.pT (i := 38) rfl rfl rfl rfl (by kernel_rfl) (not' rfl) rfl ?_
              refine Dx.p (i := 39) rfl (by kernel_rfl) (pickF rfl rfl) rfl ?_
              refine Dx.done (by kernel_rfl) ?_
              refine Xx.tn (k5 _ _ _ _ ?_)
              refine Cx.condB rfl (fun h29 => ?_) (fun h29 => ?_)
              · skip
                exact absurd h29 (by simp [hasB, bless_nil])
              · skip
                refine Cx.skip ?_
                refine Xx.tn (k4 _ _ _ _ ?_)
                refine Cx.seq (fun K30 k30 => ?_)
                refine Cx.drawn (by kernel_rfl) ?_
                refine Dx.r (i := 0) rfl (by kernel_rfl) (ldA Tryd.underlying26 rfl sz26 rfl (Cells.own (n := 2) PickB.eq rfl) rfl) rfl ?_
                refine Dx.p (i := 2) rfl (by kernel_rfl) (fa' fo26_1 rfl) rfl ?_
                refine Dx.r (i := 3) rfl (by kernel_rfl) (ld Tryd.underlying9 rfl rfl rfl) rfl ?_
                refine Dx.p (i := 4) rfl (by kernel_rfl) (neS rfl rfl) rfl ?_
                refine Dx.one (i := 1) (by kernel_rfl) ?_
                refine Dstep.o (i := 1) rfl (Ox.cb rfl rfl rfl (Empty_ct _ _ _)) rfl (fun v B' H' hΦ hB => ?_)
                obtain ⟨rfl, rfl, rfl⟩ := hΦ; clear hB
                refine ⟨JOk.yes (JOk.edge (JOk.top) (by kernel_rfl)) (ld Tryd.underlying9 rfl rfl rfl), ?_⟩
                refine Dx.p (i := 5) rfl (by kernel_rfl) (mv rfl) rfl ?_
                refine Xx.ifN (t := 58) rfl (fun h31 => ?_) (fun h31 => ?_)
                · skip
                  have z8 := h31
                  refine Dx.pT (i := 6) rfl rfl rfl rfl (by kernel_rfl) (fa' fo26_1 rfl) rfl ?_
                  refine Dx.rT (i := 7) rfl rfl rfl rfl (by kernel_rfl) (ld Tryd.underlying9 rfl rfl rfl) rfl ?_
                  refine Dx.pT (i := 8) rfl rfl rfl rfl (by kernel_rfl) (fa' fo26_0 rfl) rfl ?_
                  refine Dx.rT (i := 9) rfl rfl rfl rfl (by kernel_rfl) (ld Tryd.underlying9 rfl rfl rfl) rfl ?_
                  refine Dx.pT (i := 10) rfl rfl rfl rfl (by kernel_rfl) (leqS rfl rfl) rfl ?_
                  refine Dx.p (i := 11) rfl (by kernel_rfl) (pickT rfl rfl) rfl ?_
                  refine Dx.p (i := 12) rfl (by kernel_rfl) (eqB Tryd.underlying4 rfl rfl) rfl ?_
                  refine Dx.p (i := 13) rfl (by kernel_rfl) (mv rfl) rfl ?_
                  refine Xx.ifB (t := 66) rfl (fun h32 => ?_) (fun h32 => ?_)
                  · skip
                    refine Dx.rT (i := 14) rfl rfl rfl rfl (by kernel_rfl) (ldA Tryd.underlying26 rfl sz26 rfl (Cells.own (n := 2) PickB.eq rfl) rfl) rfl ?_
                    refine Dx.one (i := 15) (by kernel_rfl) ?_
                    refine Dstep.oT (i := 15) rfl rfl rfl rfl (Ox.cb rfl rfl rfl (Empty_ct _ _ _)) rfl (fun v B' H' hΦ hB => ?_)
                    obtain ⟨rfl, rfl, rfl⟩ := hΦ; clear hB
                    refine ⟨JOk.edge (JOk.yes (JOk.yes (JOk.yes (JOk.yes (JOk.top) (ldA Tryd.underlying26 rfl sz26 rfl (Cells.own (n := 2) PickB.eq rfl) rfl)) (ld Tryd.underlying9 rfl rfl rfl)) (ld Tryd.underlying9 rfl rfl rfl)) (ld Tryd.underlying9 rfl rfl rfl)) (by kernel_rfl), ?_⟩
                    refine Dx.pT (i := 16) rfl rfl rfl rfl (by kernel_rfl) (mv rfl) rfl ?_
                    refine Xx.ifB (t := 69) rfl (fun h33 => ?_) (fun h33 => ?_)
                    · skip
                      refine Dx.pF (i := 17) rfl (fun _ h => by cases h) rfl rfl rfl (by kernel_rfl) rfl ?_
                      refine Dx.pF (i := 18) rfl (fun _ h => by cases h) rfl rfl rfl (by kernel_rfl) rfl ?_
                      refine Dx.pF (i := 19) rfl (fun _ h => by cases h) rfl rfl rfl (by kernel_rfl) rfl ?_
                      refine Dx.pF (i := 20) rfl (fun _ h => by cases h) rfl rfl rfl (by kernel_rfl) rfl ?_
                      refine Dx.pT (i := 21) rfl rfl rfl rfl (by kernel_rfl) (pickT rfl rfl) rfl ?_
                      refine Dx.p (i := 22) rfl (by kernel_rfl) (pickT rfl rfl) rfl ?_
                      refine Dx.p (i := 23) rfl (by kernel_rfl) (asg rfl) rfl ?_
                      refine Dx.done (by kernel_rfl) ?_
                      refine Xx.tn (k30 _ _ _ _ ?_)
                      refine Cx.ret ?_
                      refine Xx.dropB b8 (Xx.dropB b4 (Xx.dropB b3 ?_))
                      first | exact Xx.rB1 rfl rfl rfl hB1 rfl | exact Xx.rB1 rfl rfl (congrArg Value.bool (has_low hE2)) hB1 rfl
                    · skip
                      have hE2 := h33
                      refine Dx.rT (i := 17) rfl rfl rfl rfl (by kernel_rfl) (ldA Tryd.underlying26 rfl sz26 rfl (Cells.own (n := 2) PickB.eq rfl) rfl) rfl ?_
                      refine Dx.pT (i := 18) rfl rfl rfl rfl (by kernel_rfl) (fa' fo26_0 rfl) rfl ?_
                      refine Dx.rT (i := 19) rfl rfl rfl rfl (by kernel_rfl) (ld Tryd.underlying9 rfl rfl rfl) rfl ?_
                      refine Dx.one (i := 20) (by kernel_rfl) ?_
                      refine Dstep.oT (i := 20) rfl rfl rfl rfl (Ox.cb rfl rfl rfl (Has_ct _ _ _ _)) rfl (fun v B' H' hΦ hB => ?_)
                      obtain ⟨rfl, rfl, rfl⟩ := hΦ; clear hB
                      refine ⟨JOk.edge (JOk.edge (JOk.yes (JOk.yes (JOk.yes (JOk.yes (JOk.yes (JOk.top) (ldA Tryd.underlying26 rfl sz26 rfl (Cells.own (n := 2) PickB.eq rfl) rfl)) (ld Tryd.underlying9 rfl rfl rfl)) (ld Tryd.underlying9 rfl rfl rfl)) (ld Tryd.underlying9 rfl rfl rfl)) (ldA Tryd.underlying26 rfl sz26 rfl (Cells.own (n := 2) PickB.eq rfl) rfl)) (by kernel_rfl)) (by kernel_rfl), ?_⟩
                      refine Dx.pT (i := 21) rfl rfl rfl rfl (by kernel_rfl) (pickF rfl rfl) rfl ?_
                      refine Dx.p (i := 22) rfl (by kernel_rfl) (pickT rfl rfl) rfl ?_
                      refine Dx.p (i := 23) rfl (by kernel_rfl) (asg rfl) rfl ?_
                      refine Dx.done (by kernel_rfl) ?_
                      refine Xx.tn (k30 _ _ _ _ ?_)
                      refine Cx.ret ?_
                      refine Xx.dropB b8 (Xx.dropB b4 (Xx.dropB b3 ?_))
                      first | exact Xx.rB1 rfl rfl rfl hB1 rfl | exact Xx.rB1 rfl rfl (congrArg Value.bool (has_low hE2)) hB1 rfl
                  · skip
                    exact absurd h32 (by simp [emptyB, z8])
                · skip
                  have z8 := h31
                  refine Dx.pF (i := 6) rfl (fun _ h => by cases h) rfl rfl rfl (by kernel_rfl) rfl ?_
                  refine Dx.pF (i := 7) rfl (fun _ h => by cases h) rfl rfl rfl (by kernel_rfl) rfl ?_
                  refine Dx.pF (i := 8) rfl (fun _ h => by cases h) rfl rfl rfl (by kernel_rfl) rfl ?_
                  refine Dx.pF (i := 9) rfl (fun _ h => by cases h) rfl rfl rfl (by kernel_rfl) rfl ?_
                  refine Dx.pF (i := 10) rfl (fun _ h => by cases h) rfl rfl rfl (by kernel_rfl) rfl ?_
                  refine Dx.p (i := 11) rfl (by kernel_rfl) (pickF rfl rfl) rfl ?_
                  refine Dx.p (i := 12) rfl (by kernel_rfl) (eqB Tryd.underlying4 rfl rfl) rfl ?_
                  refine Dx.p (i := 13) rfl (by kernel_rfl) (mv rfl) rfl ?_
                  refine Xx.ifB (t := 66) rfl (fun h34 => ?_) (fun h34 => ?_)
                  · skip
                    refine Dx.rT (i := 14) rfl rfl rfl rfl (by kernel_rfl) (ldA Tryd.underlying26 rfl sz26 rfl (Cells.own (n := 2) PickB.eq rfl) rfl) rfl ?_
                    refine Dx.one (i := 15) (by kernel_rfl) ?_
                    refine Dstep.oT (i := 15) rfl rfl rfl rfl (Ox.cb rfl rfl rfl (Empty_ct _ _ _)) rfl (fun v B' H' hΦ hB => ?_)
                    obtain ⟨rfl, rfl, rfl⟩ := hΦ; clear hB
                    refine ⟨JOk.edge (JOk.yes (JOk.yes (JOk.top) (ldA Tryd.underlying26 rfl sz26 rfl (Cells.own (n := 2) PickB.eq rfl) rfl)) (ld Tryd.underlying9 rfl rfl rfl)) (by kernel_rfl), ?_⟩
                    refine Dx.pT (i := 16) rfl rfl rfl rfl (by kernel_rfl) (mv rfl) rfl ?_
                    refine Xx.ifB (t := 69) rfl (fun h35 => ?_) (fun h35 => ?_)
                    · skip
                      refine Dx.pF (i := 17) rfl (fun _ h => by cases h) rfl rfl rfl (by kernel_rfl) rfl ?_
                      refine Dx.pF (i := 18) rfl (fun _ h => by cases h) rfl rfl rfl (by kernel_rfl) rfl ?_
                      refine Dx.pF (i := 19) rfl (fun _ h => by cases h) rfl rfl rfl (by kernel_rfl) rfl ?_
                      refine Dx.pF (i := 20) rfl (fun _ h => by cases h) rfl rfl rfl (by kernel_rfl) rfl ?_
                      refine Dx.pT (i := 21) rfl rfl rfl rfl (by kernel_rfl) (pickT rfl rfl) rfl ?_
                      refine Dx.p (i := 22) rfl (by kernel_rfl) (pickT rfl rfl) rfl ?_
                      refine Dx.p (i := 23) rfl (by kernel_rfl) (asg rfl) rfl ?_
                      refine Dx.done (by kernel_rfl) ?_
                      refine Xx.tn (k30 _ _ _ _ ?_)
                      refine Cx.ret ?_
                      refine Xx.dropB b8 (Xx.dropB b4 (Xx.dropB b3 ?_))
                      first | exact Xx.rB1 rfl rfl rfl hB1 rfl | exact Xx.rB1 rfl rfl (congrArg Value.bool (has_low hE2)) hB1 rfl
                    · skip
                      have hE2 := h35
                      refine Dx.rT (i := 17) rfl rfl rfl rfl (by kernel_rfl) (ldA Tryd.underlying26 rfl sz26 rfl (Cells.own (n := 2) PickB.eq rfl) rfl) rfl ?_
                      refine Dx.pT (i := 18) rfl rfl rfl rfl (by kernel_rfl) (fa' fo26_0 rfl) rfl ?_
                      refine Dx.rT (i := 19) rfl rfl rfl rfl (by kernel_rfl) (ld Tryd.underlying9 rfl rfl rfl) rfl ?_
                      refine Dx.one (i := 20) (by kernel_rfl) ?_
                      refine Dstep.oT (i := 20) rfl rfl rfl rfl (Ox.cb rfl rfl rfl (Has_ct _ _ _ _)) rfl (fun v B' H' hΦ hB => ?_)
                      obtain ⟨rfl, rfl, rfl⟩ := hΦ; clear hB
                      refine ⟨JOk.edge (JOk.edge (JOk.yes (JOk.yes (JOk.yes (JOk.top) (ldA Tryd.underlying26 rfl sz26 rfl (Cells.own (n := 2) PickB.eq rfl) rfl)) (ld Tryd.underlying9 rfl rfl rfl)) (ldA Tryd.underlying26 rfl sz26 rfl (Cells.own (n := 2) PickB.eq rfl) rfl)) (by kernel_rfl)) (by kernel_rfl), ?_⟩
                      refine Dx.pT (i := 21) rfl rfl rfl rfl (by kernel_rfl) (pickF rfl rfl) rfl ?_
                      refine Dx.p (i := 22) rfl (by kernel_rfl) (pickT rfl rfl) rfl ?_
                      refine Dx.p (i := 23) rfl (by kernel_rfl) (asg rfl) rfl ?_
                      refine Dx.done (by kernel_rfl) ?_
                      refine Xx.tn (k30 _ _ _ _ ?_)
                      refine Cx.ret ?_
                      refine Xx.dropB b8 (Xx.dropB b4 (Xx.dropB b3 ?_))
                      first | exact Xx.rB1 rfl rfl rfl hB1 rfl | exact Xx.rB1 rfl rfl (congrArg Value.bool (has_low hE2)) hB1 rfl
                  · skip
                    exact absurd h34 (by simp [emptyB, z8])
          · skip
            refine Dx.pF (i := 29) rfl (fun _ h => by cases h) rfl rfl rfl (by kernel_rfl) rfl ?_
            refine Dx.pF (i := 30) rfl (fun _ h => by cases h) rfl rfl rfl (by kernel_rfl) rfl ?_
            refine Dx.pF (i := 31) rfl (fun _ h => by cases h) rfl rfl rfl (by kernel_rfl) rfl ?_
            refine Dx.pT (i := 32) rfl rfl rfl rfl (by kernel_rfl) (pickF rfl rfl) rfl ?_
            refine Dx.p (i := 33) rfl (by kernel_rfl) (pickF rfl rfl) rfl ?_
            refine Dx.p (i := 34) rfl (by kernel_rfl) (mv rfl) rfl ?_
            refine Dx.rT (i := 36) rfl rfl rfl rfl (by kernel_rfl) (ldB Tryd.underlying9 rfl rfl hbk rfl) rfl ?_
            refine Dx.one (i := 35) (by kernel_rfl) ?_
            refine Dstep.oT (i := 35) rfl rfl rfl rfl (Ox.cb rfl rfl rfl (All_ct _)) rfl (fun v B' H' hΦ hB => ?_)
            obtain ⟨rfl, rfl, rfl⟩ := hΦ; clear hB
            refine ⟨JOk.yes (JOk.yes (JOk.yes (JOk.yes (JOk.yes (JOk.yes (JOk.yes (JOk.yes (JOk.top) (ldA Tryd.underlying26 rfl sz26 rfl (Cells.own (n := 2) PickB.eq rfl) rfl)) (ldB Tryd.underlying9 rfl rfl hbk rfl)) (ldA Tryd.underlying26 rfl sz26 rfl (Cells.own (n := 2) PickB.eq rfl) rfl)) (ldA Tryd.underlying26 rfl sz26 rfl (Cells.own (n := 2) PickB.eq rfl) rfl)) (ldB Tryd.underlying9 rfl rfl hbk rfl)) (ldA Tryd.underlying26 rfl sz26 rfl (Cells.own (n := 2) PickB.eq rfl) rfl)) (ldA Tryd.underlying26 rfl sz26 rfl (Cells.own (n := 2) PickB.eq rfl) rfl)) (ldB Tryd.underlying9 rfl rfl hbk rfl), ?_⟩
            refine Dx.one (i := 37) (by kernel_rfl) ?_
            refine Dstep.oT (i := 37) rfl rfl rfl rfl (Ox.cb rfl rfl rfl (Has_ct _ _ _ _)) rfl (fun v B' H' hΦ hB => ?_)
            obtain ⟨rfl, rfl, rfl⟩ := hΦ; clear hB
            refine ⟨JOk.edge (JOk.yes (JOk.yes (JOk.yes (JOk.yes (JOk.yes (JOk.yes (JOk.yes (JOk.top) (ldA Tryd.underlying26 rfl sz26 rfl (Cells.own (n := 2) PickB.eq rfl) rfl)) (ldB Tryd.underlying9 rfl rfl hbk rfl)) (ldA Tryd.underlying26 rfl sz26 rfl (Cells.own (n := 2) PickB.eq rfl) rfl)) (ldA Tryd.underlying26 rfl sz26 rfl (Cells.own (n := 2) PickB.eq rfl) rfl)) (ldB Tryd.underlying9 rfl rfl hbk rfl)) (ldA Tryd.underlying26 rfl sz26 rfl (Cells.own (n := 2) PickB.eq rfl) rfl)) (ldA Tryd.underlying26 rfl sz26 rfl (Cells.own (n := 2) PickB.eq rfl) rfl)) (by kernel_rfl), ?_⟩
            refine Dx.pT (i := 38) rfl rfl rfl rfl (by kernel_rfl) (not' rfl) rfl ?_
            refine Dx.p (i := 39) rfl (by kernel_rfl) (pickF rfl rfl) rfl ?_
            refine Dx.done (by kernel_rfl) ?_
            refine Xx.tn (k5 _ _ _ _ ?_)
            refine Cx.condB rfl (fun h36 => ?_) (fun h36 => ?_)
            · skip
              exact absurd h36 (by simp [hasB, bless_nil])
            · skip
              refine Cx.skip ?_
              refine Xx.tn (k4 _ _ _ _ ?_)
              refine Cx.seq (fun K37 k37 => ?_)
              refine Cx.drawn (by kernel_rfl) ?_
              refine Dx.r (i := 0) rfl (by kernel_rfl) (ldA Tryd.underlying26 rfl sz26 rfl (Cells.own (n := 2) PickB.eq rfl) rfl) rfl ?_
              refine Dx.p (i := 2) rfl (by kernel_rfl) (fa' fo26_1 rfl) rfl ?_
              refine Dx.r (i := 3) rfl (by kernel_rfl) (ld Tryd.underlying9 rfl rfl rfl) rfl ?_
              refine Dx.p (i := 4) rfl (by kernel_rfl) (neS rfl rfl) rfl ?_
              refine Dx.one (i := 1) (by kernel_rfl) ?_
              refine Dstep.o (i := 1) rfl (Ox.cb rfl rfl rfl (Empty_ct _ _ _)) rfl (fun v B' H' hΦ hB => ?_)
              obtain ⟨rfl, rfl, rfl⟩ := hΦ; clear hB
              refine ⟨JOk.yes (JOk.edge (JOk.top) (by kernel_rfl)) (ld Tryd.underlying9 rfl rfl rfl), ?_⟩
              refine Dx.p (i := 5) rfl (by kernel_rfl) (mv rfl) rfl ?_
              refine Xx.ifN (t := 58) rfl (fun h38 => ?_) (fun h38 => ?_)
              · skip
                have z8 := h38
                refine Dx.pT (i := 6) rfl rfl rfl rfl (by kernel_rfl) (fa' fo26_1 rfl) rfl ?_
                refine Dx.rT (i := 7) rfl rfl rfl rfl (by kernel_rfl) (ld Tryd.underlying9 rfl rfl rfl) rfl ?_
                refine Dx.pT (i := 8) rfl rfl rfl rfl (by kernel_rfl) (fa' fo26_0 rfl) rfl ?_
                refine Dx.rT (i := 9) rfl rfl rfl rfl (by kernel_rfl) (ld Tryd.underlying9 rfl rfl rfl) rfl ?_
                refine Dx.pT (i := 10) rfl rfl rfl rfl (by kernel_rfl) (leqS rfl rfl) rfl ?_
                refine Dx.p (i := 11) rfl (by kernel_rfl) (pickT rfl rfl) rfl ?_
                refine Dx.p (i := 12) rfl (by kernel_rfl) (eqB Tryd.underlying4 rfl rfl) rfl ?_
                refine Dx.p (i := 13) rfl (by kernel_rfl) (mv rfl) rfl ?_
                refine Xx.ifB (t := 66) rfl (fun h39 => ?_) (fun h39 => ?_)
                · skip
                  refine Dx.rT (i := 14) rfl rfl rfl rfl (by kernel_rfl) (ldA Tryd.underlying26 rfl sz26 rfl (Cells.own (n := 2) PickB.eq rfl) rfl) rfl ?_
                  refine Dx.one (i := 15) (by kernel_rfl) ?_
                  refine Dstep.oT (i := 15) rfl rfl rfl rfl (Ox.cb rfl rfl rfl (Empty_ct _ _ _)) rfl (fun v B' H' hΦ hB => ?_)
                  obtain ⟨rfl, rfl, rfl⟩ := hΦ; clear hB
                  refine ⟨JOk.edge (JOk.yes (JOk.yes (JOk.yes (JOk.yes (JOk.top) (ldA Tryd.underlying26 rfl sz26 rfl (Cells.own (n := 2) PickB.eq rfl) rfl)) (ld Tryd.underlying9 rfl rfl rfl)) (ld Tryd.underlying9 rfl rfl rfl)) (ld Tryd.underlying9 rfl rfl rfl)) (by kernel_rfl), ?_⟩
                  refine Dx.pT (i := 16) rfl rfl rfl rfl (by kernel_rfl) (mv rfl) rfl ?_
                  refine Xx.ifB (t := 69) rfl (fun h40 => ?_) (fun h40 => ?_)
                  · skip
                    refine Dx.pF (i := 17) rfl (fun _ h => by cases h) rfl rfl rfl (by kernel_rfl) rfl ?_
                    refine Dx.pF (i := 18) rfl (fun _ h => by cases h) rfl rfl rfl (by kernel_rfl) rfl ?_
                    refine Dx.pF (i := 19) rfl (fun _ h => by cases h) rfl rfl rfl (by kernel_rfl) rfl ?_
                    refine Dx.pF (i := 20) rfl (fun _ h => by cases h) rfl rfl rfl (by kernel_rfl) rfl ?_
                    refine Dx.pT (i := 21) rfl rfl rfl rfl (by kernel_rfl) (pickT rfl rfl) rfl ?_
                    refine Dx.p (i := 22) rfl (by kernel_rfl) (pickT rfl rfl) rfl ?_
                    refine Dx.p (i := 23) rfl (by kernel_rfl) (asg rfl) rfl ?_
                    refine Dx.done (by kernel_rfl) ?_
                    refine Xx.tn (k37 _ _ _ _ ?_)
                    refine Cx.ret ?_
                    refine Xx.dropB b8 (Xx.dropB b4 (Xx.dropB b3 ?_))
                    first | exact Xx.rB1 rfl rfl rfl hB1 rfl | exact Xx.rB1 rfl rfl (congrArg Value.bool (has_low hE2)) hB1 rfl
                  · skip
                    have hE2 := h40
                    refine Dx.rT (i := 17) rfl rfl rfl rfl (by kernel_rfl) (ldA Tryd.underlying26 rfl sz26 rfl (Cells.own (n := 2) PickB.eq rfl) rfl) rfl ?_
                    refine Dx.pT (i := 18) rfl rfl rfl rfl (by kernel_rfl) (fa' fo26_0 rfl) rfl ?_
                    refine Dx.rT (i := 19) rfl rfl rfl rfl (by kernel_rfl) (ld Tryd.underlying9 rfl rfl rfl) rfl ?_
                    refine Dx.one (i := 20) (by kernel_rfl) ?_
                    refine Dstep.oT (i := 20) rfl rfl rfl rfl (Ox.cb rfl rfl rfl (Has_ct _ _ _ _)) rfl (fun v B' H' hΦ hB => ?_)
                    obtain ⟨rfl, rfl, rfl⟩ := hΦ; clear hB
                    refine ⟨JOk.edge (JOk.edge (JOk.yes (JOk.yes (JOk.yes (JOk.yes (JOk.yes (JOk.top) (ldA Tryd.underlying26 rfl sz26 rfl (Cells.own (n := 2) PickB.eq rfl) rfl)) (ld Tryd.underlying9 rfl rfl rfl)) (ld Tryd.underlying9 rfl rfl rfl)) (ld Tryd.underlying9 rfl rfl rfl)) (ldA Tryd.underlying26 rfl sz26 rfl (Cells.own (n := 2) PickB.eq rfl) rfl)) (by kernel_rfl)) (by kernel_rfl), ?_⟩
                    refine Dx.pT (i := 21) rfl rfl rfl rfl (by kernel_rfl) (pickF rfl rfl) rfl ?_
                    refine Dx.p (i := 22) rfl (by kernel_rfl) (pickT rfl rfl) rfl ?_
                    refine Dx.p (i := 23) rfl (by kernel_rfl) (asg rfl) rfl ?_
                    refine Dx.done (by kernel_rfl) ?_
                    refine Xx.tn (k37 _ _ _ _ ?_)
                    refine Cx.ret ?_
                    refine Xx.dropB b8 (Xx.dropB b4 (Xx.dropB b3 ?_))
                    first | exact Xx.rB1 rfl rfl rfl hB1 rfl | exact Xx.rB1 rfl rfl (congrArg Value.bool (has_low hE2)) hB1 rfl
                · skip
                  exact absurd h39 (by simp [emptyB, z8])
              · skip
                have z8 := h38
                refine Dx.pF (i := 6) rfl (fun _ h => by cases h) rfl rfl rfl (by kernel_rfl) rfl ?_
                refine Dx.pF (i := 7) rfl (fun _ h => by cases h) rfl rfl rfl (by kernel_rfl) rfl ?_
                refine Dx.pF (i := 8) rfl (fun _ h => by cases h) rfl rfl rfl (by kernel_rfl) rfl ?_
                refine Dx.pF (i := 9) rfl (fun _ h => by cases h) rfl rfl rfl (by kernel_rfl) rfl ?_
                refine Dx.pF (i := 10) rfl (fun _ h => by cases h) rfl rfl rfl (by kernel_rfl) rfl ?_
                refine Dx.p (i := 11) rfl (by kernel_rfl) (pickF rfl rfl) rfl ?_
                refine Dx.p (i := 12) rfl (by kernel_rfl) (eqB Tryd.underlying4 rfl rfl) rfl ?_
                refine Dx.p (i := 13) rfl (by kernel_rfl) (mv rfl) rfl ?_
                refine Xx.ifB (t := 66) rfl (fun h41 => ?_) (fun h41 => ?_)
                · skip
                  refine Dx.rT (i := 14) rfl rfl rfl rfl (by kernel_rfl) (ldA Tryd.underlying26 rfl sz26 rfl (Cells.own (n := 2) PickB.eq rfl) rfl) rfl ?_
                  refine Dx.one (i := 15) (by kernel_rfl) ?_
                  refine Dstep.oT (i := 15) rfl rfl rfl rfl (Ox.cb rfl rfl rfl (Empty_ct _ _ _)) rfl (fun v B' H' hΦ hB => ?_)
                  obtain ⟨rfl, rfl, rfl⟩ := hΦ; clear hB
                  refine ⟨JOk.edge (JOk.yes (JOk.yes (JOk.top) (ldA Tryd.underlying26 rfl sz26 rfl (Cells.own (n := 2) PickB.eq rfl) rfl)) (ld Tryd.underlying9 rfl rfl rfl)) (by kernel_rfl), ?_⟩
                  refine Dx.pT (i := 16) rfl rfl rfl rfl (by kernel_rfl) (mv rfl) rfl ?_
                  refine Xx.ifB (t := 69) rfl (fun h42 => ?_) (fun h42 => ?_)
                  · skip
                    refine Dx.pF (i := 17) rfl (fun _ h => by cases h) rfl rfl rfl (by kernel_rfl) rfl ?_
                    refine Dx.pF (i := 18) rfl (fun _ h => by cases h) rfl rfl rfl (by kernel_rfl) rfl ?_
                    refine Dx.pF (i := 19) rfl (fun _ h => by cases h) rfl rfl rfl (by kernel_rfl) rfl ?_
                    refine Dx.pF (i := 20) rfl (fun _ h => by cases h) rfl rfl rfl (by kernel_rfl) rfl ?_
                    refine Dx.pT (i := 21) rfl rfl rfl rfl (by kernel_rfl) (pickT rfl rfl) rfl ?_
                    refine Dx.p (i := 22) rfl (by kernel_rfl) (pickT rfl rfl) rfl ?_
                    refine Dx.p (i := 23) rfl (by kernel_rfl) (asg rfl) rfl ?_
                    refine Dx.done (by kernel_rfl) ?_
                    refine Xx.tn (k37 _ _ _ _ ?_)
                    refine Cx.ret ?_
                    refine Xx.dropB b8 (Xx.dropB b4 (Xx.dropB b3 ?_))
                    first | exact Xx.rB1 rfl rfl rfl hB1 rfl | exact Xx.rB1 rfl rfl (congrArg Value.bool (has_low hE2)) hB1 rfl
                  · skip
                    have hE2 := h42
                    refine Dx.rT (i := 17) rfl rfl rfl rfl (by kernel_rfl) (ldA Tryd.underlying26 rfl sz26 rfl (Cells.own (n := 2) PickB.eq rfl) rfl) rfl ?_
                    refine Dx.pT (i := 18) rfl rfl rfl rfl (by kernel_rfl) (fa' fo26_0 rfl) rfl ?_
                    refine Dx.rT (i := 19) rfl rfl rfl rfl (by kernel_rfl) (ld Tryd.underlying9 rfl rfl rfl) rfl ?_
                    refine Dx.one (i := 20) (by kernel_rfl) ?_
                    refine Dstep.oT (i := 20) rfl rfl rfl rfl (Ox.cb rfl rfl rfl (Has_ct _ _ _ _)) rfl (fun v B' H' hΦ hB => ?_)
                    obtain ⟨rfl, rfl, rfl⟩ := hΦ; clear hB
                    refine ⟨JOk.edge (JOk.edge (JOk.yes (JOk.yes (JOk.yes (JOk.top) (ldA Tryd.underlying26 rfl sz26 rfl (Cells.own (n := 2) PickB.eq rfl) rfl)) (ld Tryd.underlying9 rfl rfl rfl)) (ldA Tryd.underlying26 rfl sz26 rfl (Cells.own (n := 2) PickB.eq rfl) rfl)) (by kernel_rfl)) (by kernel_rfl), ?_⟩
                    refine Dx.pT (i := 21) rfl rfl rfl rfl (by kernel_rfl) (pickF rfl rfl) rfl ?_
                    refine Dx.p (i := 22) rfl (by kernel_rfl) (pickT rfl rfl) rfl ?_
                    refine Dx.p (i := 23) rfl (by kernel_rfl) (asg rfl) rfl ?_
                    refine Dx.done (by kernel_rfl) ?_
                    refine Xx.tn (k37 _ _ _ _ ?_)
                    refine Cx.ret ?_
                    refine Xx.dropB b8 (Xx.dropB b4 (Xx.dropB b3 ?_))
                    first | exact Xx.rB1 rfl rfl rfl hB1 rfl | exact Xx.rB1 rfl rfl (congrArg Value.bool (has_low hE2)) hB1 rfl
                · skip
                  exact absurd h41 (by simp [emptyB, z8])
end Ke3
end Go.Proofs.YtcoiejmlpinpbaaDoor
