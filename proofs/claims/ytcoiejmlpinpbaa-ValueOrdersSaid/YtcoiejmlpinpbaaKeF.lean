/-
  The order of values; what may be.
-/
import Derived.Test.YtcoiejmlpinpbaaProg
import Derived.Test.YtcoiejmlpinpbaaSlj
import Derived.Test.YtcoiejmlpinpbaaKeE
namespace Go.Proofs.Ytcoiejmlpinpbaa
open Go.SL Go.RowKit
set_option linter.unusedVariables false
set_option linter.unusedSimpArgs false
set_option maxRecDepth 100000
open Ke5 Ke6 Ke7 Ke8 Ke9 KeA KeB KeE
namespace KeF
theorem sz9 : (Try.prog.info? 9).map (·.size) = some 1 := by kernel_rfl
theorem sz53 : (Try.prog.info? 53).map (·.size) = some 6 := by kernel_rfl
theorem fo53_0 : FO Try.prog 53 0 0 1 false := FO.of Try.underlying53 rfl rfl (by kernel_rfl) Try.underlying3 rfl rfl
theorem fo53_1 : FO Try.prog 53 1 1 1 false := FO.of Try.underlying53 rfl rfl (by kernel_rfl) Try.underlying4 rfl rfl
theorem fo53_2 : FO Try.prog 53 2 2 1 false := FO.of Try.underlying53 rfl rfl (by kernel_rfl) Try.underlying2 rfl rfl
theorem fo53_3 : FO Try.prog 53 3 3 1 false := FO.of Try.underlying53 rfl rfl (by kernel_rfl) Try.underlying9 rfl rfl
theorem fo53_4 : FO Try.prog 53 4 4 1 false := FO.of Try.underlying53 rfl rfl (by kernel_rfl) Try.underlying51 rfl rfl
theorem fo53_5 : FO Try.prog 53 5 5 1 false := FO.of Try.underlying53 rfl rfl (by kernel_rfl) Try.underlying22 rfl rfl

theorem bless_nil (x : List UInt8) : bless x [] = false := by cases x <;> rfl
theorem bless_cons (a b : UInt8) (x y : List UInt8) : bless (a :: x) (b :: y) = (decide (a < b) || (a == b && bless x y)) := rfl
theorem bless_app (p a b : List UInt8) : bless (p ++ a) (p ++ b) = bless a b := by
  induction p with
  | nil => rfl
  | cons c p ih => simp only [List.cons_append, bless_cons, ih]; simp

theorem bless_irrefl (a : List UInt8) : bless a a = false := by
  induction a with
  | nil => rfl
  | cons x a ih => rw [bless_cons, ih]; simp
theorem bless_total {a b : List UInt8} (h1 : bless a b = false) (h2 : bless b a = false) : a = b := by
  induction a generalizing b with
  | nil => cases b with
    | nil => rfl
    | cons y b => cases h1
  | cons x a ih =>
    cases b with
    | nil => cases h2
    | cons y b =>
      rw [bless_cons] at h1 h2
      simp at h1 h2
      have e : x = y := UInt8.le_antisymm h2.1 h1.1
      subst e
      rw [ih (by simpa using h1.2 rfl) (by simpa using h2.2 rfl)]
theorem bless_trans {a b c : List UInt8} (h1 : bless a b = true) (h2 : bless b c = true) : bless a c = true := by
  induction a generalizing b c with
  | nil => cases c with
    | nil => rw [bless_nil] at h2; cases h2
    | cons z c => rfl
  | cons x a ih =>
    cases b with
    | nil => cases h1
    | cons y b =>
      cases c with
      | nil => cases h2
      | cons z c =>
        rw [bless_cons] at *
        simp at *
        rcases h1 with h1 | ⟨rfl, h1⟩ <;> rcases h2 with h2 | ⟨rfl, h2⟩
        · exact .inl (UInt8.lt_trans h1 h2)
        · exact .inl h1
        · exact .inl h2
        · exact .inr ⟨rfl, ih h1 h2⟩

def cmpL (a b : List UInt8) : Ordering := if bless a b then .lt else if bless b a then .gt else .eq
def cmpI (m n : Int) : Ordering := if m < n then .lt else if n < m then .gt else .eq
def cmpB (a b : Bool) : Ordering := if !a && b then .lt else if !b && a then .gt else .eq
theorem cmpL_cons (x y : UInt8) (a b : List UInt8) : cmpL (x :: a) (y :: b) = if x < y then .lt else if y < x then .gt else cmpL a b := by
  unfold cmpL
  rw [bless_cons, bless_cons]
  by_cases h1 : x < y
  · simp [h1]
  · by_cases h2 : y < x
    · have hne : ¬ x = y := fun e => by subst e; exact absurd h2 (UInt8.lt_irrefl _)
      simp [h1, h2, hne]
    · have e : x = y := UInt8.le_antisymm (UInt8.not_lt.1 h2) (UInt8.not_lt.1 h1)
      subst e
      simp [h1]
/-- what may be, in pieces -/
theorem chk_ok {d : Nat} {v : V} {deep : Int} (h : checkF (d + 1) v deep = 0) : deep ≤ 8 ∧ 0 ≤ v.kind ∧ v.kind ≤ 6 ∧ BareP v ∧ v.parts.length ≤ 32 ∧ namesB v = true ∧ ∀ k (hk : k < v.parts.length), checkF d v.parts[k] (deep + 1) = 0 := by
  by_cases h1 : 8 < deep
  · rw [chk1 h1] at h; omega
  · by_cases h2 : v.kind < 0 ∨ 6 < v.kind ∨ ¬ BareP v
    · rw [chk2 h1 h2] at h; omega
    · by_cases h3 : 32 < v.parts.length
      · rw [chk3 h1 h2 h3] at h; omega
      · by_cases h4 : namesB v = false
        · rw [chk4 h1 h2 h3 h4] at h; omega
        · have h4' : namesB v = true := by simpa using h4
          refine ⟨by omega, ?_, ?_, ?_, by omega, h4', ?_⟩
          · exact Int.not_lt.1 fun z => h2 (.inl z)
          · exact Int.not_lt.1 fun z => h2 (.inr (.inl z))
          · exact Classical.byContradiction fun z => h2 (.inr (.inr z))
          · have key : ∀ k, k ≤ v.parts.length → ∀ j (hj : j < v.parts.length), j < k → checkF d v.parts[j] (deep + 1) = 0 := by
              intro k
              induction k with
              | zero => intro _ j hj hjk; omega
              | succ k ih =>
                intro hk j hj hjk
                by_cases e : j = k
                · subst e
                  exact Classical.byContradiction fun hn => by
                    rw [chk5 h1 h2 h3 h4' hj (fun i hi hij => ih (by omega) i hi hij) hn] at h
                    exact hn h
                · exact ih (by omega) j hj (by omega)
            exact fun k hk => key v.parts.length (Nat.le_refl _) k hk hk
theorem namesP {v : V} (h : namesB v = true) : NamesP v := by unfold namesB at h; exact (@decide_eq_true_iff _ (Classical.propDecidable _)).1 h
/-- the parts' names: none but in structs, and there as many as parts -/
theorem names_many {d : Nat} {v : V} {deep : Int} (h : checkF (d + 1) v deep = 0) : (v.kind = 6 → v.names.length = v.parts.length) ∧ (v.kind ≠ 6 → v.names.length = 0) := by
  obtain ⟨_, _, _, hb, _, hn, _⟩ := chk_ok h
  exact ⟨(namesP hn).2, fun z => hb.2.2.2.2.resolve_left z⟩
def lexO (f : Nat → Ordering) : Nat → Nat → Nat → Ordering
  | 0, 0, _ => .eq
  | 0, _ + 1, _ => .lt
  | _ + 1, 0, _ => .gt
  | c + 1, e + 1, i => (f i).then (lexO f c e (i + 1))
theorem lexO_swap {f g : Nat → Ordering} : ∀ c e i, (∀ j, i ≤ j → j < i + c → j < i + e → g j = (f j).swap) → lexO g e c i = (lexO f c e i).swap := by
  intro c
  induction c with
  | zero => intro e i h; cases e <;> rfl
  | succ c ih =>
    intro e i h
    cases e with
    | zero => rfl
    | succ e =>
      show (g i).then _ = ((f i).then _).swap
      rw [h i (by omega) (by omega) (by omega), ih e (i + 1) fun j a b c => h j (by omega) (by omega) (by omega)]
      cases f i <;> rfl
/-- The order of values. -/
def prtO (f : V → V → Ordering) (a b : V) (i : Nat) : Ordering := (if a.kind = 6 then cmpL (a.names.getD i []) (b.names.getD i []) else .eq).then (f (a.parts.getD i default) (b.parts.getD i default))
def cmpF : Nat → V → V → Ordering
  | 0, _, _ => .eq
  | d + 1, a, b => if a.kind ≠ b.kind then cmpI a.kind b.kind else if a.kind = 1 then cmpB a.b b.b else if a.kind = 2 then cmpI a.n b.n else if a.kind = 3 ∨ a.kind = 4 then cmpL a.s b.s
      else lexO (prtO (cmpF d) a b) a.parts.length b.parts.length 0
theorem cmpF_same {d : Nat} {a b : V} (hk : a.kind = b.kind) : cmpF (d + 1) a b = if a.kind = 1 then cmpB a.b b.b else if a.kind = 2 then cmpI a.n b.n else if a.kind = 3 ∨ a.kind = 4 then cmpL a.s b.s else lexO (prtO (cmpF d) a b) a.parts.length b.parts.length 0 := by
  conv => lhs; unfold cmpF
  rw [if_neg (by simp [hk])]
theorem cmpF_diff {d : Nat} {a b : V} (hk : ¬ a.kind = b.kind) : cmpF (d + 1) a b = cmpI a.kind b.kind := by unfold cmpF; rw [if_pos hk]
theorem cmpI_swap (m n : Int) : cmpI n m = (cmpI m n).swap := by
  unfold cmpI
  by_cases h1 : m < n
  · rw [if_neg (by omega), if_pos h1, if_pos h1]; rfl
  · by_cases h2 : n < m
    · rw [if_pos h2, if_neg h1, if_pos h2]; rfl
    · rw [if_neg h2, if_neg h1, if_neg h1, if_neg h2]; rfl
theorem cmpB_swap (m n : Bool) : cmpB n m = (cmpB m n).swap := by cases m <;> cases n <;> rfl
theorem bless_asymm {a b : List UInt8} (h : bless a b = true) : bless b a = false := by
  cases h2 : bless b a with
  | false => rfl
  | true => have := bless_trans h h2; rw [bless_irrefl] at this; cases this
theorem cmpL_swap (m n : List UInt8) : cmpL n m = (cmpL m n).swap := by
  unfold cmpL
  cases h1 : bless m n with
  | true => rw [bless_asymm h1]; rfl
  | false => cases bless n m <;> rfl
theorem cmpL_lt {a b : List UInt8} : cmpL a b = .lt ↔ bless a b = true := by
  unfold cmpL
  cases bless a b with
  | true => simp
  | false => cases bless b a <;> simp
theorem cmpL_eq {a b : List UInt8} : cmpL a b = .eq ↔ a = b := by
  unfold cmpL
  cases h1 : bless a b with
  | true => simp; exact fun e => by subst e; rw [bless_irrefl] at h1; cases h1
  | false =>
    cases h2 : bless b a with
    | true => simp; exact fun e => by subst e; rw [bless_irrefl] at h2; cases h2
    | false => simp; exact bless_total h1 h2
theorem cmpF_swap : ∀ (d : Nat) (a b : V), cmpF d b a = (cmpF d a b).swap := by
  intro d
  induction d with
  | zero => intro a b; rfl
  | succ d ih =>
    intro a b
    by_cases hk : a.kind = b.kind
    · rw [cmpF_same hk, cmpF_same hk.symm, hk]
      by_cases k1 : b.kind = 1
      · rw [if_pos k1, if_pos k1]; exact cmpB_swap _ _
      · rw [if_neg k1, if_neg k1]
        by_cases k2 : b.kind = 2
        · rw [if_pos k2, if_pos k2]; exact cmpI_swap _ _
        · rw [if_neg k2, if_neg k2]
          by_cases k3 : b.kind = 3 ∨ b.kind = 4
          · rw [if_pos k3, if_pos k3]; exact cmpL_swap _ _
          · rw [if_neg k3, if_neg k3]
            refine lexO_swap _ _ _ fun j _ _ _ => ?_
            unfold prtO
            rw [hk, ih]
            by_cases k6 : b.kind = 6
            · rw [if_pos k6, if_pos k6, cmpL_swap]
              cases cmpL (a.names.getD j []) (b.names.getD j []) <;> rfl
            · rw [if_neg k6, if_neg k6]; rfl
    · rw [cmpF_diff hk, cmpF_diff (fun e => hk e.symm)]; exact cmpI_swap _ _

theorem cmpI_lt {m n : Int} : cmpI m n = .lt ↔ m < n := by
  unfold cmpI
  by_cases h1 : m < n
  · simp [h1]
  · by_cases h2 : n < m <;> simp [h1, h2]
theorem lexO_step {f : Nat → Ordering} {n m i : Nat} (h1 : i < n) (h2 : i < m) : lexO f (n - i) (m - i) i = (f i).then (lexO f (n - (i + 1)) (m - (i + 1)) (i + 1)) := by
  obtain ⟨c, hc⟩ : ∃ c, n - i = c + 1 := ⟨n - i - 1, by omega⟩
  obtain ⟨e, he⟩ : ∃ e, m - i = e + 1 := ⟨m - i - 1, by omega⟩
  have hc2 : n - (i + 1) = c := by omega
  have he2 : m - (i + 1) = e := by omega
  rw [hc, he, hc2, he2]; rfl
theorem lexO_end {f : Nat → Ordering} {n m i : Nat} (h1 : i ≤ n) (h2 : i ≤ m) (h : i = n ∨ i = m) : (lexO f (n - i) (m - i) i = .lt ↔ n < m) := by
  rcases h with rfl | rfl
  · rw [Nat.sub_self]
    by_cases e : m = i
    · subst e; rw [Nat.sub_self]; simp [lexO]
    · obtain ⟨c, hc⟩ : ∃ c, m - i = c + 1 := ⟨m - i - 1, by omega⟩
      rw [hc]; simp [lexO]; omega
  · rw [Nat.sub_self]
    by_cases e : n = i
    · subst e; rw [Nat.sub_self]; simp [lexO]
    · obtain ⟨c, hc⟩ : ∃ c, n - i = c + 1 := ⟨n - i - 1, by omega⟩
      rw [hc]; simp [lexO]; omega
theorem swap_lt {o : Ordering} : o.swap = .lt ↔ o = .gt := by cases o <;> simp [Ordering.swap]

set_option maxHeartbeats 1000000 in
theorem Before_step (d : Nat) (ih : ∀ (a b : V) (deep : Int) (ca cb : List Value) (B : Frag), ValR B d a ca → ValR B d b cb → checkF d a deep = 0 → checkF d b deep = 0 → CtP Try.prog 33 [.agg ca.toArray, .agg cb.toArray] B (.bool (decide (cmpF d a b = .lt)))) (a b : V) (deep : Int) (ca cb : List Value) (B : Frag) (ha : ValR B (d + 1) a ca) (hb : ValR B (d + 1) b cb) (hoka : checkF (d + 1) a deep = 0) (hokb : checkF (d + 1) b deep = 0) : CtP Try.prog 33 [.agg ca.toArray, .agg cb.toArray] B (.bool (decide (cmpF (d + 1) a b = .lt))) := by
  obtain ⟨ham6, ham0⟩ := names_many hoka
  obtain ⟨hbm6, hbm0⟩ := names_many hokb
  obtain ⟨_, _, _, _, hal, _, hap⟩ := chk_ok hoka
  obtain ⟨_, _, _, _, hbl, _, hbp⟩ := chk_ok hokb
  obtain ⟨Ap, cp, An, cn, rfl, ⟨hsl, hn1, hn2, hcn, hcp⟩, hpl, hnl, hns, hnx, hps⟩ := ha
  obtain ⟨Ap2, cp2, An2, cn2, rfl, ⟨hsl2, hn12, hn22, hcn2, hcp2⟩, hpl2, hnl2, hns2, hnx2, hps2⟩ := hb
  refine CtB.of_body Try.func33 rfl (nt := 136) rfl (by kernel_rfl) rfl ?_
  intro N0 w0 R
  refine Cx.seq (fun K1 k1 => ?_)
  refine Cx.region ?_
  refine Lx.new (boxA rfl) rfl (fun b2 => ?_)
  refine Lx.new (boxA rfl) rfl (fun b3 => ?_)
  refine Lx.y (asg rfl) rfl ?_
  refine Lx.nil ?_
  refine Xx.tn (k1 _ _ _ _ ?_)
  refine Cx.seq (fun K2 k2 => ?_)
  refine Cx.seq (fun K3 k3 => ?_)
  refine Cx.region ?_
  refine Lx.y (fa' fo53_0 rfl) rfl ?_
  refine Lx.y (ld Try.underlying3 rfl rfl rfl) rfl ?_
  refine Lx.y (fa' fo53_0 rfl) rfl ?_
  refine Lx.y (ld Try.underlying3 rfl rfl rfl) rfl ?_
  refine Lx.y (neI rfl rfl) rfl ?_
  refine Lx.nil ?_
  refine Xx.tn (k3 _ _ _ _ ?_)
  refine Cx.condN rfl (fun h4 => ?_) (fun h4 => ?_)
  · skip
    have hr : decide (a.kind < b.kind) = decide (cmpF (d + 1) a b = .lt) := decide_eq_decide.2 (by rw [cmpF_diff h4]; exact cmpI_lt.symm)
    refine Cx.seq (fun K5 k5 => ?_)
    refine Cx.region ?_
    refine Lx.y (fa' fo53_0 rfl) rfl ?_
    refine Lx.y (ld Try.underlying3 rfl rfl rfl) rfl ?_
    refine Lx.y (fa' fo53_0 rfl) rfl ?_
    refine Lx.y (ld Try.underlying3 rfl rfl rfl) rfl ?_
    refine Lx.y (lss rfl rfl) rfl ?_
    refine Lx.y (asg rfl) rfl ?_
    refine Lx.nil ?_
    refine Xx.tn (k5 _ _ _ _ ?_)
    refine Cx.ret ?_
    refine Xx.tr ?_
    exact Xx.dropB b2 (Xx.dropB b3 (Xx.rB1 rfl rfl ⟨congrArg Value.bool hr, rfl⟩ (Frag.le_refl _) rfl))
  · skip
    have zk : a.kind = b.kind := h4
    refine Cx.skip ?_
    refine Xx.tn (k2 _ _ _ _ ?_)
    refine Cx.seq (fun K6 k6 => ?_)
    refine Cx.seq (fun K7 k7 => ?_)
    refine Cx.region ?_
    refine Lx.y (fa' fo53_0 rfl) rfl ?_
    refine Lx.y (ld Try.underlying3 rfl rfl rfl) rfl ?_
    refine Lx.nil ?_
    refine Xx.tn (k7 _ _ _ _ ?_)
    refine Cx.block ?_
    refine Cx.seq (fun K8 k8 => ?_)
    refine Cx.region ?_
    refine Lx.y (eqI rfl rfl) rfl ?_
    refine Lx.y (asg rfl) rfl ?_
    refine Lx.nil ?_
    refine Xx.tn (k8 _ _ _ _ ?_)
    refine Cx.condD rfl (fun h9 => ?_) (fun h9 => ?_)
    · skip
      have z1 : a.kind = 1 := h9
      refine Cx.seq (fun K10 k10 => ?_)
      refine Cx.region ?_
      refine Lx.y (fa' fo53_1 rfl) rfl ?_
      refine Lx.y (ld Try.underlying4 rfl rfl rfl) rfl ?_
      refine Lx.y (not' rfl) rfl ?_
      refine Lx.y (mv rfl) rfl ?_
      refine Xx.ifB (t := 23) rfl (fun h11 => ?_) (fun h11 => ?_)
      · skip
        have hr : b.b = decide (cmpF (d + 1) a b = .lt) := by
          rw [cmpF_same zk, if_pos z1]
          have hq : a.b = false := by simpa using h11
          rw [hq]; cases b.b <;> rfl
        refine Lx.gT rfl rfl rfl ?_
        refine Lx.y (fa' fo53_1 rfl) rfl ?_
        refine Lx.gT rfl rfl rfl ?_
        refine Lx.y (ld Try.underlying4 rfl rfl rfl) rfl ?_
        refine Lx.y (pickT rfl rfl) rfl ?_
        refine Lx.y (asg rfl) rfl ?_
        refine Lx.nil ?_
        refine Xx.tn (k10 _ _ _ _ ?_)
        refine Cx.ret ?_
        refine Xx.br ?_
        refine Xx.tr ?_
        exact Xx.dropB b2 (Xx.dropB b3 (Xx.rB1 rfl rfl ⟨congrArg Value.bool hr, rfl⟩ (Frag.le_refl _) rfl))
      · skip
        have hr : false = decide (cmpF (d + 1) a b = .lt) := by
          rw [cmpF_same zk, if_pos z1]
          have hq : a.b = true := by simpa using h11
          rw [hq]; cases b.b <;> rfl
        refine Lx.gF rfl rfl rfl rfl ?_
        refine Lx.gF rfl rfl rfl rfl ?_
        refine Lx.y (pickF rfl rfl) rfl ?_
        refine Lx.y (asg rfl) rfl ?_
        refine Lx.nil ?_
        refine Xx.tn (k10 _ _ _ _ ?_)
        refine Cx.ret ?_
        refine Xx.br ?_
        refine Xx.tr ?_
        exact Xx.dropB b2 (Xx.dropB b3 (Xx.rB1 rfl rfl ⟨congrArg Value.bool hr, rfl⟩ (Frag.le_refl _) rfl))
    · skip
      have z1 : ¬ a.kind = 1 := h9
      refine Cx.seq (fun K12 k12 => ?_)
      refine Cx.region ?_
      refine Lx.y (eqI rfl rfl) rfl ?_
      refine Lx.y (asg rfl) rfl ?_
      refine Lx.nil ?_
      refine Xx.tn (k12 _ _ _ _ ?_)
      refine Cx.condD rfl (fun h13 => ?_) (fun h13 => ?_)
      · skip
        have z2 : a.kind = 2 := h13
        have hr : decide (a.n < b.n) = decide (cmpF (d + 1) a b = .lt) := decide_eq_decide.2 (by rw [cmpF_same zk, if_neg z1, if_pos z2]; exact cmpI_lt.symm)
        refine Cx.seq (fun K14 k14 => ?_)
        refine Cx.region ?_
        refine Lx.y (fa' fo53_2 rfl) rfl ?_
        refine Lx.y (ld Try.underlying2 rfl rfl rfl) rfl ?_
        refine Lx.y (fa' fo53_2 rfl) rfl ?_
        refine Lx.y (ld Try.underlying2 rfl rfl rfl) rfl ?_
        refine Lx.y (lss rfl rfl) rfl ?_
        refine Lx.y (asg rfl) rfl ?_
        refine Lx.nil ?_
        refine Xx.tn (k14 _ _ _ _ ?_)
        refine Cx.ret ?_
        refine Xx.br ?_
        refine Xx.tr ?_
        exact Xx.dropB b2 (Xx.dropB b3 (Xx.rB1 rfl rfl ⟨congrArg Value.bool hr, rfl⟩ (Frag.le_refl _) rfl))
      · skip
        have z2 : ¬ a.kind = 2 := h13
        refine Cx.cutK (ds' := []) (Sub.cons (s := 0) rfl (Sub.cons (s := 1) rfl (Sub.cons (s := 2) rfl (Sub.cons (s := 3) rfl (Sub.cons (s := 4) rfl (Sub.cons (s := 6) rfl (Sub.cons (s := 7) rfl (Sub.cons (s := 8) rfl (Sub.cons (s := 9) rfl (Sub.cons (s := 10) rfl (Sub.cons (s := 16) rfl (Sub.cons (s := 17) rfl (Sub.cons (s := 18) rfl (Sub.cons (s := 19) rfl (Sub.cons (s := 27) rfl (Sub.cons (s := 28) rfl (Sub.nil _))))))))))))))))) (fun ρ' B' H' => ρ' = [(34, .bool (decide (a.kind = 3 ∨ a.kind = 4)))] ∧ B = B' ∧ row b3 53 (vcs b Ap2 cp2 An2 cn2) * (row b2 53 (vcs a Ap cp An cn) * R) = H') ?_ ?_
        · skip
          refine Cx.seq (fun K15 k15 => ?_)
          refine Cx.region ?_
          refine Lx.y (eqI rfl rfl) rfl ?_
          refine Lx.y (asg rfl) rfl ?_
          refine Lx.nil ?_
          refine Xx.tn (k15 _ _ _ _ ?_)
          refine Cx.condD rfl (fun h16 => ?_) (fun h16 => ?_)
          · skip
            have z3 := h16
            refine Cx.skip ?_
            exact Xx.mkK (⟨rfl, rfl, rfl⟩) (Sub.consE (s := 34) rfl (by first | exact congrArg Value.bool (decide_eq_true (by omega)).symm | exact congrArg Value.bool (decide_eq_decide.2 (by omega))) (Sub.cons (s := 0) rfl (Sub.cons (s := 1) rfl (Sub.cons (s := 2) rfl (Sub.cons (s := 3) rfl (Sub.cons (s := 4) rfl (Sub.cons (s := 6) rfl (Sub.cons (s := 7) rfl (Sub.cons (s := 8) rfl (Sub.cons (s := 9) rfl (Sub.cons (s := 10) rfl (Sub.cons (s := 16) rfl (Sub.cons (s := 17) rfl (Sub.cons (s := 18) rfl (Sub.cons (s := 19) rfl (Sub.cons (s := 27) rfl (Sub.cons (s := 28) rfl (Sub.nil _))))))))))))))))))
          · skip
            have z3 := h16
            refine Cx.region ?_
            refine Lx.y (eqI rfl rfl) rfl ?_
            refine Lx.y (asg rfl) rfl ?_
            refine Lx.nil ?_
            exact Xx.mkK (⟨rfl, rfl, rfl⟩) (Sub.consE (s := 34) rfl (by first | exact congrArg Value.bool (decide_eq_true (by omega)).symm | exact congrArg Value.bool (decide_eq_decide.2 (by omega))) (Sub.cons (s := 0) rfl (Sub.cons (s := 1) rfl (Sub.cons (s := 2) rfl (Sub.cons (s := 3) rfl (Sub.cons (s := 4) rfl (Sub.cons (s := 6) rfl (Sub.cons (s := 7) rfl (Sub.cons (s := 8) rfl (Sub.cons (s := 9) rfl (Sub.cons (s := 10) rfl (Sub.cons (s := 16) rfl (Sub.cons (s := 17) rfl (Sub.cons (s := 18) rfl (Sub.cons (s := 19) rfl (Sub.cons (s := 27) rfl (Sub.cons (s := 28) rfl (Sub.nil _))))))))))))))))))
        · rintro ρ' B' H' ⟨rfl, rfl, rfl⟩
          refine Cx.condD rfl (fun h17 => ?_) (fun h17 => ?_)
          · skip
            have z3 := h17
            refine Cx.seq (fun K18 k18 => ?_)
            have hr : bless a.s b.s = decide (cmpF (d + 1) a b = .lt) := by
              rw [cmpF_same zk, if_neg z1, if_neg z2, if_pos z3]
              rw [show decide (cmpL a.s b.s = .lt) = decide (bless a.s b.s = true) from decide_eq_decide.2 cmpL_lt]
              simp
            refine Cx.region ?_
            refine Lx.y (fa' fo53_3 rfl) rfl ?_
            refine Lx.y (ld Try.underlying9 rfl rfl rfl) rfl ?_
            refine Lx.y (fa' fo53_3 rfl) rfl ?_
            refine Lx.y (ld Try.underlying9 rfl rfl rfl) rfl ?_
            refine Lx.y (lssS rfl rfl) rfl ?_
            refine Lx.y (asg rfl) rfl ?_
            refine Lx.nil ?_
            refine Xx.tn (k18 _ _ _ _ ?_)
            refine Cx.ret ?_
            refine Xx.br ?_
            refine Xx.tr ?_
            exact Xx.dropB b2 (Xx.dropB b3 (Xx.rB1 rfl rfl ⟨congrArg Value.bool hr, rfl⟩ (Frag.le_refl _) rfl))
          · skip
            have z3 := h17
            refine Cx.skip ?_
            refine Xx.bn ?_
            refine Xx.tn (k6 _ _ _ _ ?_)
            refine Cx.seq (fun K19 k19 => ?_)
            refine Cx.seq (fun K20 k20 => ?_)
            refine Cx.region ?_
            refine Lx.y (asg rfl) rfl ?_
            refine Lx.nil ?_
            refine Xx.tn (k20 _ _ _ _ ?_)
            refine Cx.block ?_
            refine Cx.loopK (Sub.cons (s := 0) rfl (Sub.cons (s := 1) rfl (Sub.cons (s := 2) rfl (Sub.cons (s := 3) rfl (Sub.cons (s := 6) rfl (Sub.cons (s := 7) rfl (Sub.cons (s := 8) rfl (Sub.cons (s := 9) rfl (Sub.cons (s := 10) rfl (Sub.cons (s := 16) rfl (Sub.cons (s := 17) rfl (Sub.cons (s := 18) rfl (Sub.cons (s := 19) rfl (Sub.cons (s := 27) rfl (Sub.cons (s := 28) rfl (Sub.cons (s := 34) rfl (Sub.nil _))))))))))))))))) (fun m ρ' B' H' => ∃ (i : Nat), (i ≤ a.parts.length ∧ i ≤ b.parts.length ∧ cmpF (d + 1) a b = lexO (prtO (cmpF d) a b) (a.parts.length - i) (b.parts.length - i) i) ∧ m = a.parts.length - i ∧ ρ' = [(5, i64 i)] ∧ B = B' ∧ row b3 53 (vcs b Ap2 cp2 An2 cn2) * (row b2 53 (vcs a Ap cp An cn) * R) = H') ⟨0, ⟨by omega, by omega, by rw [cmpF_same zk, if_neg z1, if_neg z2, if_neg z3]; rfl⟩, rfl, rfl, rfl, rfl⟩ (Sub.cons (s := 5) rfl (Sub.cons (s := 0) rfl (Sub.cons (s := 1) rfl (Sub.cons (s := 2) rfl (Sub.cons (s := 3) rfl (Sub.cons (s := 6) rfl (Sub.cons (s := 7) rfl (Sub.cons (s := 8) rfl (Sub.cons (s := 9) rfl (Sub.cons (s := 10) rfl (Sub.cons (s := 16) rfl (Sub.cons (s := 17) rfl (Sub.cons (s := 18) rfl (Sub.cons (s := 19) rfl (Sub.cons (s := 27) rfl (Sub.cons (s := 28) rfl (Sub.cons (s := 34) rfl (Sub.nil _)))))))))))))))))) ?_
            rintro m ρ' B' H' ⟨i, ⟨hi1, hi2, hlex⟩, rfl, rfl, rfl, rfl⟩
            refine Cx.seq (fun K21 k21 => ?_)
            refine Cx.seq (fun K22 k22 => ?_)
            refine Cx.region ?_
            refine Lx.y (mv rfl) rfl ?_
            refine Lx.y (fa' fo53_4 rfl) rfl ?_
            refine Lx.y (ld Try.underlying51 rfl rfl rfl) rfl ?_
            refine Lx.y (lenV (ty' := 0) Try.underlying51 rfl) rfl ?_
            refine Lx.y (lss rfl rfl) rfl ?_
            refine Lx.y (mv rfl) rfl ?_
            refine Xx.ifD (t := 47) rfl (fun h23 => ?_) (fun h23 => ?_)
            · skip
              have hj1 := h23
              refine Lx.gT rfl rfl rfl ?_
              refine Lx.y (mv rfl) rfl ?_
              refine Lx.gT rfl rfl rfl ?_
              refine Lx.y (fa' fo53_4 rfl) rfl ?_
              refine Lx.gT rfl rfl rfl ?_
              refine Lx.y (ld Try.underlying51 rfl rfl rfl) rfl ?_
              refine Lx.gT rfl rfl rfl ?_
              refine Lx.y (lenV (ty' := 0) Try.underlying51 rfl) rfl ?_
              refine Lx.gT rfl rfl rfl ?_
              refine Lx.y (lss rfl rfl) rfl ?_
              refine Lx.y (pickT rfl rfl) rfl ?_
              refine Lx.nil ?_
              refine Xx.tn (k22 _ _ _ _ ?_)
              refine Cx.condD rfl (fun h24 => ?_) (fun h24 => ?_)
              · skip
                have hj2 := h24
                have hia : i < a.parts.length := by omega
                have hib : i < b.parts.length := by omega
                have hstep := hlex.trans (lexO_step hia hib)
                obtain ⟨bq, oq, lq, eq, fq, xs, hAp, hBq, hxs, hv2⟩ := hps i hia
                subst hAp
                obtain ⟨Ap3, cp3, An3, cn3, rfl⟩ := ValR.shape hv2
                obtain ⟨bq2, oq2, lq2, eq2, fq2, xs2, hAp2, hBq2, hxs2, hv22⟩ := hps2 i hib
                subst hAp2
                obtain ⟨Ap4, cp4, An4, cn4, rfl⟩ := ValR.shape hv22
                refine Cx.skip ?_
                refine Xx.tn (k21 _ _ _ _ ?_)
                refine Cx.seq (fun K25 k25 => ?_)
                refine Cx.block ?_
                refine Cx.cutK (ds' := []) (Sub.cons (s := 0) rfl (Sub.cons (s := 1) rfl (Sub.cons (s := 2) rfl (Sub.cons (s := 3) rfl (Sub.cons (s := 5) rfl (Sub.cons (s := 6) rfl (Sub.cons (s := 7) rfl (Sub.cons (s := 8) rfl (Sub.cons (s := 9) rfl (Sub.cons (s := 10) rfl (Sub.cons (s := 16) rfl (Sub.cons (s := 17) rfl (Sub.cons (s := 18) rfl (Sub.cons (s := 19) rfl (Sub.cons (s := 27) rfl (Sub.cons (s := 28) rfl (Sub.cons (s := 34) rfl (Sub.cons (s := 42) rfl (Sub.cons (s := 43) rfl (Sub.cons (s := 44) rfl (Sub.cons (s := 45) rfl (Sub.cons (s := 46) rfl (Sub.cons (s := 47) rfl (Sub.cons (s := 48) rfl (Sub.cons (s := 49) rfl (Sub.cons (s := 50) rfl (Sub.cons (s := 51) rfl (Sub.cons (s := 52) rfl (Sub.cons (s := 53) rfl (Sub.nil _)))))))))))))))))))))))))))))) (fun ρ' B' H' => ρ' = [] ∧ B = B' ∧ row b3 53 (vcs b (some ⟨bq2, oq2, none⟩) cp2 An2 cn2) * (row b2 53 (vcs a (some ⟨bq, oq, none⟩) cp An cn) * R) = H') ?_ ?_
                · skip
                  refine Cx.seq (fun K26 k26 => ?_)
                  refine Cx.region ?_
                  refine Lx.y (fa' fo53_0 rfl) rfl ?_
                  refine Lx.y (ld Try.underlying3 rfl rfl rfl) rfl ?_
                  refine Lx.y (eqI rfl rfl) rfl ?_
                  refine Lx.y (mv rfl) rfl ?_
                  refine Xx.ifD (t := 59) rfl (fun h27 => ?_) (fun h27 => ?_)
                  · skip
                    have k6 : a.kind = 6 := h27
                    have hna := ham6 k6
                    have hnb := hbm6 (by omega)
                    refine Lx.gT rfl rfl rfl ?_
                    refine Lx.y (mv rfl) rfl ?_
                    refine Lx.gT rfl rfl rfl ?_
                    refine Lx.y (fa' fo53_5 rfl) rfl ?_
                    refine Lx.gT rfl rfl rfl ?_
                    refine Lx.y (ld Try.underlying22 rfl rfl rfl) rfl ?_
                    refine Lx.gT rfl rfl rfl ?_
                    refine Lx.y (lenV (ty' := 0) Try.underlying22 rfl) rfl ?_
                    refine Lx.gT rfl rfl rfl ?_
                    refine Lx.y (geq rfl rfl) rfl ?_
                    refine Lx.gT rfl rfl rfl ?_
                    refine Lx.y (mv rfl) rfl ?_
                    refine Xx.ifD (t := 65) rfl (fun h28 => ?_) (fun h28 => ?_)
                    · skip
                      exact absurd h28 (by omega)
                    · skip
                      refine Lx.gT rfl rfl rfl ?_
                      refine Lx.y (mv rfl) rfl ?_
                      refine Lx.gT rfl rfl rfl ?_
                      refine Lx.y (fa' fo53_5 rfl) rfl ?_
                      refine Lx.gT rfl rfl rfl ?_
                      refine Lx.y (ld Try.underlying22 rfl rfl rfl) rfl ?_
                      refine Lx.gT rfl rfl rfl ?_
                      refine Lx.y (lenV (ty' := 0) Try.underlying22 rfl) rfl ?_
                      refine Lx.gT rfl rfl rfl ?_
                      refine Lx.y (geq rfl rfl) rfl ?_
                      refine Lx.gT rfl rfl rfl ?_
                      refine Lx.y (pickF rfl rfl) rfl ?_
                      refine Lx.y (pickT rfl rfl) rfl ?_
                      refine Lx.nil ?_
                      refine Xx.tn (k26 _ _ _ _ ?_)
                      refine Cx.condD rfl (fun h29 => ?_) (fun h29 => ?_)
                      · skip
                        exact absurd h29 (by omega)
                      · skip
                        refine Cx.skip ?_
                        exact Xx.mkK (⟨rfl, rfl, rfl⟩) (Sub.cons (s := 0) rfl (Sub.cons (s := 1) rfl (Sub.cons (s := 2) rfl (Sub.cons (s := 3) rfl (Sub.cons (s := 5) rfl (Sub.cons (s := 6) rfl (Sub.cons (s := 7) rfl (Sub.cons (s := 8) rfl (Sub.cons (s := 9) rfl (Sub.cons (s := 10) rfl (Sub.cons (s := 16) rfl (Sub.cons (s := 17) rfl (Sub.cons (s := 18) rfl (Sub.cons (s := 19) rfl (Sub.cons (s := 27) rfl (Sub.cons (s := 28) rfl (Sub.cons (s := 34) rfl (Sub.cons (s := 42) rfl (Sub.cons (s := 43) rfl (Sub.cons (s := 44) rfl (Sub.cons (s := 45) rfl (Sub.cons (s := 46) rfl (Sub.cons (s := 47) rfl (Sub.cons (s := 48) rfl (Sub.cons (s := 49) rfl (Sub.cons (s := 50) rfl (Sub.cons (s := 51) rfl (Sub.cons (s := 52) rfl (Sub.cons (s := 53) rfl (Sub.nil _))))))))))))))))))))))))))))))
                  · skip
                    have k6 : ¬ a.kind = 6 := h27
                    refine Lx.gF rfl rfl rfl rfl ?_
                    refine Lx.gF rfl rfl rfl rfl ?_
                    refine Lx.gF rfl rfl rfl rfl ?_
                    refine Lx.gF rfl rfl rfl rfl ?_
                    refine Lx.gF rfl rfl rfl rfl ?_
                    refine Lx.gF rfl rfl rfl rfl ?_
                    refine Lx.gU rfl rfl rfl rfl ?_
                    refine Lx.gU rfl rfl rfl rfl ?_
                    refine Lx.gU rfl rfl rfl rfl ?_
                    refine Lx.gU rfl rfl rfl rfl ?_
                    refine Lx.gU rfl rfl rfl rfl ?_
                    refine Lx.gF rfl rfl rfl rfl ?_
                    refine Lx.y (pickF rfl rfl) rfl ?_
                    refine Lx.nil ?_
                    refine Xx.tn (k26 _ _ _ _ ?_)
                    refine Cx.condF rfl ?_
                    refine Cx.skip ?_
                    exact Xx.mkK (⟨rfl, rfl, rfl⟩) (Sub.cons (s := 0) rfl (Sub.cons (s := 1) rfl (Sub.cons (s := 2) rfl (Sub.cons (s := 3) rfl (Sub.cons (s := 5) rfl (Sub.cons (s := 6) rfl (Sub.cons (s := 7) rfl (Sub.cons (s := 8) rfl (Sub.cons (s := 9) rfl (Sub.cons (s := 10) rfl (Sub.cons (s := 16) rfl (Sub.cons (s := 17) rfl (Sub.cons (s := 18) rfl (Sub.cons (s := 19) rfl (Sub.cons (s := 27) rfl (Sub.cons (s := 28) rfl (Sub.cons (s := 34) rfl (Sub.cons (s := 42) rfl (Sub.cons (s := 43) rfl (Sub.cons (s := 44) rfl (Sub.cons (s := 45) rfl (Sub.cons (s := 46) rfl (Sub.cons (s := 47) rfl (Sub.cons (s := 48) rfl (Sub.cons (s := 49) rfl (Sub.cons (s := 50) rfl (Sub.cons (s := 51) rfl (Sub.cons (s := 52) rfl (Sub.cons (s := 53) rfl (Sub.nil _))))))))))))))))))))))))))))))
                · rintro ρ' B' H' ⟨rfl, rfl, rfl⟩
                  refine Cx.seq (fun K30 k30 => ?_)
                  refine Cx.seq (fun K31 k31 => ?_)
                  refine Cx.drawn (by kernel_rfl) ?_
                  refine Dx.p (i := 0) rfl (by kernel_rfl) (fa' fo53_0 rfl) rfl ?_
                  refine Dx.r (i := 1) rfl (by kernel_rfl) (ld Try.underlying3 rfl rfl rfl) rfl ?_
                  refine Dx.p (i := 2) rfl (by kernel_rfl) (eqI rfl rfl) rfl ?_
                  refine Dx.p (i := 3) rfl (by kernel_rfl) (mv rfl) rfl ?_
                  refine Xx.ifD (t := 83) rfl (fun h32 => ?_) (fun h32 => ?_)
                  · skip
                    have k6 : a.kind = 6 := h32
                    have hna := ham6 k6
                    have hnb := hbm6 (by omega)
                    obtain ⟨bn, on, ln, en, fn, hAn, hBn, hln⟩ := hns.at1 (k := i) (by omega)
                    subst hAn
                    rw [get_map (by omega)] at hln
                    obtain ⟨bn2, on2, ln2, en2, fn2, hAn2, hBn2, hln2⟩ := hns2.at1 (k := i) (by omega)
                    subst hAn2
                    rw [get_map (by omega)] at hln2
                    refine Dx.pT (i := 4) rfl rfl rfl rfl (by kernel_rfl) (fa' fo53_5 rfl) rfl ?_
                    refine Dx.rT (i := 5) rfl rfl rfl rfl (by kernel_rfl) (ld Try.underlying22 rfl rfl rfl) rfl ?_
                    refine Dx.pT (i := 6) rfl rfl rfl rfl (by kernel_rfl) (mv rfl) rfl ?_
                    refine Dx.pT (i := 7) rfl rfl rfl rfl (by kernel_rfl) (ia Try.underlying22 sz9 rfl rfl (by first | exact Int.toNat_natCast _ | rfl) (by omega) (by omega)) rfl ?_
                    refine Dx.rT (i := 8) rfl rfl rfl rfl (by kernel_rfl) (ldB Try.underlying9 rfl rfl hBn hln) rfl ?_
                    refine Dx.pT (i := 9) rfl rfl rfl rfl (by kernel_rfl) (fa' fo53_5 rfl) rfl ?_
                    refine Dx.rT (i := 10) rfl rfl rfl rfl (by kernel_rfl) (ld Try.underlying22 rfl rfl rfl) rfl ?_
                    refine Dx.pT (i := 11) rfl rfl rfl rfl (by kernel_rfl) (mv rfl) rfl ?_
                    refine Dx.pT (i := 12) rfl rfl rfl rfl (by kernel_rfl) (ia Try.underlying22 sz9 rfl rfl (by first | exact Int.toNat_natCast _ | rfl) (by omega) (by omega)) rfl ?_
                    refine Dx.rT (i := 13) rfl rfl rfl rfl (by kernel_rfl) (ldB Try.underlying9 rfl rfl hBn2 hln2) rfl ?_
                    refine Dx.pT (i := 14) rfl rfl rfl rfl (by kernel_rfl) (neS rfl rfl) rfl ?_
                    refine Dx.p (i := 15) rfl (by kernel_rfl) (pickT rfl rfl) rfl ?_
                    refine Dx.done (by kernel_rfl) ?_
                    refine Xx.tn (k31 _ _ _ _ ?_)
                    refine Cx.condN rfl (fun h33 => ?_) (fun h33 => ?_)
                    · skip
                      have hne := h33
                      have hr : bless (a.names.getD i []) (b.names.getD i []) = decide (cmpF (d + 1) a b = .lt) := by
                        rw [hstep]
                        unfold prtO
                        rw [if_pos k6]
                        cases hc : cmpL (a.names.getD i []) (b.names.getD i []) with
                        | lt => rw [cmpL_lt.1 hc]; rfl
                        | eq => exact absurd (cmpL_eq.1 hc) hne
                        | gt =>
                          cases hb9 : bless (a.names.getD i []) (b.names.getD i []) with
                          | false => rfl
                          | true => rw [cmpL_lt.2 hb9] at hc; cases hc
                      refine Cx.seq (fun K34 k34 => ?_)
                      refine Cx.drawn (by kernel_rfl) ?_
                      refine Dx.p (i := 0) rfl (by kernel_rfl) (fa' fo53_5 rfl) rfl ?_
                      refine Dx.r (i := 1) rfl (by kernel_rfl) (ld Try.underlying22 rfl rfl rfl) rfl ?_
                      refine Dx.p (i := 2) rfl (by kernel_rfl) (mv rfl) rfl ?_
                      refine Dx.p (i := 3) rfl (by kernel_rfl) (ia Try.underlying22 sz9 rfl rfl (by first | exact Int.toNat_natCast _ | rfl) (by omega) (by omega)) rfl ?_
                      refine Dx.r (i := 4) rfl (by kernel_rfl) (ldB Try.underlying9 rfl rfl hBn hln) rfl ?_
                      refine Dx.p (i := 5) rfl (by kernel_rfl) (fa' fo53_5 rfl) rfl ?_
                      refine Dx.r (i := 6) rfl (by kernel_rfl) (ld Try.underlying22 rfl rfl rfl) rfl ?_
                      refine Dx.p (i := 7) rfl (by kernel_rfl) (mv rfl) rfl ?_
                      refine Dx.p (i := 8) rfl (by kernel_rfl) (ia Try.underlying22 sz9 rfl rfl (by first | exact Int.toNat_natCast _ | rfl) (by omega) (by omega)) rfl ?_
                      refine Dx.r (i := 9) rfl (by kernel_rfl) (ldB Try.underlying9 rfl rfl hBn2 hln2) rfl ?_
                      refine Dx.p (i := 10) rfl (by kernel_rfl) (lssS rfl rfl) rfl ?_
                      refine Dx.p (i := 11) rfl (by kernel_rfl) (asg rfl) rfl ?_
                      refine Dx.done (by kernel_rfl) ?_
                      refine Xx.tn (k34 _ _ _ _ ?_)
                      refine Cx.ret ?_
                      refine Xx.tr ?_
                      refine Xx.br ?_
                      refine Xx.tr ?_
                      refine Xx.tr ?_
                      refine Xx.br ?_
                      refine Xx.tr ?_
                      exact Xx.dropB b2 (Xx.dropB b3 (Xx.rB1 rfl rfl ⟨congrArg Value.bool hr, rfl⟩ (Frag.le_refl _) rfl))
                    · skip
                      have hpo : prtO (cmpF d) a b i = cmpF d a.parts[i] b.parts[i] := by unfold prtO; rw [if_pos k6, cmpL_eq.2 h33, getDp hia, getDp hib]; rfl
                      refine Cx.skip ?_
                      refine Xx.tn (k30 _ _ _ _ ?_)
                      refine Cx.seq (fun K35 k35 => ?_)
                      refine Cx.seq (fun K36 k36 => ?_)
                      refine Cx.drawn (by kernel_rfl) ?_
                      refine Dx.p (i := 0) rfl (by kernel_rfl) (fa' fo53_4 rfl) rfl ?_
                      refine Dx.r (i := 1) rfl (by kernel_rfl) (ld Try.underlying51 rfl rfl rfl) rfl ?_
                      refine Dx.p (i := 2) rfl (by kernel_rfl) (mv rfl) rfl ?_
                      refine Dx.p (i := 3) rfl (by kernel_rfl) (ia Try.underlying51 sz53 rfl rfl (by first | exact Int.toNat_natCast _ | rfl) (by omega) (by omega)) rfl ?_
                      refine Dx.r (i := 4) rfl (by kernel_rfl) (ldA Try.underlying53 rfl sz53 rfl (Cells.base (n := 6) hBq hxs) rfl) rfl ?_
                      refine Dx.p (i := 5) rfl (by kernel_rfl) (fa' fo53_4 rfl) rfl ?_
                      refine Dx.r (i := 6) rfl (by kernel_rfl) (ld Try.underlying51 rfl rfl rfl) rfl ?_
                      refine Dx.p (i := 7) rfl (by kernel_rfl) (mv rfl) rfl ?_
                      refine Dx.p (i := 8) rfl (by kernel_rfl) (ia Try.underlying51 sz53 rfl rfl (by first | exact Int.toNat_natCast _ | rfl) (by omega) (by omega)) rfl ?_
                      refine Dx.r (i := 9) rfl (by kernel_rfl) (ldA Try.underlying53 rfl sz53 rfl (Cells.base (n := 6) hBq2 hxs2) rfl) rfl ?_
                      refine Dx.one (i := 10) (by kernel_rfl) ?_
                      refine Dstep.o (i := 10) rfl (Ox.cb rfl rfl rfl (ih _ _ _ _ _ _ hv2 hv22 (hap i hia) (hbp i hib))) rfl (fun v B' H' hΦ hB => ?_)
                      obtain ⟨rfl, rfl, rfl⟩ := hΦ; clear hB
                      refine ⟨JOk.edge (JOk.yes (JOk.edge (JOk.yes (JOk.top) (ld Try.underlying51 rfl rfl rfl)) (by kernel_rfl)) (ld Try.underlying51 rfl rfl rfl)) (by kernel_rfl), ?_⟩
                      refine Dx.done (by kernel_rfl) ?_
                      refine Xx.tn (k36 _ _ _ _ ?_)
                      refine Cx.condB rfl (fun h37 => ?_) (fun h37 => ?_)
                      · skip
                        have c1 := of_decide_eq_true h37
                        have hr : true = decide (cmpF (d + 1) a b = .lt) := by rw [hstep, hpo, c1]; rfl
                        refine Cx.seq (fun K38 k38 => ?_)
                        refine Cx.region ?_
                        refine Lx.y (asg rfl) rfl ?_
                        refine Lx.nil ?_
                        refine Xx.tn (k38 _ _ _ _ ?_)
                        refine Cx.ret ?_
                        refine Xx.tr ?_
                        refine Xx.br ?_
                        refine Xx.tr ?_
                        refine Xx.tr ?_
                        refine Xx.br ?_
                        refine Xx.tr ?_
                        exact Xx.dropB b2 (Xx.dropB b3 (Xx.rB1 rfl rfl ⟨congrArg Value.bool hr, rfl⟩ (Frag.le_refl _) rfl))
                      · skip
                        have c1 := of_decide_eq_false h37
                        refine Cx.skip ?_
                        refine Xx.tn (k35 _ _ _ _ ?_)
                        refine Cx.seq (fun K39 k39 => ?_)
                        refine Cx.drawn (by kernel_rfl) ?_
                        refine Dx.p (i := 0) rfl (by kernel_rfl) (fa' fo53_4 rfl) rfl ?_
                        refine Dx.r (i := 1) rfl (by kernel_rfl) (ld Try.underlying51 rfl rfl rfl) rfl ?_
                        refine Dx.p (i := 2) rfl (by kernel_rfl) (mv rfl) rfl ?_
                        refine Dx.p (i := 3) rfl (by kernel_rfl) (ia Try.underlying51 sz53 rfl rfl (by first | exact Int.toNat_natCast _ | rfl) (by omega) (by omega)) rfl ?_
                        refine Dx.r (i := 4) rfl (by kernel_rfl) (ldA Try.underlying53 rfl sz53 rfl (Cells.base (n := 6) hBq2 hxs2) rfl) rfl ?_
                        refine Dx.p (i := 5) rfl (by kernel_rfl) (fa' fo53_4 rfl) rfl ?_
                        refine Dx.r (i := 6) rfl (by kernel_rfl) (ld Try.underlying51 rfl rfl rfl) rfl ?_
                        refine Dx.p (i := 7) rfl (by kernel_rfl) (mv rfl) rfl ?_
                        refine Dx.p (i := 8) rfl (by kernel_rfl) (ia Try.underlying51 sz53 rfl rfl (by first | exact Int.toNat_natCast _ | rfl) (by omega) (by omega)) rfl ?_
                        refine Dx.r (i := 9) rfl (by kernel_rfl) (ldA Try.underlying53 rfl sz53 rfl (Cells.base (n := 6) hBq hxs) rfl) rfl ?_
                        refine Dx.one (i := 10) (by kernel_rfl) ?_
                        refine Dstep.o (i := 10) rfl (Ox.cb rfl rfl rfl (ih _ _ _ _ _ _ hv22 hv2 (hbp i hib) (hap i hia))) rfl (fun v B' H' hΦ hB => ?_)
                        obtain ⟨rfl, rfl, rfl⟩ := hΦ; clear hB
                        refine ⟨JOk.edge (JOk.yes (JOk.edge (JOk.yes (JOk.top) (ld Try.underlying51 rfl rfl rfl)) (by kernel_rfl)) (ld Try.underlying51 rfl rfl rfl)) (by kernel_rfl), ?_⟩
                        refine Dx.done (by kernel_rfl) ?_
                        refine Xx.tn (k39 _ _ _ _ ?_)
                        refine Cx.condB rfl (fun h40 => ?_) (fun h40 => ?_)
                        · skip
                          have c2 := of_decide_eq_true h40
                          rw [cmpF_swap d a.parts[i] b.parts[i]] at c2
                          have hr : false = decide (cmpF (d + 1) a b = .lt) := by rw [hstep, hpo, swap_lt.1 c2]; rfl
                          refine Cx.seq (fun K41 k41 => ?_)
                          refine Cx.region ?_
                          refine Lx.y (asg rfl) rfl ?_
                          refine Lx.nil ?_
                          refine Xx.tn (k41 _ _ _ _ ?_)
                          refine Cx.ret ?_
                          refine Xx.br ?_
                          refine Xx.tr ?_
                          refine Xx.tr ?_
                          refine Xx.br ?_
                          refine Xx.tr ?_
                          exact Xx.dropB b2 (Xx.dropB b3 (Xx.rB1 rfl rfl ⟨congrArg Value.bool hr, rfl⟩ (Frag.le_refl _) rfl))
                        · skip
                          have c2 := of_decide_eq_false h40
                          have c3 : cmpF d a.parts[i] b.parts[i] = .eq := by
                            rw [cmpF_swap d a.parts[i] b.parts[i]] at c2
                            cases hc : cmpF d a.parts[i] b.parts[i] with
                            | eq => rfl
                            | lt => exact absurd hc c1
                            | gt => exact absurd (by rw [hc]; rfl) c2
                          refine Cx.skip ?_
                          refine Xx.bn ?_
                          refine Xx.tn (k25 _ _ _ _ ?_)
                          refine Cx.region ?_
                          refine Lx.y (mv rfl) rfl ?_
                          refine Lx.y (add rfl rfl (by first | exact wrap64 (by omega) (by omega) | rfl)) rfl ?_
                          refine Lx.y (asg rfl) rfl ?_
                          refine Lx.nil ?_
                          exact Xx.againK ⟨i + 1, ⟨by omega, by omega, by rw [hstep, hpo, c3]; rfl⟩, rfl, rfl, rfl, rfl⟩ (by omega) (Sub.cons (s := 5) rfl (Sub.cons (s := 0) rfl (Sub.cons (s := 1) rfl (Sub.cons (s := 2) rfl (Sub.cons (s := 3) rfl (Sub.cons (s := 6) rfl (Sub.cons (s := 7) rfl (Sub.cons (s := 8) rfl (Sub.cons (s := 9) rfl (Sub.cons (s := 10) rfl (Sub.cons (s := 16) rfl (Sub.cons (s := 17) rfl (Sub.cons (s := 18) rfl (Sub.cons (s := 19) rfl (Sub.cons (s := 27) rfl (Sub.cons (s := 28) rfl (Sub.cons (s := 34) rfl (Sub.nil _))))))))))))))))))
                  · skip
                    have k6 : ¬ a.kind = 6 := h32
                    have hpo : prtO (cmpF d) a b i = cmpF d a.parts[i] b.parts[i] := by unfold prtO; rw [if_neg k6, getDp hia, getDp hib]; rfl
                    refine Dx.pF (i := 4) rfl (fun _ h => by cases h) rfl rfl rfl (by kernel_rfl) rfl ?_
                    refine Dx.pF (i := 5) rfl (fun _ h => by cases h) rfl rfl rfl (by kernel_rfl) rfl ?_
                    refine Dx.pF (i := 6) rfl (fun _ h => by cases h) rfl rfl rfl (by kernel_rfl) rfl ?_
                    refine Dx.pF (i := 7) rfl (fun _ h => by cases h) rfl rfl rfl (by kernel_rfl) rfl ?_
                    refine Dx.pF (i := 8) rfl (fun _ h => by cases h) rfl rfl rfl (by kernel_rfl) rfl ?_
                    refine Dx.pF (i := 9) rfl (fun _ h => by cases h) rfl rfl rfl (by kernel_rfl) rfl ?_
                    refine Dx.pF (i := 10) rfl (fun _ h => by cases h) rfl rfl rfl (by kernel_rfl) rfl ?_
                    refine Dx.pF (i := 11) rfl (fun _ h => by cases h) rfl rfl rfl (by kernel_rfl) rfl ?_
                    refine Dx.pF (i := 12) rfl (fun _ h => by cases h) rfl rfl rfl (by kernel_rfl) rfl ?_
                    refine Dx.pF (i := 13) rfl (fun _ h => by cases h) rfl rfl rfl (by kernel_rfl) rfl ?_
                    refine Dx.pF (i := 14) rfl (fun _ h => by cases h) rfl rfl rfl (by kernel_rfl) rfl ?_
                    refine Dx.p (i := 15) rfl (by kernel_rfl) (pickF rfl rfl) rfl ?_
                    refine Dx.done (by kernel_rfl) ?_
                    refine Xx.tn (k31 _ _ _ _ ?_)
                    refine Cx.condF rfl ?_
                    refine Cx.skip ?_
                    refine Xx.tn (k30 _ _ _ _ ?_)
                    refine Cx.seq (fun K42 k42 => ?_)
                    refine Cx.seq (fun K43 k43 => ?_)
                    refine Cx.drawn (by kernel_rfl) ?_
                    refine Dx.p (i := 0) rfl (by kernel_rfl) (fa' fo53_4 rfl) rfl ?_
                    refine Dx.r (i := 1) rfl (by kernel_rfl) (ld Try.underlying51 rfl rfl rfl) rfl ?_
                    refine Dx.p (i := 2) rfl (by kernel_rfl) (mv rfl) rfl ?_
                    refine Dx.p (i := 3) rfl (by kernel_rfl) (ia Try.underlying51 sz53 rfl rfl (by first | exact Int.toNat_natCast _ | rfl) (by omega) (by omega)) rfl ?_
                    refine Dx.r (i := 4) rfl (by kernel_rfl) (ldA Try.underlying53 rfl sz53 rfl (Cells.base (n := 6) hBq hxs) rfl) rfl ?_
                    refine Dx.p (i := 5) rfl (by kernel_rfl) (fa' fo53_4 rfl) rfl ?_
                    refine Dx.r (i := 6) rfl (by kernel_rfl) (ld Try.underlying51 rfl rfl rfl) rfl ?_
                    refine Dx.p (i := 7) rfl (by kernel_rfl) (mv rfl) rfl ?_
                    refine Dx.p (i := 8) rfl (by kernel_rfl) (ia Try.underlying51 sz53 rfl rfl (by first | exact Int.toNat_natCast _ | rfl) (by omega) (by omega)) rfl ?_
                    refine Dx.r (i := 9) rfl (by kernel_rfl) (ldA Try.underlying53 rfl sz53 rfl (Cells.base (n := 6) hBq2 hxs2) rfl) rfl ?_
                    refine Dx.one (i := 10) (by kernel_rfl) ?_
                    refine Dstep.o (i := 10) rfl (Ox.cb rfl rfl rfl (ih _ _ _ _ _ _ hv2 hv22 (hap i hia) (hbp i hib))) rfl (fun v B' H' hΦ hB => ?_)
                    obtain ⟨rfl, rfl, rfl⟩ := hΦ; clear hB
                    refine ⟨JOk.edge (JOk.yes (JOk.edge (JOk.yes (JOk.top) (ld Try.underlying51 rfl rfl rfl)) (by kernel_rfl)) (ld Try.underlying51 rfl rfl rfl)) (by kernel_rfl), ?_⟩
                    refine Dx.done (by kernel_rfl) ?_
                    refine Xx.tn (k43 _ _ _ _ ?_)
                    refine Cx.condB rfl (fun h44 => ?_) (fun h44 => ?_)
                    · skip
                      have c1 := of_decide_eq_true h44
                      have hr : true = decide (cmpF (d + 1) a b = .lt) := by rw [hstep, hpo, c1]; rfl
                      refine Cx.seq (fun K45 k45 => ?_)
                      refine Cx.region ?_
                      refine Lx.y (asg rfl) rfl ?_
                      refine Lx.nil ?_
                      refine Xx.tn (k45 _ _ _ _ ?_)
                      refine Cx.ret ?_
                      refine Xx.tr ?_
                      refine Xx.br ?_
                      refine Xx.tr ?_
                      refine Xx.tr ?_
                      refine Xx.br ?_
                      refine Xx.tr ?_
                      exact Xx.dropB b2 (Xx.dropB b3 (Xx.rB1 rfl rfl ⟨congrArg Value.bool hr, rfl⟩ (Frag.le_refl _) rfl))
                    · skip
                      have c1 := of_decide_eq_false h44
                      refine Cx.skip ?_
                      refine Xx.tn (k42 _ _ _ _ ?_)
                      refine Cx.seq (fun K46 k46 => ?_)
                      refine Cx.drawn (by kernel_rfl) ?_
                      refine Dx.p (i := 0) rfl (by kernel_rfl) (fa' fo53_4 rfl) rfl ?_
                      refine Dx.r (i := 1) rfl (by kernel_rfl) (ld Try.underlying51 rfl rfl rfl) rfl ?_
                      refine Dx.p (i := 2) rfl (by kernel_rfl) (mv rfl) rfl ?_
                      refine Dx.p (i := 3) rfl (by kernel_rfl) (ia Try.underlying51 sz53 rfl rfl (by first | exact Int.toNat_natCast _ | rfl) (by omega) (by omega)) rfl ?_
                      refine Dx.r (i := 4) rfl (by kernel_rfl) (ldA Try.underlying53 rfl sz53 rfl (Cells.base (n := 6) hBq2 hxs2) rfl) rfl ?_
                      refine Dx.p (i := 5) rfl (by kernel_rfl) (fa' fo53_4 rfl) rfl ?_
                      refine Dx.r (i := 6) rfl (by kernel_rfl) (ld Try.underlying51 rfl rfl rfl) rfl ?_
                      refine Dx.p (i := 7) rfl (by kernel_rfl) (mv rfl) rfl ?_
                      refine Dx.p (i := 8) rfl (by kernel_rfl) (ia Try.underlying51 sz53 rfl rfl (by first | exact Int.toNat_natCast _ | rfl) (by omega) (by omega)) rfl ?_
                      refine Dx.r (i := 9) rfl (by kernel_rfl) (ldA Try.underlying53 rfl sz53 rfl (Cells.base (n := 6) hBq hxs) rfl) rfl ?_
                      refine Dx.one (i := 10) (by kernel_rfl) ?_
                      refine Dstep.o (i := 10) rfl (Ox.cb rfl rfl rfl (ih _ _ _ _ _ _ hv22 hv2 (hbp i hib) (hap i hia))) rfl (fun v B' H' hΦ hB => ?_)
                      obtain ⟨rfl, rfl, rfl⟩ := hΦ; clear hB
                      refine ⟨JOk.edge (JOk.yes (JOk.edge (JOk.yes (JOk.top) (ld Try.underlying51 rfl rfl rfl)) (by kernel_rfl)) (ld Try.underlying51 rfl rfl rfl)) (by kernel_rfl), ?_⟩
                      refine Dx.done (by kernel_rfl) ?_
                      refine Xx.tn (k46 _ _ _ _ ?_)
                      refine Cx.condB rfl (fun h47 => ?_) (fun h47 => ?_)
                      · skip
                        have c2 := of_decide_eq_true h47
                        rw [cmpF_swap d a.parts[i] b.parts[i]] at c2
                        have hr : false = decide (cmpF (d + 1) a b = .lt) := by rw [hstep, hpo, swap_lt.1 c2]; rfl
                        refine Cx.seq (fun K48 k48 => ?_)
                        refine Cx.region ?_
                        refine Lx.y (asg rfl) rfl ?_
                        refine Lx.nil ?_
                        refine Xx.tn (k48 _ _ _ _ ?_)
                        refine Cx.ret ?_
                        refine Xx.br ?_
                        refine Xx.tr ?_
                        refine Xx.tr ?_
                        refine Xx.br ?_
                        refine Xx.tr ?_
                        exact Xx.dropB b2 (Xx.dropB b3 (Xx.rB1 rfl rfl ⟨congrArg Value.bool hr, rfl⟩ (Frag.le_refl _) rfl))
                      · skip
                        have c2 := of_decide_eq_false h47
                        have c3 : cmpF d a.parts[i] b.parts[i] = .eq := by
                          rw [cmpF_swap d a.parts[i] b.parts[i]] at c2
                          cases hc : cmpF d a.parts[i] b.parts[i] with
                          | eq => rfl
                          | lt => exact absurd hc c1
                          | gt => exact absurd (by rw [hc]; rfl) c2
                        refine Cx.skip ?_
                        refine Xx.bn ?_
                        refine Xx.tn (k25 _ _ _ _ ?_)
                        refine Cx.region ?_
                        refine Lx.y (mv rfl) rfl ?_
                        refine Lx.y (add rfl rfl (by first | exact wrap64 (by omega) (by omega) | rfl)) rfl ?_
                        refine Lx.y (asg rfl) rfl ?_
                        refine Lx.nil ?_
                        exact Xx.againK ⟨i + 1, ⟨by omega, by omega, by rw [hstep, hpo, c3]; rfl⟩, rfl, rfl, rfl, rfl⟩ (by omega) (Sub.cons (s := 5) rfl (Sub.cons (s := 0) rfl (Sub.cons (s := 1) rfl (Sub.cons (s := 2) rfl (Sub.cons (s := 3) rfl (Sub.cons (s := 6) rfl (Sub.cons (s := 7) rfl (Sub.cons (s := 8) rfl (Sub.cons (s := 9) rfl (Sub.cons (s := 10) rfl (Sub.cons (s := 16) rfl (Sub.cons (s := 17) rfl (Sub.cons (s := 18) rfl (Sub.cons (s := 19) rfl (Sub.cons (s := 27) rfl (Sub.cons (s := 28) rfl (Sub.cons (s := 34) rfl (Sub.nil _))))))))))))))))))
              · skip
                have hj2 := h24
                refine Cx.exit ?_
                refine Xx.te ?_
                refine Xx.te ?_
                refine Xx.bh ?_
                refine Xx.tn (k19 _ _ _ _ ?_)
                refine Cx.seq (fun K49 k49 => ?_)
                have hr : decide (((a.parts.length : Nat) : Int) < ((b.parts.length : Nat) : Int)) = decide (cmpF (d + 1) a b = .lt) := decide_eq_decide.2 (by rw [hlex, lexO_end hi1 hi2 (by omega)]; omega)
                refine Cx.region ?_
                refine Lx.y (fa' fo53_4 rfl) rfl ?_
                refine Lx.y (ld Try.underlying51 rfl rfl rfl) rfl ?_
                refine Lx.y (lenV (ty' := 0) Try.underlying51 rfl) rfl ?_
                refine Lx.y (fa' fo53_4 rfl) rfl ?_
                refine Lx.y (ld Try.underlying51 rfl rfl rfl) rfl ?_
                refine Lx.y (lenV (ty' := 0) Try.underlying51 rfl) rfl ?_
                refine Lx.y (lss rfl rfl) rfl ?_
                refine Lx.y (asg rfl) rfl ?_
                refine Lx.nil ?_
                refine Xx.tn (k49 _ _ _ _ ?_)
                refine Cx.ret ?_
                exact Xx.dropB b2 (Xx.dropB b3 (Xx.rB1 rfl rfl ⟨congrArg Value.bool hr, rfl⟩ (Frag.le_refl _) rfl))
            · skip
              have hj1 := h23
              refine Lx.gF rfl rfl rfl rfl ?_
              refine Lx.gF rfl rfl rfl rfl ?_
              refine Lx.gF rfl rfl rfl rfl ?_
              refine Lx.gF rfl rfl rfl rfl ?_
              refine Lx.gF rfl rfl rfl rfl ?_
              refine Lx.y (pickF rfl rfl) rfl ?_
              refine Lx.nil ?_
              refine Xx.tn (k22 _ _ _ _ ?_)
              refine Cx.condF rfl ?_
              refine Cx.exit ?_
              refine Xx.te ?_
              refine Xx.te ?_
              refine Xx.bh ?_
              refine Xx.tn (k19 _ _ _ _ ?_)
              refine Cx.seq (fun K50 k50 => ?_)
              have hr : decide (((a.parts.length : Nat) : Int) < ((b.parts.length : Nat) : Int)) = decide (cmpF (d + 1) a b = .lt) := decide_eq_decide.2 (by rw [hlex, lexO_end hi1 hi2 (by omega)]; omega)
              refine Cx.region ?_
              refine Lx.y (fa' fo53_4 rfl) rfl ?_
              refine Lx.y (ld Try.underlying51 rfl rfl rfl) rfl ?_
              refine Lx.y (lenV (ty' := 0) Try.underlying51 rfl) rfl ?_
              refine Lx.y (fa' fo53_4 rfl) rfl ?_
              refine Lx.y (ld Try.underlying51 rfl rfl rfl) rfl ?_
              refine Lx.y (lenV (ty' := 0) Try.underlying51 rfl) rfl ?_
              refine Lx.y (lss rfl rfl) rfl ?_
              refine Lx.y (asg rfl) rfl ?_
              refine Lx.nil ?_
              refine Xx.tn (k50 _ _ _ _ ?_)
              refine Cx.ret ?_
              exact Xx.dropB b2 (Xx.dropB b3 (Xx.rB1 rfl rfl ⟨congrArg Value.bool hr, rfl⟩ (Frag.le_refl _) rfl))

theorem Before_ct : ∀ (d : Nat) (a b : V) (deep : Int) (ca cb : List Value) (B : Frag), ValR B d a ca → ValR B d b cb → checkF d a deep = 0 → checkF d b deep = 0 → CtP Try.prog 33 [.agg ca.toArray, .agg cb.toArray] B (.bool (decide (cmpF d a b = .lt))) := by
  intro d
  induction d with
  | zero => intro a b deep ca cb B h; exact h.elim
  | succ d ih => intro a b deep ca cb B ha hb h1 h2; exact Before_step d ih a b deep ca cb B ha hb h1 h2

/-- short texts, all the way down -/
def Sh : Nat → V → Prop
  | 0, _ => True
  | d + 1, v => v.s.length ≤ 1100 ∧ ∀ p ∈ v.parts, Sh d p
theorem cutF_sh : ∀ (deep w d : Nat) (v : V), Sh d (cutF deep w v) := by
  intro deep
  induction deep with
  | zero => intro w d v; cases d with
    | zero => exact trivial
    | succ d => exact ⟨by rw [cutF_s]; simp; omega, fun p hp => by cases hp⟩
  | succ k ih => intro w d v; cases d with
    | zero => exact trivial
    | succ d =>
      refine ⟨by rw [cutF_s]; simp; omega, fun p hp => ?_⟩
      have hp' : p ∈ (v.parts.take w).map (cutF k 4) := hp
      obtain ⟨q, _, rfl⟩ := List.mem_map.1 hp'
      exact ih 4 d q
theorem preB_le {f : V → List UInt8} {v : V} {X : Nat} (h1 : ∀ i, i < v.names.length → (v.names.getD i []).length ≤ 16) (h2 : ∀ i (hi : i < v.parts.length), (f v.parts[i]).length ≤ X) : ∀ i, i ≤ v.parts.length → (preB f v i).length ≤ 12 + i * (27 + X) := by
  intro i
  induction i with
  | zero => intro _; unfold preB; have : (uvL (BitVec.ofInt 64 (v.parts.length : Nat))).length ≤ 11 := uvF_len 10 _; simp at this ⊢; omega
  | succ i ih =>
    intro hi
    have h3 := ih (by omega)
    have h4 := h2 i (by omega)
    rw [preB_succ, List.length_append, Nat.succ_mul]
    have h5 : (partB f v i).length ≤ 27 + X := by
      unfold partB
      rw [getDp (by omega), List.length_append]
      by_cases hn : i < v.names.length
      · rw [if_pos hn]
        have h6 := h1 i hn
        unfold txtL
        have : (uvL (BitVec.ofInt 64 ((v.names.getD i []).length : Nat))).length ≤ 11 := uvF_len 10 _
        rw [List.length_append]; omega
      · rw [if_neg hn]; simp; omega
    omega
theorem bytes_le : ∀ (d : Nat) (v : V) (deep : Int), deep ≤ 9 → checkF d v deep = 0 → Sh d v → (bytesF d v).length ≤ 1200 * 34 ^ (9 - deep).toNat := by
  intro d
  induction d with
  | zero => intro v deep _ _ _; show 0 ≤ _; omega
  | succ d ih =>
    intro v deep hd hok hsh
    obtain ⟨h8, _, _, _, hpl, hnb, hps⟩ := chk_ok hok
    obtain ⟨hn6, hn0⟩ := names_many hok
    obtain ⟨k, hk⟩ : ∃ k, (9 - deep).toNat = k + 1 := ⟨(9 - deep).toNat - 1, by omega⟩
    have hk2 : (9 - (deep + 1)).toNat = k := by omega
    rw [hk, Nat.pow_succ]
    have hp := preB_le (f := bytesF d) (v := v) (X := 1200 * 34 ^ k) (fun i hi => by
      have := ((namesP hnb).1 i hi).1
      exact this.2.2) (fun i hi => by have := ih v.parts[i] (deep + 1) (by omega) (hps i hi) (hsh.2 _ (List.getElem_mem hi)); rw [hk2] at this; exact this) v.parts.length (Nat.le_refl _)
    have hm : v.parts.length * (27 + 1200 * 34 ^ k) ≤ 32 * (27 + 1200 * 34 ^ k) := Nat.mul_le_mul_right _ hpl
    have hpos : 0 < 34 ^ k := Nat.pow_pos (by decide)
    have hs := hsh.1
    have u1 : (uvL (BitVec.ofInt 64 (v.s.length : Nat))).length ≤ 11 := uvF_len 10 _
    have u2 : (uvL (BitVec.ofInt 64 v.n <<< 1 ^^^ BitVec.ofInt 64 (v.n / 9223372036854775808))).length ≤ 11 := uvF_len 10 _
    generalize 34 ^ k = z at *
    unfold bytesF
    repeat' split
    all_goals first | (unfold intL; simp only [List.length_append, List.length_cons, List.length_nil]; omega) | (unfold txtL; simp only [List.length_append, List.length_cons, List.length_nil]; omega) | omega | (simp only [List.length_append, List.length_cons, List.length_nil]; omega)
theorem cut_bytes {d deep w : Nat} {v : V} (h : checkF d (cutF deep w v) 1 = 0) : (bytesF d (cutF deep w v)).length ≤ 1152921504606846976 := by
  have := bytes_le d _ 1 (by decide) h (cutF_sh deep w d v)
  exact Nat.le_trans this (by decide)
theorem CheckF_zero {d : Nat} {v : V} (h : CheckF d v = 0) : checkF d v 1 = 0 ∧ (bytesF d v).length ≤ 1024 := by
  unfold CheckF at h
  by_cases h1 : checkF d v 1 = 0
  · rw [if_pos h1] at h
    by_cases h2 : 1024 < (bytesF d v).length
    · rw [if_pos h2] at h; omega
    · exact ⟨h1, by omega⟩
  · rw [if_neg h1] at h; exact absurd h h1
end KeF
end Go.Proofs.Ytcoiejmlpinpbaa
