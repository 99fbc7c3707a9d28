/-
  The order of keys is the order of values; no key begins with another one.
-/
import Derived.Test.YtfnfkoldifpmhaaDoorProg
import Derived.Test.YtfnfkoldifpmhaaDoorSlj
import Derived.Test.YtfnfkoldifpmhaaDoorKeE
namespace Go.Proofs.YtfnfkoldifpmhaaDoor
open Go.SL Go.RowKit
set_option linter.unusedVariables false
set_option linter.unusedSimpArgs false
set_option maxRecDepth 100000
open Ke1 Ke3 Ke4 Ke5 Ke6 Ke7 Ke8 Ke9 KeA KeB KeC KeD KeE
namespace KeF


/-- p is ahead of q at a byte that both have -/
def Lt (p q : List UInt8) : Prop := ∀ x y, bless (p ++ x) (q ++ y) = true
theorem Lt.head {x y : UInt8} (h : x < y) (p q : List UInt8) : Lt (x :: p) (y :: q) := fun a b => by simp [bless_cons, h]
theorem Lt.pre {p q : List UInt8} (r : List UInt8) (h : Lt p q) : Lt (r ++ p) (r ++ q) := fun x y => by
  rw [List.append_assoc, List.append_assoc, bless_app]; exact h x y
theorem Lt.app {p q : List UInt8} (h : Lt p q) (a b : List UInt8) : Lt (p ++ a) (q ++ b) := fun x y => by
  rw [List.append_assoc, List.append_assoc]; exact h _ _
def Tri (o : Ordering) (p q : List UInt8) : Prop := match o with
  | .lt => Lt p q
  | .eq => p = q
  | .gt => Lt q p
theorem Tri.then {o o2 : Ordering} {p q p2 q2 : List UInt8} (h : Tri o p q) (h2 : o = .eq → Tri o2 p2 q2) : Tri (o.then o2) (p ++ p2) (q ++ q2) := by
  cases o with
  | lt => exact h.app _ _
  | gt => exact h.app _ _
  | eq =>
    have e : p = q := h
    subst e
    have h3 := h2 rfl
    cases o2 with
    | lt => exact h3.pre p
    | gt => exact h3.pre p
    | eq => exact congrArg (p ++ ·) h3
theorem Tri.pre {o : Ordering} {p q : List UInt8} (r : List UInt8) (h : Tri o p q) : Tri o (r ++ p) (r ++ q) := by
  have := Tri.then (o := .eq) (p := r) (q := r) rfl (fun _ => h)
  simpa using this
theorem Tri.app {o : Ordering} {p q : List UInt8} (h : Tri o p q) (r : List UInt8) : Tri o (p ++ r) (q ++ r) := by
  have := Tri.then (o2 := .eq) (p2 := r) (q2 := r) h (fun _ => rfl)
  cases o <;> simpa using this
def cmpL (a b : List UInt8) : Ordering := if bless a b then .lt else if bless b a then .gt else .eq
def cmpI (m n : Int) : Ordering := if m < n then .lt else if n < m then .gt else .eq
def cmpB (a b : Bool) : Ordering := if !a && b then .lt else if !b && a then .gt else .eq
theorem u8_zero_lt {y : UInt8} (h : y ≠ 0) : (0 : UInt8) < y := by
  rw [UInt8.lt_iff_toNat_lt]
  have : y.toNat ≠ 0 := fun e => h (UInt8.toNat_inj.1 e)
  have h0 : (0 : UInt8).toNat = 0 := rfl
  omega
theorem rep_cons (x : UInt8) (s : List UInt8) : rep (x :: s) = (if x = 0 then [0, 255] else [x]) ++ rep s := by
  unfold rep; rw [List.flatMap_cons]
theorem textL_cons (x : UInt8) (s : List UInt8) : textL (x :: s) = (if x = 0 then [0, 255] else [x]) ++ textL s := by
  unfold textL; rw [rep_cons, List.append_assoc]
theorem cmpL_cons (x y : UInt8) (a b : List UInt8) : cmpL (x :: a) (y :: b) = if x < y then .lt else if y < x then .gt else cmpL a b := by
  unfold cmpL
  rw [bless_cons, bless_cons]
  by_cases h1 : x < y
  · simp [h1]
  · by_cases h2 : y < x
    · have hne : ¬ x = y := fun e => by subst e; exact absurd h2 (UInt8.lt_irrefl _)
      simp [h1, h2, hne]
    · have e : x = y := UInt8.le_antisymm (UInt8.not_lt.1 h2) (UInt8.not_lt.1 h1)
      subst e
      simp [h1]
theorem chunk_lt {x y : UInt8} (h : x < y) (a b : List UInt8) : Lt ((if x = 0 then [0, 255] else [x]) ++ a) ((if y = 0 then [0, 255] else [y]) ++ b) := by
  have hy : y ≠ 0 := fun e => by subst e; exact absurd (UInt8.lt_iff_toNat_lt.1 h) (by simp)
  rw [if_neg hy]
  by_cases hx : x = 0
  · subst hx; rw [if_pos rfl]; exact Lt.head h _ _
  · rw [if_neg hx]; exact Lt.head h _ _
theorem text_end (y : UInt8) (b : List UInt8) : Lt (textL []) (textL (y :: b)) := by
  rw [textL_cons]
  show Lt ([0, 1] : List UInt8) _
  by_cases h : y = 0
  · subst h
    rw [if_pos rfl]
    exact Lt.pre (p := [1]) (q := 255 :: textL b) [0] (Lt.head (by decide) _ _)
  · rw [if_neg h]; exact Lt.head (u8_zero_lt h) _ _
theorem text_tri : ∀ a b : List UInt8, Tri (cmpL a b) (textL a) (textL b) := by
  intro a
  induction a with
  | nil =>
    intro b
    cases b with
    | nil => exact rfl
    | cons y b => exact text_end y b
  | cons x a ih =>
    intro b
    cases b with
    | nil => exact text_end x a
    | cons y b =>
      rw [cmpL_cons, textL_cons, textL_cons]
      by_cases h1 : x < y
      · rw [if_pos h1]; exact chunk_lt h1 _ _
      · rw [if_neg h1]
        by_cases h2 : y < x
        · rw [if_pos h2]; exact chunk_lt h2 _ _
        · rw [if_neg h2]
          have e : x = y := UInt8.le_antisymm (UInt8.not_lt.1 h2) (UInt8.not_lt.1 h1)
          subst e
          exact (ih b).pre _
/-- bytes of one length, by number -/
theorem byte_tri {x y : UInt8} {o : Ordering} (h : o = if x < y then .lt else if y < x then .gt else .eq) : Tri o [x] [y] := by
  subst h
  by_cases h1 : x < y
  · rw [if_pos h1]; exact Lt.head h1 _ _
  · rw [if_neg h1]
    by_cases h2 : y < x
    · rw [if_pos h2]; exact Lt.head h2 _ _
    · rw [if_neg h2]
      have e : x = y := UInt8.le_antisymm (UInt8.not_lt.1 h2) (UInt8.not_lt.1 h1)
      exact congrArg (fun z => [z]) e
/-- a number's bytes, the highest first: by the number -/
def beN : Nat → Nat → List UInt8
  | 0, _ => []
  | k + 1, n => UInt8.ofNat (n / 256 ^ k) :: beN k (n % 256 ^ k)
def cmpN (m n : Nat) : Ordering := if m < n then .lt else if n < m then .gt else .eq
theorem cmpN_lt {m n : Nat} (h : m < n) : cmpN m n = .lt := if_pos h
theorem cmpN_gt {m n : Nat} (h : n < m) : cmpN m n = .gt := by unfold cmpN; rw [if_neg (by omega), if_pos h]
theorem cmpN_eq {m n : Nat} (h : m = n) : cmpN m n = .eq := by unfold cmpN; rw [if_neg (by omega), if_neg (by omega)]
theorem beN_tri : ∀ (k m n : Nat), m < 256 ^ k → n < 256 ^ k → Tri (cmpN m n) (beN k m) (beN k n) := by
  intro k
  induction k with
  | zero => intro m n hm hn; have h1 : m = 0 := by simpa using hm
            have h2 : n = 0 := by simpa using hn
            subst h1 h2; exact rfl
  | succ k ih =>
    intro m n hm hn
    have hp : 0 < 256 ^ k := Nat.pow_pos (by decide)
    have hm1 : m / 256 ^ k < 256 := Nat.div_lt_of_lt_mul (by rw [Nat.pow_succ] at hm; omega)
    have hn1 : n / 256 ^ k < 256 := Nat.div_lt_of_lt_mul (by rw [Nat.pow_succ] at hn; omega)
    have hm2 := Nat.mod_lt m hp
    have hn2 := Nat.mod_lt n hp
    have em := Nat.div_add_mod m (256 ^ k)
    have en := Nat.div_add_mod n (256 ^ k)
    have h3 := ih (m % 256 ^ k) (n % 256 ^ k) hm2 hn2
    have t1 : (UInt8.ofNat (m / 256 ^ k)).toNat = m / 256 ^ k := by simp; omega
    have t2 : (UInt8.ofNat (n / 256 ^ k)).toNat = n / 256 ^ k := by simp; omega
    have hb : Tri (cmpN (m / 256 ^ k) (n / 256 ^ k)) [UInt8.ofNat (m / 256 ^ k)] [UInt8.ofNat (n / 256 ^ k)] := byte_tri (by
      unfold cmpN
      simp only [UInt8.lt_iff_toNat_lt, t1, t2])
    have := hb.then (o2 := cmpN (m % 256 ^ k) (n % 256 ^ k)) (fun _ => h3)
    have e : (cmpN (m / 256 ^ k) (n / 256 ^ k)).then (cmpN (m % 256 ^ k) (n % 256 ^ k)) = cmpN m n := by
      generalize 256 ^ k = P at *
      generalize m / P = qm at *
      generalize n / P = qn at *
      generalize m % P = rm at *
      generalize n % P = rn at *
      by_cases h1 : qm < qn
      · have h7 : P * qm + P ≤ P * qn := by rw [← Nat.mul_succ]; exact Nat.mul_le_mul_left _ h1
        rw [cmpN_lt h1, cmpN_lt (show m < n by omega)]; rfl
      · by_cases h2 : qn < qm
        · have h7 : P * qn + P ≤ P * qm := by rw [← Nat.mul_succ]; exact Nat.mul_le_mul_left _ h2
          rw [cmpN_gt h2, cmpN_gt (show n < m by omega)]; rfl
        · have h8 : qm = qn := by omega
          subst h8
          rw [cmpN_eq rfl]
          show cmpN rm rn = _
          rcases Nat.lt_trichotomy rm rn with h4 | h4 | h4
          · rw [cmpN_lt h4, cmpN_lt (by omega)]
          · rw [cmpN_eq h4, cmpN_eq (by omega)]
          · rw [cmpN_gt h4, cmpN_gt (by omega)]
    rw [← e]
    exact this

/-- what may be, in pieces -/
theorem chk_ok {d : Nat} {v : V} {deep : Int} (h : checkF (d + 1) v deep = 0) : deep ≤ 8 ∧ 0 ≤ v.kind ∧ v.kind ≤ 6 ∧ BareP v ∧ v.parts.length ≤ 32 ∧ namesB v = true ∧ ∀ k (hk : k < v.parts.length), checkF d v.parts[k] (deep + 1) = 0 := by
  by_cases h1 : 8 < deep
  · rw [chk1 h1] at h; omega
  · by_cases h2 : v.kind < 0 ∨ 6 < v.kind ∨ ¬ BareP v
    · rw [chk2 h1 h2] at h; omega
    · by_cases h3 : 32 < v.parts.length
      · rw [chk3 h1 h2 h3] at h; omega
      · by_cases h4 : namesB v = false
        · rw [chk4 h1 h2 h3 h4] at h; omega
        · have h4' : namesB v = true := by simpa using h4
          refine ⟨by omega, ?_, ?_, ?_, by omega, h4', ?_⟩
          · exact Int.not_lt.1 fun z => h2 (.inl z)
          · exact Int.not_lt.1 fun z => h2 (.inr (.inl z))
          · exact Classical.byContradiction fun z => h2 (.inr (.inr z))
          · have key : ∀ k, k ≤ v.parts.length → ∀ j (hj : j < v.parts.length), j < k → checkF d v.parts[j] (deep + 1) = 0 := by
              intro k
              induction k with
              | zero => intro _ j hj hjk; omega
              | succ k ih =>
                intro hk j hj hjk
                by_cases e : j = k
                · subst e
                  exact Classical.byContradiction fun hn => by
                    rw [chk5 h1 h2 h3 h4' hj (fun i hi hij => ih (by omega) i hi hij) hn] at h
                    exact hn h
                · exact ih (by omega) j hj (by omega)
            exact fun k hk => key v.parts.length (Nat.le_refl _) k hk hk
theorem namesP {v : V} (h : namesB v = true) : NamesP v := by unfold namesB at h; exact (@decide_eq_true_iff _ (Classical.propDecidable _)).1 h
/-- the parts' names: none but in structs, and there as many as parts -/
theorem names_many {d : Nat} {v : V} {deep : Int} (h : checkF (d + 1) v deep = 0) : (v.kind = 6 → v.names.length = v.parts.length) ∧ (v.kind ≠ 6 → v.names.length = 0) := by
  obtain ⟨_, _, _, hb, _, hn, _⟩ := chk_ok h
  exact ⟨(namesP hn).2, fun z => hb.2.2.2.2.resolve_left z⟩
def tlK (P : Nat → List UInt8) : Nat → Nat → List UInt8
  | 0, _ => [0]
  | c + 1, i => P i ++ tlK P c (i + 1)
def lexO (f : Nat → Ordering) : Nat → Nat → Nat → Ordering
  | 0, 0, _ => .eq
  | 0, _ + 1, _ => .lt
  | _ + 1, 0, _ => .gt
  | c + 1, e + 1, i => (f i).then (lexO f c e (i + 1))
theorem tlK_eq (P : Nat → List UInt8) : ∀ c i, (List.range' i c).flatMap P ++ [0] = tlK P c i := by
  intro c
  induction c with
  | zero => intro i; rfl
  | succ c ih => intro i; rw [List.range'_succ, List.flatMap_cons, List.append_assoc, ih]; rfl
theorem lex_tri {f : Nat → Ordering} {P Q : Nat → List UInt8} (h1 : ∀ i, ∃ r, P i = 1 :: r) (h2 : ∀ i, ∃ r, Q i = 1 :: r) : ∀ c e i, (∀ j, i ≤ j → j < i + c → j < i + e → Tri (f j) (P j) (Q j)) → Tri (lexO f c e i) (tlK P c i) (tlK Q e i) := by
  intro c
  induction c with
  | zero =>
    intro e i h
    cases e with
    | zero => exact rfl
    | succ e =>
      obtain ⟨r, hr⟩ := h2 i
      show Lt [0] (Q i ++ _)
      rw [hr]
      exact Lt.head (by decide) _ _
  | succ c ih =>
    intro e i h
    cases e with
    | zero =>
      obtain ⟨r, hr⟩ := h1 i
      show Lt [0] (P i ++ _)
      rw [hr]
      exact Lt.head (by decide) _ _
    | succ e => exact (h i (by omega) (by omega) (by omega)).then fun _ => ih e (i + 1) fun j a b c => h j (by omega) (by omega) (by omega)
theorem lexO_swap {f g : Nat → Ordering} : ∀ c e i, (∀ j, i ≤ j → j < i + c → j < i + e → g j = (f j).swap) → lexO g e c i = (lexO f c e i).swap := by
  intro c
  induction c with
  | zero => intro e i h; cases e <;> rfl
  | succ c ih =>
    intro e i h
    cases e with
    | zero => rfl
    | succ e =>
      show (g i).then _ = ((f i).then _).swap
      rw [h i (by omega) (by omega) (by omega), ih e (i + 1) fun j a b c => h j (by omega) (by omega) (by omega)]
      cases f i <;> rfl
/-- The order of values. -/
def prtO (f : V → V → Ordering) (a b : V) (i : Nat) : Ordering := (if a.kind = 6 then cmpL (a.names.getD i []) (b.names.getD i []) else .eq).then (f (a.parts.getD i default) (b.parts.getD i default))
def cmpF : Nat → V → V → Ordering
  | 0, _, _ => .eq
  | d + 1, a, b => if a.kind ≠ b.kind then cmpI a.kind b.kind else if a.kind = 1 then cmpB a.b b.b else if a.kind = 2 then cmpI a.n b.n else if a.kind = 3 ∨ a.kind = 4 then cmpL a.s b.s
      else lexO (prtO (cmpF d) a b) a.parts.length b.parts.length 0
theorem cmpI_swap (m n : Int) : cmpI n m = (cmpI m n).swap := by
  unfold cmpI
  by_cases h1 : m < n
  · rw [if_neg (by omega), if_pos h1, if_pos h1]; rfl
  · by_cases h2 : n < m
    · rw [if_pos h2, if_neg h1, if_pos h2]; rfl
    · rw [if_neg h2, if_neg h1, if_neg h1, if_neg h2]; rfl
theorem cmpB_swap (m n : Bool) : cmpB n m = (cmpB m n).swap := by cases m <;> cases n <;> rfl
theorem bless_asymm {a b : List UInt8} (h : bless a b = true) : bless b a = false := by
  cases h2 : bless b a with
  | false => rfl
  | true => have := bless_trans h h2; rw [bless_irrefl] at this; cases this
theorem cmpL_swap (m n : List UInt8) : cmpL n m = (cmpL m n).swap := by
  unfold cmpL
  cases h1 : bless m n with
  | true => rw [bless_asymm h1]; rfl
  | false => cases bless n m <;> rfl
theorem cmpL_lt {a b : List UInt8} : cmpL a b = .lt ↔ bless a b = true := by
  unfold cmpL
  cases bless a b with
  | true => simp
  | false => cases bless b a <;> simp
theorem cmpL_eq {a b : List UInt8} : cmpL a b = .eq ↔ a = b := by
  unfold cmpL
  cases h1 : bless a b with
  | true => simp; exact fun e => by subst e; rw [bless_irrefl] at h1; cases h1
  | false =>
    cases h2 : bless b a with
    | true => simp; exact fun e => by subst e; rw [bless_irrefl] at h2; cases h2
    | false => simp; exact bless_total h1 h2
theorem cmpF_same {d : Nat} {a b : V} (hk : a.kind = b.kind) : cmpF (d + 1) a b = if a.kind = 1 then cmpB a.b b.b else if a.kind = 2 then cmpI a.n b.n else if a.kind = 3 ∨ a.kind = 4 then cmpL a.s b.s else lexO (prtO (cmpF d) a b) a.parts.length b.parts.length 0 := by
  conv => lhs; unfold cmpF
  rw [if_neg (by simp [hk])]
theorem cmpF_diff {d : Nat} {a b : V} (hk : ¬ a.kind = b.kind) : cmpF (d + 1) a b = cmpI a.kind b.kind := by unfold cmpF; rw [if_pos hk]
theorem cmpF_swap : ∀ (d : Nat) (a b : V), cmpF d b a = (cmpF d a b).swap := by
  intro d
  induction d with
  | zero => intro a b; rfl
  | succ d ih =>
    intro a b
    by_cases hk : a.kind = b.kind
    · rw [cmpF_same hk, cmpF_same hk.symm, hk]
      by_cases k1 : b.kind = 1
      · rw [if_pos k1, if_pos k1]; exact cmpB_swap _ _
      · rw [if_neg k1, if_neg k1]
        by_cases k2 : b.kind = 2
        · rw [if_pos k2, if_pos k2]; exact cmpI_swap _ _
        · rw [if_neg k2, if_neg k2]
          by_cases k3 : b.kind = 3 ∨ b.kind = 4
          · rw [if_pos k3, if_pos k3]; exact cmpL_swap _ _
          · rw [if_neg k3, if_neg k3]
            refine lexO_swap _ _ _ fun j _ _ _ => ?_
            unfold prtO
            rw [hk, ih]
            by_cases k6 : b.kind = 6
            · rw [if_pos k6, if_pos k6, cmpL_swap]
              cases cmpL (a.names.getD j []) (b.names.getD j []) <;> rfl
            · rw [if_neg k6, if_neg k6]; rfl
    · rw [cmpF_diff hk, cmpF_diff (fun e => hk e.symm)]; exact cmpI_swap _ _
theorem keyF_head (d : Nat) (v : V) : ∃ r, keyF (d + 1) v = toB v.kind :: r := by
  unfold keyF
  repeat' split
  all_goals first | exact ⟨_, rfl⟩ | (unfold preK; exact ⟨_, rfl⟩)
theorem toB_kind {a b : Int} (h0 : 0 ≤ a) (h : a < b) (h6 : b ≤ 6) : toB a < toB b := by
  rw [UInt8.lt_iff_toNat_lt]
  have e1 : (toB a).toNat = a.toNat := by simp [toB]; omega
  have e2 : (toB b).toNat = b.toNat := by simp [toB]; omega
  rw [e1, e2]; omega
theorem xor_top (x : BitVec 64) : x ^^^ 9223372036854775808#64 = x + 9223372036854775808#64 := by
  apply BitVec.eq_of_toNat_eq
  rw [BitVec.toNat_xor, BitVec.toNat_add]
  have hx := x.isLt
  have e : (9223372036854775808#64).toNat = 2 ^ 63 := rfl
  rw [e]
  generalize x.toNat = n at *
  apply Nat.eq_of_testBit_eq
  intro i
  rw [Nat.testBit_xor, Nat.testBit_mod_two_pow, Nat.testBit_two_pow]
  by_cases h63 : n < 2 ^ 63
  · rw [Nat.add_comm]
    by_cases hi : i = 63
    · subst hi
      have : n.testBit 63 = false := Nat.testBit_lt_two_pow h63
      rw [Nat.testBit_two_pow_add_eq, this]; rfl
    · by_cases hi2 : i < 63
      · rw [Nat.testBit_two_pow_add_gt hi2]
        simp [show ¬ 63 = i by omega]; omega
      · have h1 : n.testBit i = false := Nat.testBit_lt_two_pow (Nat.lt_of_lt_of_le h63 (Nat.pow_le_pow_right (by decide) (by omega)))
        have h2 : ¬ i < 64 := by omega
        have h3 : ¬ 63 = i := by omega
        simp [h1, h2, h3]
  · obtain ⟨m, rfl⟩ : ∃ m, n = 2 ^ 63 + m := ⟨n - 2 ^ 63, by omega⟩
    have hm : m < 2 ^ 63 := by omega
    have e2 : 2 ^ 63 + m + 2 ^ 63 = 2 ^ 64 * 1 + m := by omega
    rw [e2]
    by_cases hi : i = 63
    · subst hi
      have : m.testBit 63 = false := Nat.testBit_lt_two_pow hm
      rw [Nat.testBit_two_pow_add_eq, this]
      rw [show 2 ^ 64 * 1 + m = 2 ^ 64 + m by omega, Nat.testBit_two_pow_add_gt (by omega), this]; rfl
    · by_cases hi2 : i < 63
      · rw [Nat.testBit_two_pow_add_gt hi2, show 2 ^ 64 * 1 + m = 2 ^ 64 + m by omega, Nat.testBit_two_pow_add_gt (by omega)]
        simp [show ¬ 63 = i by omega]; omega
      · have h1 : (2 ^ 63 + m).testBit i = false := Nat.testBit_lt_two_pow (Nat.lt_of_lt_of_le hx (Nat.pow_le_pow_right (by decide) (by omega)))
        have h2 : ¬ i < 64 := by omega
        have h3 : ¬ 63 = i := by omega
        rw [h1]
        simp [h2, h3]
theorem toInt_top (m : Int) (h1 : -9223372036854775808 ≤ m) (h2 : m ≤ 9223372036854775807) : (BitVec.ofInt 64 m + 9223372036854775808#64).toNat = (m + 9223372036854775808).toNat := by
  rw [BitVec.toNat_add, BitVec.toNat_ofInt]
  have e : (9223372036854775808#64).toNat = 9223372036854775808 := rfl
  rw [e]
  simp only [Nat.reducePow]
  omega
theorem beN_mod : ∀ (k m : Nat), beN k (m % 256 ^ k) = beN k m := by
  intro k m
  cases k with
  | zero => rfl
  | succ k =>
    unfold beN
    rw [Nat.mod_mod_of_dvd _ (Nat.pow_dvd_pow 256 (Nat.le_succ k)), Nat.pow_succ, Nat.mod_mul_right_div_self]
    congr 1
    apply UInt8.toNat_inj.1
    simp
theorem beN_succ (k m : Nat) : beN (k + 1) m = UInt8.ofNat (m / 256 ^ k) :: beN k m := by
  conv => lhs; unfold beN
  rw [beN_mod]
theorem numL_be (n : BitVec 64) : numL n = beN 8 n.toNat := by
  have e : ∀ i, toB ((n >>> i).toNat : Nat) = UInt8.ofNat (n.toNat / 2 ^ i) := fun i => by
    rw [BitVec.toNat_ushiftRight, Nat.shiftRight_eq_div_pow]
    generalize n.toNat / 2 ^ i = z
    unfold toB
    apply UInt8.toNat_inj.1
    simp
    omega
  simp only [beN_succ]
  show [numB n 0, numB n 1, numB n 2, numB n 3, numB n 4, numB n 5, numB n 6, numB n 7] = _
  unfold numB
  simp only [e]
  simp [beN]
theorem numK_tri {m n : Int} (hm : -9223372036854775808 ≤ m ∧ m ≤ 9223372036854775807) (hn : -9223372036854775808 ≤ n ∧ n ≤ 9223372036854775807) : Tri (cmpI m n) (numK m) (numK n) := by
  unfold numK
  rw [xor_top, xor_top, numL_be, numL_be, toInt_top m hm.1 hm.2, toInt_top n hn.1 hn.2]
  have := beN_tri 8 (m + 9223372036854775808).toNat (n + 9223372036854775808).toNat (by omega) (by omega)
  have e : cmpN (m + 9223372036854775808).toNat (n + 9223372036854775808).toNat = cmpI m n := by
    unfold cmpN cmpI
    by_cases h1 : m < n
    · rw [if_pos h1, if_pos (by omega)]
    · by_cases h2 : n < m
      · rw [if_neg h1, if_pos h2, if_neg (by omega), if_pos (by omega)]
      · rw [if_neg h1, if_neg h2, if_neg (by omega), if_neg (by omega)]
  rw [← e]; exact this

theorem part_one (f : V → List UInt8) (v : V) (i : Nat) : ∃ r, partK f v i = 1 :: r := ⟨_, rfl⟩
theorem key_tri : ∀ (d : Nat) (a b : V) (deep : Int) (ca cb : List Value) (B : Frag), ValR B d a ca → ValR B d b cb → checkF d a deep = 0 → checkF d b deep = 0 → Tri (cmpF d a b) (keyF d a) (keyF d b) := by
  intro d
  induction d with
  | zero => intro a b _ _ _ _ h; exact h.elim
  | succ d ih =>
    intro a b deep ca cb B hva hvb ha hb
    obtain ⟨_, a0, a6, aB, _, aN, aP⟩ := chk_ok ha
    obtain ⟨_, b0, b6, bB, _, bN, bP⟩ := chk_ok hb
    obtain ⟨an6, an0⟩ := names_many ha
    obtain ⟨bn6, bn0⟩ := names_many hb
    obtain ⟨_, _, _, _, _, ⟨_, an1, an2, _⟩, _, _, _, _, avp⟩ := hva
    obtain ⟨_, _, _, _, _, ⟨_, bn1, bn2, _⟩, _, _, _, _, bvp⟩ := hvb
    by_cases hk : a.kind = b.kind
    · rw [cmpF_same hk]
      unfold keyF
      rw [← hk]
      by_cases k1 : a.kind = 1
      · rw [if_pos k1, if_pos k1, if_pos k1]
        refine Tri.pre _ ?_
        cases a.b <;> cases b.b <;> first | exact rfl | exact Lt.head (by decide) _ _
      · rw [if_neg k1, if_neg k1, if_neg k1]
        by_cases k2 : a.kind = 2
        · rw [if_pos k2, if_pos k2, if_pos k2]
          exact Tri.pre _ (numK_tri ⟨an1, an2⟩ ⟨bn1, bn2⟩)
        · rw [if_neg k2, if_neg k2, if_neg k2]
          by_cases k3 : a.kind = 3 ∨ a.kind = 4
          · rw [if_pos k3, if_pos k3, if_pos k3]
            exact Tri.pre _ (text_tri _ _)
          · rw [if_neg k3, if_neg k3, if_neg k3]
            by_cases k5 : a.kind = 5 ∨ a.kind = 6
            · rw [if_pos k5, if_pos k5]
              unfold preK
              rw [List.append_assoc, List.append_assoc, List.range_eq_range', List.range_eq_range', tlK_eq, tlK_eq, hk]
              refine Tri.pre _ (lex_tri (part_one _ _) (part_one _ _) _ _ _ fun j _ hj1 hj2 => ?_)
              have hja : j < a.parts.length := by omega
              have hjb : j < b.parts.length := by omega
              obtain ⟨_, _, _, _, _, ya, _, _, _, va⟩ := avp j hja
              obtain ⟨_, _, _, _, _, yb, _, _, _, vb⟩ := bvp j hjb
              have hi := ih _ _ _ _ _ _ va vb (aP j hja) (bP j hjb)
              unfold partK prtO
              rw [getDp hja, getDp hjb]
              by_cases k6 : a.kind = 6
              · rw [if_pos k6, if_pos (by have := an6 k6; omega), if_pos (by have := bn6 (by omega); omega)]
                rw [List.append_assoc, List.append_assoc]
                exact Tri.pre [1] ((text_tri _ _).then fun _ => hi)
              · rw [if_neg k6, if_neg (by have := an0 k6; omega), if_neg (by have := bn0 (by omega); omega)]
                exact Tri.pre _ hi
            · rw [if_neg k5, if_neg k5]
              have e1 : a.parts.length = 0 := (aB.2.2.2.1).resolve_left (by omega) |>.resolve_left (by omega)
              have e2 : b.parts.length = 0 := (bB.2.2.2.1).resolve_left (by omega) |>.resolve_left (by omega)
              rw [e1, e2]
              exact rfl
    · obtain ⟨ra, ea⟩ := keyF_head d a
      obtain ⟨rb, eb⟩ := keyF_head d b
      rw [cmpF_diff hk, ea, eb]
      unfold cmpI
      by_cases h1 : a.kind < b.kind
      · rw [if_pos h1]; exact Lt.head (toB_kind a0 h1 b6) _ _
      · rw [if_neg h1, if_pos (by omega)]; exact Lt.head (toB_kind b0 (by omega) a6) _ _
theorem Lt.less {p q : List UInt8} (h : Lt p q) : bless p q = true := by have := h [] []; simpa using this
theorem Lt.nopre {p q : List UInt8} (h : Lt p q) : ¬ (p.length ≤ q.length ∧ q.take p.length = p) := fun ⟨h1, h2⟩ => by
  have := h (q.drop p.length) []
  have e := List.take_append_drop p.length q
  rw [h2] at e
  rw [e, List.append_nil, bless_irrefl] at this
  cases this
theorem Lt.nopre2 {p q : List UInt8} (h : Lt q p) : ¬ (p.length ≤ q.length ∧ q.take p.length = p) := fun ⟨h1, h2⟩ => by
  have := h [] (q.drop p.length)
  have e := List.take_append_drop p.length q
  rw [h2] at e
  rw [e, List.append_nil, bless_irrefl] at this
  cases this
end KeF
end Go.Proofs.YtfnfkoldifpmhaaDoor
