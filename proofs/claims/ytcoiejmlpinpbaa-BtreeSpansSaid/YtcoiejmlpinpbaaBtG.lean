/-
  What a node has: laws of insertion.
-/
import Derived.Test.YtcoiejmlpinpbaaProg
import Derived.Test.YtcoiejmlpinpbaaSlj
import Derived.Test.YtcoiejmlpinpbaaBtE
namespace Go.Proofs.Ytcoiejmlpinpbaa
open Go.SL Go.RowKit
set_option linter.unusedVariables false
set_option linter.unusedSimpArgs false
set_option maxRecDepth 100000
open BtA BtB BtC BtD BtE
namespace BtG


def preL (f : C → List (Str8 × Str8)) : List Str8 → List Str8 → List C → List (Str8 × Str8)
  | k :: ks, v :: vs, c :: cs => f c ++ (k, v) :: preL f ks vs cs
  | _, _, _ => []
def posL (f : C → List (Str8 × Str8)) : List Str8 → List Str8 → List C → List (Str8 × Str8)
  | k :: ks, v :: vs, c :: cs => (k, v) :: (f c ++ posL f ks vs cs)
  | _, _, _ => []
theorem io_leaf (f : C → List (Str8 × Str8)) : ∀ (ks vs : List Str8), vs.length = ks.length → ioL f ks vs [] = ks.zip vs := by
  intro ks
  induction ks with
  | nil => intro vs h; cases vs with
    | nil => rfl
    | cons v vs => simp at h
  | cons k ks ih => intro vs h; cases vs with
    | nil => simp at h
    | cons v vs => show (k, v) :: ioL f ks vs [] = (k, v) :: ks.zip vs; rw [ih vs (by simpa using h)]
theorem io_pos (f : C → List (Str8 × Str8)) : ∀ (ks vs : List Str8) (c : C) (cs : List C), vs.length = ks.length → cs.length = ks.length → ioL f ks vs (c :: cs) = f c ++ posL f ks vs cs := by
  intro ks
  induction ks with
  | nil => intro vs c cs h h2; cases vs with
    | nil => show f c = f c ++ []; simp
    | cons v vs => simp at h
  | cons k ks ih => intro vs c cs h h2; cases vs with
    | nil => simp at h
    | cons v vs => cases cs with
      | nil => simp at h2
      | cons c2 cs => show f c ++ (k, v) :: ioL f ks vs (c2 :: cs) = f c ++ ((k, v) :: (f c2 ++ posL f ks vs cs)); rw [ih vs c2 cs (by simpa using h) (by simpa using h2)]
theorem io_split (f : C → List (Str8 × Str8)) : ∀ (i : Nat) (ks vs : List Str8) (cs : List C) (h : i < cs.length), vs.length = ks.length → cs.length = ks.length + 1 → ioL f ks vs cs = preL f (ks.take i) (vs.take i) (cs.take i) ++ (f cs[i] ++ posL f (ks.drop i) (vs.drop i) (cs.drop (i + 1))) := by
  intro i
  induction i with
  | zero =>
    intro ks vs cs h h1 h2
    cases cs with
    | nil => simp at h
    | cons c cs => exact io_pos f ks vs c cs h1 (by simpa using h2)
  | succ i ih =>
    intro ks vs cs h h1 h2
    cases cs with
    | nil => simp at h
    | cons c cs => cases ks with
      | nil => simp at h2; subst h2; simp at h
      | cons k ks => cases vs with
        | nil => simp at h1
        | cons v vs =>
          have h' : i < cs.length := by simpa using h
          show f c ++ (k, v) :: ioL f ks vs cs = (f c ++ (k, v) :: preL f (ks.take i) (vs.take i) (cs.take i)) ++ (f cs[i] ++ posL f (ks.drop i) (vs.drop i) (cs.drop (i + 1)))
          rw [ih ks vs cs h' (by simpa using h1) (by simpa using h2)]
          simp
/-- the last of what is ahead -/
theorem pre_last (f : C → List (Str8 × Str8)) : ∀ (i : Nat) (ks vs : List Str8) (cs : List C) (h : i < ks.length) (h1 : i < vs.length) (h2 : i < cs.length), preL f (ks.take (i + 1)) (vs.take (i + 1)) (cs.take (i + 1)) = preL f (ks.take i) (vs.take i) (cs.take i) ++ (f cs[i] ++ [(ks[i], vs[i])]) := by
  intro i
  induction i with
  | zero =>
    intro ks vs cs h h1 h2
    cases ks with
    | nil => simp at h
    | cons k ks => cases vs with
      | nil => simp at h1
      | cons v vs => cases cs with
        | nil => simp at h2
        | cons c cs => rfl
  | succ i ih =>
    intro ks vs cs h h1 h2
    cases ks with
    | nil => simp at h
    | cons k ks => cases vs with
      | nil => simp at h1
      | cons v vs => cases cs with
        | nil => simp at h2
        | cons c cs =>
          have e1 : i < ks.length := by simpa using h
          have e2 : i < vs.length := by simpa using h1
          have e3 : i < cs.length := by simpa using h2
          show f c ++ (k, v) :: preL f (ks.take (i + 1)) (vs.take (i + 1)) (cs.take (i + 1)) = (f c ++ (k, v) :: preL f (ks.take i) (vs.take i) (cs.take i)) ++ (f cs[i] ++ [(ks[i], vs[i])])
          rw [ih ks vs cs (by simpa using h) (by simpa using h1) (by simpa using h2)]
          simp
theorem pos_first (f : C → List (Str8 × Str8)) {ks vs : List Str8} {cs : List C} {i : Nat} (h : i < ks.length) (h1 : i < vs.length) (h2 : i + 1 < cs.length) : posL f (ks.drop i) (vs.drop i) (cs.drop (i + 1)) = (ks[i], vs[i]) :: (f cs[i + 1] ++ posL f (ks.drop (i + 1)) (vs.drop (i + 1)) (cs.drop (i + 2))) := by
  rw [List.drop_eq_getElem_cons h, List.drop_eq_getElem_cons h1, List.drop_eq_getElem_cons h2]; rfl
theorem Ord.left {a b : List (Str8 × Str8)} (h : Ord (a ++ b)) : Ord a := (List.pairwise_append.1 h).1
theorem Ord.right {a b : List (Str8 × Str8)} (h : Ord (a ++ b)) : Ord b := (List.pairwise_append.1 h).2.1
theorem Ord.cross {a b : List (Str8 × Str8)} (h : Ord (a ++ b)) : ∀ x ∈ a, ∀ y ∈ b, bless x.1 y.1 = true := (List.pairwise_append.1 h).2.2
theorem lb_spec {ks : List Str8} {t : Str8} (hs : Srt ks) : (∀ j (hj : j < ks.length), j < lb ks t → bless ks[j] t = true) ∧ (∀ h : lb ks t < ks.length, bless ks[lb ks t] t = false) := by
  induction ks with
  | nil => exact ⟨fun j hj => absurd hj (by simp), fun h => absurd h (by simp)⟩
  | cons k ks ih =>
    have hs2 : Srt ks := (List.pairwise_cons.1 hs).2
    obtain ⟨g1, g2⟩ := ih hs2
    by_cases hk : bless k t = true
    · have e : lb (k :: ks) t = lb ks t + 1 := by
        conv => lhs; unfold lb
        rw [if_pos hk]
      refine ⟨fun j hj hjl => ?_, fun h => ?_⟩
      · cases j with
        | zero => exact hk
        | succ j => exact g1 j (by simpa using hj) (by omega)
      · have h' : lb ks t < ks.length := by rw [e] at h; simpa using h
        have e2 : (k :: ks)[lb (k :: ks) t] = ks[lb ks t] := by simp [e]
        rw [e2]; exact g2 h'
    · have e : lb (k :: ks) t = 0 := by unfold lb; rw [if_neg hk]
      refine ⟨fun j hj hjl => absurd hjl (by omega), fun h => ?_⟩
      have e2 : (k :: ks)[lb (k :: ks) t] = k := by simp [e]
      rw [e2]; simpa using hk
end BtG
end Go.Proofs.Ytcoiejmlpinpbaa
