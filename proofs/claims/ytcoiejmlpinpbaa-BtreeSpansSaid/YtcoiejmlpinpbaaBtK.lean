/-
  Get.
-/
import Derived.Test.YtcoiejmlpinpbaaProg
import Derived.Test.YtcoiejmlpinpbaaSlj
import Derived.Test.YtcoiejmlpinpbaaBtJ
namespace Go.Proofs.Ytcoiejmlpinpbaa
open Go.SL Go.RowKit
set_option linter.unusedVariables false
set_option linter.unusedSimpArgs false
set_option maxRecDepth 100000
open BtA BtB BtC BtD BtE BtG BtH BtI BtF BtJ
namespace BtK


/-- the value at k -/
def lkp (k : Str8) : List (Str8 × Str8) → Str8
  | [] => []
  | p :: l => if p.1 = k then p.2 else lkp k l
theorem lkp_skip {k : Str8} : ∀ {a l : List (Str8 × Str8)}, (∀ p ∈ a, p.1 ≠ k) → lkp k (a ++ l) = lkp k l := by
  intro a
  induction a with
  | nil => intro l _; rfl
  | cons p a ih => intro l h; show (if p.1 = k then p.2 else lkp k (a ++ l)) = _; rw [if_neg (h p (by simp)), ih fun q hq => h q (by simp [hq])]
theorem lkp_none {k : Str8} : ∀ {l : List (Str8 × Str8)}, (∀ p ∈ l, p.1 ≠ k) → lkp k l = [] := by
  intro l h
  have := lkp_skip (a := l) (l := []) h
  rw [List.append_nil] at this
  exact this
theorem lkp_cut {k : Str8} {a l : List (Str8 × Str8)} (h : ∀ p ∈ l, p.1 ≠ k) : lkp k (a ++ l) = lkp k a := by
  induction a with
  | nil => exact lkp_none h
  | cons p a ih => show (if p.1 = k then p.2 else lkp k (a ++ l)) = if p.1 = k then p.2 else lkp k a; rw [ih]
theorem ne_of_below {k x : Str8} (h : bless x k = true) : x ≠ k := fun e => by rw [e, bless_irrefl] at h; cases h
theorem ne_of_above {k x : Str8} (h : bless k x = true) : x ≠ k := fun e => by rw [e, bless_irrefl] at h; cases h
/-- at a key of the node itself -/
theorem lkp_here {N d : Nat} {c : C} {k : Str8} (hok : Ok N (d + 1) c) (ho : Ord (io (d + 1) c)) (hl : lb c.ks k < c.ks.length) (hat : c.ks[lb c.ks k] = k) (hv : lb c.ks k < c.vs.length) : lkp k (io (d + 1) c) = c.vs[lb c.ks k] ∧ k ∈ (io (d + 1) c).map (·.1) := by
  have hs := srt_of hok ho
  have hvl := hok.1
  refine ⟨?_, (keys_sub (io d) c.ks c.vs c.cs hvl).subset (by rw [← hat]; exact List.getElem_mem hl)⟩
  rcases hok.2.2.1 with hc | hc
  · have e0 : io (d + 1) c = c.ks.zip c.vs := by show ioL _ _ _ c.cs = _; rw [hc]; exact io_leaf (io d) c.ks c.vs hvl
    rw [e0, zip_cut (lb c.ks k) hvl, lkp_skip (fun p hp => ne_of_below (zip_below hs p hp)), List.drop_eq_getElem_cons hl, List.drop_eq_getElem_cons hv]
    show (if c.ks[lb c.ks k] = k then _ else _) = _
    rw [if_pos hat]
  · have e0 := io_split (io d) (lb c.ks k) c.ks c.vs c.cs (by omega) hvl hc
    rw [pos_first (io d) hl hv (by omega), ← List.append_assoc] at e0
    have ho' : Ord (ioL (io d) c.ks c.vs c.cs) := ho
    show lkp k (ioL (io d) c.ks c.vs c.cs) = _
    rw [e0] at ho' ⊢
    rw [lkp_skip (fun p hp => ne_of_below (by have := Ord.cross ho' p hp (c.ks[lb c.ks k], c.vs[lb c.ks k]) (by simp); rw [hat] at this; exact this))]
    show (if c.ks[lb c.ks k] = k then _ else _) = _
    rw [if_pos hat]
/-- in a leaf that has it not -/
theorem lkp_leaf {N d : Nat} {c : C} {k : Str8} (hok : Ok N (d + 1) c) (hk : k ∉ c.ks) (hc : c.cs = []) : lkp k (io (d + 1) c) = [] ∧ k ∉ (io (d + 1) c).map (·.1) := by
  have e0 : io (d + 1) c = c.ks.zip c.vs := by show ioL _ _ _ c.cs = _; rw [hc]; exact io_leaf (io d) c.ks c.vs hok.1
  rw [e0]
  refine ⟨lkp_none fun p hp e => hk (by rw [← e]; exact (List.of_mem_zip (show (p.1, p.2) ∈ _ from hp)).1), by rw [zip_keys hok.1]; exact hk⟩
/-- in the kid -/
theorem lkp_kid {N d : Nat} {c : C} {k : Str8} (hok : Ok N (d + 1) c) (ho : Ord (io (d + 1) c)) (hk : k ∉ c.ks) (hi : lb c.ks k < c.cs.length) : lkp k (io (d + 1) c) = lkp k (io d c.cs[lb c.ks k]) ∧ (k ∈ (io (d + 1) c).map (·.1) ↔ k ∈ (io d c.cs[lb c.ks k]).map (·.1)) ∧ Ok1 d c.cs[lb c.ks k] ∧ Ord (io d c.cs[lb c.ks k]) := by
  have hc : c.cs.length = c.ks.length + 1 := by rcases hok.2.2.1 with z | z; rw [z] at hi; simp at hi; exact z
  obtain ⟨e, hP, hQ⟩ := around hok ho hk hi hc
  have ho' := ho
  rw [e] at ho' ⊢
  refine ⟨?_, ?_, hok.2.2.2 _ (List.getElem_mem hi), Ord.left (Ord.right ho')⟩
  · rw [lkp_skip (fun p hp => ne_of_below (hP p hp)), lkp_cut (fun p hp => ne_of_above (hQ p hp))]
  · simp only [List.map_append, List.mem_append]
    refine ⟨fun h => ?_, fun h => .inr (.inl h)⟩
    rcases h with h | h | h
    · obtain ⟨p, hp, e2⟩ := List.mem_map.1 h; exact absurd e2 (ne_of_below (hP p hp))
    · exact h
    · obtain ⟨p, hp, e2⟩ := List.mem_map.1 h; exact absurd e2 (ne_of_above (hQ p hp))
end BtK
end Go.Proofs.Ytcoiejmlpinpbaa
