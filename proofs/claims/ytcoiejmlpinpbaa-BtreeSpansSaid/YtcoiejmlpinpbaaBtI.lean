/-
  Put: a leaf, a key that is there.
-/
import Derived.Test.YtcoiejmlpinpbaaProg
import Derived.Test.YtcoiejmlpinpbaaSlj
import Derived.Test.YtcoiejmlpinpbaaBtH
namespace Go.Proofs.Ytcoiejmlpinpbaa
open Go.SL Go.RowKit
set_option linter.unusedVariables false
set_option linter.unusedSimpArgs false
set_option maxRecDepth 100000
open BtA BtB BtC BtD BtE BtG BtH
namespace BtI


theorem zip_below {ks vs : List Str8} {k : Str8} (hs : Srt ks) : ∀ p ∈ (ks.take (lb ks k)).zip (vs.take (lb ks k)), bless p.1 k = true := by
  intro p hp
  have h1 : p.1 ∈ ks.take (lb ks k) := (List.of_mem_zip (show (p.1, p.2) ∈ _ from hp)).1
  obtain ⟨j, hj, e⟩ := List.getElem_of_mem h1
  rw [List.length_take] at hj
  rw [← e, List.getElem_take]
  exact (lb_spec hs).1 j (by omega) (by omega)
theorem above_lb {ks : List Str8} {k : Str8} (hs : Srt ks) (hk : k ∉ ks) : ∀ x ∈ ks.drop (lb ks k), bless k x = true := by
  intro x hx
  obtain ⟨j, hj, e⟩ := List.getElem_of_mem hx
  rw [List.length_drop] at hj
  rw [List.getElem_drop] at e
  have hl : lb ks k < ks.length := by omega
  have h0 := (lb_spec hs).2 hl
  have hkl : bless k ks[lb ks k] = true := by
    cases hb : bless k ks[lb ks k] with
    | true => rfl
    | false => exact absurd (by rw [← bless_total h0 hb]; exact List.getElem_mem hl) hk
  rw [← e]
  cases j with
  | zero => exact hkl
  | succ j => exact bless_trans hkl (hs.lt (by omega) (by omega))
theorem zip_above {ks vs : List Str8} {k : Str8} (hs : Srt ks) (hk : k ∉ ks) : ∀ p ∈ (ks.drop (lb ks k)).zip (vs.drop (lb ks k)), bless k p.1 = true := fun p hp =>
  above_lb hs hk p.1 (List.of_mem_zip (show (p.1, p.2) ∈ _ from hp)).1
theorem zip_cut {ks vs : List Str8} (i : Nat) (h : vs.length = ks.length) : ks.zip vs = (ks.take i).zip (vs.take i) ++ (ks.drop i).zip (vs.drop i) := by
  rw [← List.zip_append (by simp [h]), List.take_append_drop, List.take_append_drop]
theorem zip_keys {ks vs : List Str8} (h : vs.length = ks.length) : (ks.zip vs).map (·.1) = ks := List.map_fst_zip (by omega)
theorem put_leaf {N d b ck cv cc ck2 cv2 : Nat} {Ak Av Ac Ak2 Av2 : Option Addr} {ks vs : List Str8} {k v : Str8} (hok : Ok N (d + 1) (.mk b Ak ck Av cv Ac cc ks vs [])) (hs : Srt ks) (hk : k ∉ ks) (h7 : ks.length < N) :
    PutR N d (.mk b Ak ck Av cv Ac cc ks vs []) k v (.mk b Ak2 ck2 Av2 cv2 Ac cc (ks.take (lb ks k) ++ [k] ++ ks.drop (lb ks k)) (vs.take (lb ks k) ++ [v] ++ vs.drop (lb ks k)) []) (.bool true) := by
  have hv : vs.length = ks.length := hok.1
  have e0 : io (d + 1) (.mk b Ak ck Av cv Ac cc ks vs []) = ks.zip vs := io_leaf (io d) ks vs hv
  refine ⟨⟨?_, ?_, .inl rfl, fun p hp => by cases hp⟩, ?_, ?_⟩
  · show (vs.take _ ++ [v] ++ vs.drop _).length = (ks.take _ ++ [k] ++ ks.drop _).length
    simp; omega
  · show (ks.take _ ++ [k] ++ ks.drop _).length ≤ N
    simp; omega
  · have hv2 : (vs.take (lb ks k) ++ [v] ++ vs.drop (lb ks k)).length = (ks.take (lb ks k) ++ [k] ++ ks.drop (lb ks k)).length := by simp; omega
    have e1 : io (d + 1) (.mk b Ak2 ck2 Av2 cv2 Ac cc (ks.take (lb ks k) ++ [k] ++ ks.drop (lb ks k)) (vs.take (lb ks k) ++ [v] ++ vs.drop (lb ks k)) []) = (ks.take (lb ks k) ++ [k] ++ ks.drop (lb ks k)).zip (vs.take (lb ks k) ++ [v] ++ vs.drop (lb ks k)) := io_leaf (io d) _ _ hv2
    rw [e0, e1, zip_cut (lb ks k) hv, insP_below (zip_below hs)]
    have e2 : insP k v ((ks.drop (lb ks k)).zip (vs.drop (lb ks k))) = (k, v) :: (ks.drop (lb ks k)).zip (vs.drop (lb ks k)) := insP_above (a := []) (zip_above hs hk)
    rw [e2, List.append_assoc, List.append_assoc, List.zip_append (by simp [hv])]
    rfl
  · rw [e0, zip_keys hv, decide_eq_false hk]; rfl
theorem put_found {N d b ck cv cc : Nat} {Ak Av Ac : Option Addr} {ks vs : List Str8} {cs : List C} {k v : Str8} (hok : Ok N (d + 1) (.mk b Ak ck Av cv Ac cc ks vs cs)) (ho : Ord (io (d + 1) (.mk b Ak ck Av cv Ac cc ks vs cs))) (hs : Srt ks) (hk : k ∈ ks) (hl : lb ks k < ks.length) (hat : ks[lb ks k] = k) :
    PutR N d (.mk b Ak ck Av cv Ac cc ks vs cs) k v (.mk b Ak ck Av cv Ac cc ks (vs.set (lb ks k) v) cs) (.bool false) := by
  have hv : vs.length = ks.length := hok.1
  have hcs : cs = [] ∨ cs.length = ks.length + 1 := hok.2.2.1
  have hv3 : ∀ v, (vs.set (lb ks k) v).length = ks.length := fun v => by rw [List.length_set]; exact hv
  refine ⟨⟨by show (vs.set _ _).length = _; rw [List.length_set]; exact hv, hok.2.1, hok.2.2.1, hok.2.2.2⟩, ?_, ?_⟩
  · rcases hcs with rfl | hc
    · have e0 : io (d + 1) (.mk b Ak ck Av cv Ac cc ks vs []) = ks.zip vs := io_leaf (io d) ks vs hv
      have e1 : io (d + 1) (.mk b Ak ck Av cv Ac cc ks (vs.set (lb ks k) v) []) = ks.zip (vs.set (lb ks k) v) := io_leaf (io d) ks (vs.set (lb ks k) v) (hv3 v)
      rw [e0, e1, zip_cut (lb ks k) hv, zip_cut (lb ks k) (by rw [List.length_set]; exact hv), insP_below (zip_below hs), List.take_set_of_le (by omega), List.drop_eq_getElem_cons hl, List.drop_eq_getElem_cons (l := vs) (by omega), List.drop_eq_getElem_cons (l := vs.set _ _) (by rw [List.length_set]; omega), List.getElem_set_self, List.drop_set_of_lt (by omega)]
      simp only [List.zip_cons_cons, hat]
      rw [insP_at]
    · have hlv : lb ks k < vs.length := by omega
      have e0 := io_split (io d) (lb ks k) ks vs cs (by omega) hv hc
      have e1 := io_split (io d) (lb ks k) ks (vs.set (lb ks k) v) cs (by omega) (by rw [List.length_set]; exact hv) hc
      rw [pos_first (io d) hl hlv (by omega)] at e0
      rw [pos_first (io d) hl (by rw [List.length_set]; omega) (by omega), List.take_set_of_le (by omega), List.drop_set_of_lt (by omega), List.getElem_set_self] at e1
      have ho' : Ord (ioL (io d) ks vs cs) := ho
      rw [e0, ← List.append_assoc] at ho'
      show ioL (io d) ks (vs.set (lb ks k) v) cs = insP k v (ioL (io d) ks vs cs)
      rw [e0, e1, ← List.append_assoc, ← List.append_assoc, hat, insP_below (fun p hp => by have := Ord.cross ho' p hp (ks[lb ks k], vs[lb ks k]) (by simp); rw [hat] at this; exact this), insP_at]
  · have h1 := (keys_sub (io d) ks vs cs hv).subset hk
    have h2 : k ∈ (io (d + 1) (.mk b Ak ck Av cv Ac cc ks vs cs)).map (·.1) := h1
    rw [decide_eq_true h2]; rfl
end BtI
end Go.Proofs.Ytcoiejmlpinpbaa
