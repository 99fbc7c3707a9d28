/-
  Put: what the node has behind it.
-/
import Derived.Test.YtcoiejmlpinpbaaProg
import Derived.Test.YtcoiejmlpinpbaaSlj
import Derived.Test.YtcoiejmlpinpbaaBtG
namespace Go.Proofs.Ytcoiejmlpinpbaa
open Go.SL Go.RowKit
set_option linter.unusedVariables false
set_option linter.unusedSimpArgs false
set_option maxRecDepth 100000
open BtA BtB BtC BtD BtE BtG
namespace BtH


theorem keys_sub (f : C → List (Str8 × Str8)) : ∀ (ks vs : List Str8) (cs : List C), vs.length = ks.length → ks.Sublist ((ioL f ks vs cs).map (·.1)) := by
  intro ks
  induction ks with
  | nil => intro vs cs _; exact List.nil_sublist _
  | cons k ks ih =>
    intro vs cs h
    cases vs with
    | nil => simp at h
    | cons v vs =>
      have h' : vs.length = ks.length := by simpa using h
      cases cs with
      | nil => exact (ih vs [] h').cons_cons k
      | cons c cs =>
        show (k :: ks).Sublist ((f c ++ (k, v) :: ioL f ks vs cs).map (·.1))
        rw [List.map_append]
        exact ((ih vs cs h').cons_cons k).trans (List.sublist_append_right _ _)
theorem srt_of {N d : Nat} {c : C} (hok : Ok N (d + 1) c) (ho : Ord (io (d + 1) c)) : Srt c.ks := by
  have h1 := keys_sub (io d) c.ks c.vs c.cs hok.1
  have h2 : ((ioL (io d) c.ks c.vs c.cs).map (·.1)).Pairwise (fun a b => bless a b = true) := List.pairwise_map.2 ho
  exact h2.sublist h1
/-- all that stands beside the kid below which k belongs -/
theorem around {N d : Nat} {c : C} {k : Str8} (hok : Ok N (d + 1) c) (ho : Ord (io (d + 1) c)) (hk : k ∉ c.ks) (hi : lb c.ks k < c.cs.length) (hc : c.cs.length = c.ks.length + 1) :
    let P := preL (io d) (c.ks.take (lb c.ks k)) (c.vs.take (lb c.ks k)) (c.cs.take (lb c.ks k))
    let Q := posL (io d) (c.ks.drop (lb c.ks k)) (c.vs.drop (lb c.ks k)) (c.cs.drop (lb c.ks k + 1))
    io (d + 1) c = P ++ (io d c.cs[lb c.ks k] ++ Q) ∧ (∀ p ∈ P, bless p.1 k = true) ∧ (∀ q ∈ Q, bless k q.1 = true) := by
  intro P Q
  have hs := srt_of hok ho
  have hv := hok.1
  obtain ⟨g1, g2⟩ := lb_spec (t := k) hs
  have e : io (d + 1) c = P ++ (io d c.cs[lb c.ks k] ++ Q) := io_split (io d) _ c.ks c.vs c.cs hi hv hc
  rw [e] at ho
  refine ⟨e, ?_, ?_⟩
  · have hoP := Ord.left ho
    intro p hp
    cases hl : lb c.ks k with
    | zero =>
      have : P = [] := by show preL _ (c.ks.take (lb c.ks k)) _ _ = []; rw [hl]; rfl
      rw [this] at hp; cases hp
    | succ i =>
      have hik : i < c.ks.length := by omega
      have eP : P = preL (io d) (c.ks.take i) (c.vs.take i) (c.cs.take i) ++ (io d (c.cs[i]'(by omega)) ++ [(c.ks[i], c.vs[i]'(by omega))]) := by
        show preL _ (c.ks.take (lb c.ks k)) (c.vs.take (lb c.ks k)) (c.cs.take (lb c.ks k)) = _
        rw [hl]; exact pre_last (io d) i c.ks c.vs c.cs hik (by omega) (by omega)
      have hki := g1 i hik (by omega)
      rw [eP, ← List.append_assoc] at hp hoP
      rcases List.mem_append.1 hp with hp | hp
      · exact bless_trans (Ord.cross hoP p hp (c.ks[i], c.vs[i]'(by omega)) (by simp)) hki
      · have : p = (c.ks[i], c.vs[i]'(by omega)) := by simpa using hp
        rw [this]; exact hki
  · have hoQ := Ord.right (Ord.right ho)
    intro q hq
    by_cases hl : lb c.ks k < c.ks.length
    · have eQ : Q = (c.ks[lb c.ks k], c.vs[lb c.ks k]'(by omega)) :: _ := pos_first (io d) hl (by omega) (by omega)
      have hkl : bless k c.ks[lb c.ks k] = true := by
        cases hb : bless k c.ks[lb c.ks k] with
        | true => rfl
        | false => exact absurd (by rw [← bless_total (g2 hl) hb]; exact List.getElem_mem hl) hk
      rw [eQ] at hq hoQ
      rcases List.mem_cons.1 hq with rfl | hq
      · exact hkl
      · exact bless_trans hkl ((List.pairwise_cons.1 hoQ).1 q hq)
    · have : Q = [] := by show posL _ (c.ks.drop (lb c.ks k)) _ _ = []; rw [List.drop_of_length_le (by omega)]; cases c.vs.drop (lb c.ks k) <;> rfl
      rw [this] at hq; cases hq
def PutR (N d : Nat) (c : C) (k v : Str8) (c' : C) (r : Value) : Prop := Ok N (d + 1) c' ∧ io (d + 1) c' = insP k v (io (d + 1) c) ∧ r = .bool (!decide (k ∈ (io (d + 1) c).map (·.1)))
theorem put_deep {N d : Nat} {c kid2 : C} {k v : Str8} {r : Value} (hok : Ok N (d + 2) c) (ho : Ord (io (d + 2) c)) (hk : k ∉ c.ks) (hi : lb c.ks k < c.cs.length) (hc : c.cs.length = c.ks.length + 1) (hkr : PutR 7 d c.cs[lb c.ks k] k v kid2 r) :
    PutR N (d + 1) c k v (.mk c.b c.Ak c.ck c.Av c.cv c.Ac c.cc c.ks c.vs (c.cs.set (lb c.ks k) kid2)) r := by
  obtain ⟨e, hP, hQ⟩ := around hok ho hk hi hc
  obtain ⟨k1, k2, k3⟩ := hkr
  refine ⟨⟨hok.1, hok.2.1, .inr (by show (c.cs.set _ _).length = _; rw [List.length_set]; exact hc), fun p hp => ?_⟩, ?_, ?_⟩
  · rcases List.mem_or_eq_of_mem_set hp with h | rfl
    · exact hok.2.2.2 p h
    · exact k1
  · have e2 := io_split (io (d + 1)) (lb c.ks k) c.ks c.vs (c.cs.set (lb c.ks k) kid2) (by rw [List.length_set]; exact hi) hok.1 (by rw [List.length_set]; exact hc)
    show ioL (io (d + 1)) c.ks c.vs (c.cs.set (lb c.ks k) kid2) = _
    rw [e2, e, insP_below hP, insP_above hQ, List.getElem_set_self, k2, List.take_set_of_le (by omega), List.drop_set_of_lt (by omega)]
  · rw [k3, e]
    congr 2
    refine decide_eq_decide.2 ⟨fun h => ?_, fun h => ?_⟩
    · rw [List.map_append, List.map_append]; simp [h]
    · rw [List.map_append, List.map_append] at h
      simp only [List.mem_append] at h
      rcases h with h | h | h
      · obtain ⟨p, hp, rfl⟩ := List.mem_map.1 h
        have := hP p hp; rw [bless_irrefl] at this; cases this
      · exact h
      · obtain ⟨p, hp, rfl⟩ := List.mem_map.1 h
        have := hQ p hp; rw [bless_irrefl] at this; cases this
end BtH
end Go.Proofs.Ytcoiejmlpinpbaa
