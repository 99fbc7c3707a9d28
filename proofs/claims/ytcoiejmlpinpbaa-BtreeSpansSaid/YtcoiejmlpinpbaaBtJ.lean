/-
  Put into a node, whole.
-/
import Derived.Test.YtcoiejmlpinpbaaProg
import Derived.Test.YtcoiejmlpinpbaaSlj
import Derived.Test.YtcoiejmlpinpbaaBtF
namespace Go.Proofs.Ytcoiejmlpinpbaa
open Go.SL Go.RowKit
set_option linter.unusedVariables false
set_option linter.unusedSimpArgs false
set_option maxRecDepth 100000
open BtA BtB BtC BtD BtE BtG BtH BtI BtF
namespace BtJ


theorem take_left3 {α : Type} {a b c : List α} {i : Nat} (h : a.length = i) : (a ++ b ++ c).take i = a ∧ (a ++ b ++ c).drop i = b ++ c := by
  subst h; rw [List.append_assoc]; exact ⟨List.take_left, List.drop_left⟩
theorem io_kid7 {d : Nat} {kid L M : C} (hok : Ok1 (d + 1) kid) (h7 : kid.ks.length = 7) (l1 : L.ks = kid.ks.take 3) (l2 : L.vs = kid.vs.take 3) (l3 : L.cs = kid.cs.take 4) (m1 : M.ks = kid.ks.drop 4) (m2 : M.vs = kid.vs.drop 4) (m3 : M.cs = kid.cs.drop 4) :
    io (d + 1) kid = io (d + 1) L ++ (kid.ks.getD 3 [], kid.vs.getD 3 []) :: io (d + 1) M := by
  obtain ⟨hv, _, hc, _⟩ := hok
  have hv7 : kid.vs.length = 7 := by omega
  show ioL (io d) kid.ks kid.vs kid.cs = ioL (io d) L.ks L.vs L.cs ++ _ :: ioL (io d) M.ks M.vs M.cs
  rw [l1, l2, l3, m1, m2, m3, getD3 h7, getD3 hv7]
  rcases hc with hc | hc
  · rw [hc, List.take_nil, List.drop_nil, io_leaf _ _ _ hv, io_leaf _ _ _ (by simp; omega), io_leaf _ _ _ (by simp; omega), zip_cut 3 hv, List.drop_eq_getElem_cons (show 3 < kid.ks.length by omega), List.drop_eq_getElem_cons (show 3 < kid.vs.length by omega)]
    rfl
  · have hc8 : kid.cs.length = 8 := by omega
    rw [io_split (io d) 3 kid.ks kid.vs kid.cs (by omega) hv hc, pos_first (io d) (show 3 < kid.ks.length by omega) (by omega) (by omega)]
    have e1 : ioL (io d) (kid.ks.take 3) (kid.vs.take 3) (kid.cs.take 4) = preL (io d) (kid.ks.take 3) (kid.vs.take 3) (kid.cs.take 3) ++ io d (kid.cs[3]'(by omega)) := by
      rw [io_split (io d) 3 _ _ _ (by simp; omega) (by simp; omega) (by simp; omega)]
      rw [List.take_take, List.take_take, List.take_take, List.getElem_take, List.drop_of_length_le (l := kid.ks.take 3) (by simp; omega)]
      have : posL (io d) [] ((kid.vs.take 3).drop 3) ((kid.cs.take 4).drop (3 + 1)) = [] := by cases (kid.vs.take 3).drop 3 <;> rfl
      rw [this, List.append_nil]; rfl
    have e2 : ioL (io d) (kid.ks.drop 4) (kid.vs.drop 4) (kid.cs.drop 4) = io d (kid.cs[3 + 1]'(by omega)) ++ posL (io d) (kid.ks.drop (3 + 1)) (kid.vs.drop (3 + 1)) (kid.cs.drop (3 + 2)) := by
      rw [List.drop_eq_getElem_cons (show 4 < kid.cs.length by omega)]
      exact io_pos _ _ _ _ _ (by simp; omega) (by simp; omega)
    rw [e1, e2]
    simp
theorem halved_io {N d : Nat} {c c' : C} {i : Nat} (hi : i < c.cs.length) (hok : Ok N (d + 2) c) (hc : c.cs.length = c.ks.length + 1) (h7 : c.cs[i].ks.length = 7) (hh : Halved c i c.cs[i] c') (hfull : c.ks.length < N) : Ok N (d + 2) c' ∧ io (d + 2) c' = io (d + 2) c ∧ c'.b = c.b ∧ c'.cs.length = c'.ks.length + 1 ∧ (∀ j (hj : j < c'.cs.length), j = i ∨ j = i + 1 → c'.cs[j].ks.length = 3) := by
  obtain ⟨L, M, hb, hks, hvs, hcs, lb1, l1, l2, l3, m1, m2, m3⟩ := hh
  have hv := hok.1
  have hkid := hok.2.2.2 _ (List.getElem_mem hi)
  have hio := io_kid7 hkid h7 l1 l2 l3 m1 m2 m3
  obtain ⟨kv, _, kc, kk⟩ := hkid
  have hil : (c.cs.take i).length = i := by simp; omega
  have lk : c'.ks.length = c.ks.length + 1 := by rw [hks]; simp; omega
  have lv : c'.vs.length = c.ks.length + 1 := by rw [hvs]; simp; omega
  have lc : c'.cs.length = c.cs.length + 1 := by rw [hcs]; simp; omega
  have hci : i < c'.cs.length := by omega
  have eL : c'.cs[i] = L := by
    have h9 : c'.cs[i]? = some L := by rw [hcs, List.append_assoc, List.getElem?_append_right (by omega), hil, Nat.sub_self]; rfl
    obtain ⟨_, e⟩ := List.getElem?_eq_some_iff.1 h9; exact e
  have eM : c'.cs[i + 1]'(by omega) = M := by
    have h9 : c'.cs[i + 1]? = some M := by rw [hcs, List.append_assoc, List.getElem?_append_right (by omega), hil, Nat.add_sub_cancel_left]; rfl
    obtain ⟨_, e⟩ := List.getElem?_eq_some_iff.1 h9; exact e
  have okL : Ok1 (d + 1) L := by
    refine ⟨by rw [l1, l2]; simp; omega, by rw [l1]; simp; omega, ?_, fun p hp => kk p (by rw [l3] at hp; exact List.mem_of_mem_take hp)⟩
    rcases kc with h | h
    · left; rw [l3, h]; rfl
    · right; rw [l3, l1]; simp; omega
  have okM : Ok1 (d + 1) M := by
    refine ⟨by rw [m1, m2]; simp; omega, by rw [m1]; simp; omega, ?_, fun p hp => kk p (by rw [m3] at hp; exact List.mem_of_mem_drop hp)⟩
    rcases kc with h | h
    · left; rw [m3, h]; rfl
    · right; rw [m3, m1]; simp; omega
  refine ⟨⟨by omega, by omega, .inr (by omega), fun p hp => ?_⟩, ?_, hb, by omega, fun j hj hji => ?_⟩
  · rw [hcs] at hp
    simp only [List.mem_append, List.mem_cons, List.not_mem_nil, or_false] at hp
    rcases hp with (hp | rfl | rfl) | hp
    · exact hok.2.2.2 p (List.mem_of_mem_take hp)
    · exact okL
    · exact okM
    · exact hok.2.2.2 p (List.mem_of_mem_drop hp)
  · show ioL (io (d + 1)) c'.ks c'.vs c'.cs = ioL (io (d + 1)) c.ks c.vs c.cs
    rw [io_split _ i c'.ks c'.vs c'.cs hci (by omega) (by omega), io_split _ i c.ks c.vs c.cs hi hv hc, eL, hio]
    obtain ⟨a1, a2⟩ := take_left3 (i := i) (a := c.ks.take i) (b := [c.cs[i].ks.getD 3 []]) (c := c.ks.drop i) (by simp; omega)
    obtain ⟨b1, b2⟩ := take_left3 (i := i) (a := c.vs.take i) (b := [c.cs[i].vs.getD 3 []]) (c := c.vs.drop i) (by simp; omega)
    obtain ⟨c1, c2⟩ := take_left3 (i := i) (a := c.cs.take i) (b := [L, M]) (c := c.cs.drop (i + 1)) hil
    have c3 : c'.cs.drop (i + 1) = M :: c.cs.drop (i + 1) := by
      have : c'.cs.drop (i + 1) = (c'.cs.drop i).drop 1 := by rw [List.drop_drop]
      rw [this, hcs, c2]; rfl
    rw [hks, hvs, a1, a2, b1, b2, c3, hcs, c1]
    show preL _ _ _ _ ++ (io (d + 1) L ++ ((c.cs[i].ks.getD 3 [], c.cs[i].vs.getD 3 []) :: (io (d + 1) M ++ posL _ (c.ks.drop i) (c.vs.drop i) (c.cs.drop (i + 1))))) = _
    simp
  · rcases hji with rfl | rfl
    · rw [eL, l1]; simp; omega
    · rw [eM, m1]; simp; omega
theorem lb_halved {ks : List Str8} {k m : Str8} (hs : Srt ks) (hk : k ∉ ks) (hs' : Srt (ks.take (lb ks k) ++ [m] ++ ks.drop (lb ks k))) : lb (ks.take (lb ks k) ++ [m] ++ ks.drop (lb ks k)) k = lb ks k ∨ lb (ks.take (lb ks k) ++ [m] ++ ks.drop (lb ks k)) k = lb ks k + 1 := by
  have hle := lb_le ks k
  obtain ⟨g1, g2⟩ := lb_spec (t := k) hs
  obtain ⟨f1, f2⟩ := lb_spec (t := k) hs'
  have hll := lb_le (ks.take (lb ks k) ++ [m] ++ ks.drop (lb ks k)) k
  have e1 : ∀ j (hj : j < lb ks k) (hj2 : j < ks.length), (ks.take (lb ks k) ++ [m] ++ ks.drop (lb ks k))[j]? = some ks[j] := fun j hj hj2 => by
    rw [List.append_assoc, List.getElem?_append_left (by simp; omega), List.getElem?_take, if_pos hj, List.getElem?_eq_getElem]
  have e2 : ∀ (h : lb ks k < ks.length), (ks.take (lb ks k) ++ [m] ++ ks.drop (lb ks k))[lb ks k + 1]? = some ks[lb ks k] := fun h => by
    rw [List.getElem?_append_right (by simp; omega)]
    simp [Nat.min_eq_left hle, List.getElem?_drop]
  have hlen : (ks.take (lb ks k) ++ [m] ++ ks.drop (lb ks k)).length = ks.length + 1 := by simp; omega
  generalize ks.take (lb ks k) ++ [m] ++ ks.drop (lb ks k) = L at *
  rcases Nat.lt_trichotomy (lb L k) (lb ks k) with h | h | h
  · have a := f2 (by omega)
    obtain ⟨_, e⟩ := List.getElem?_eq_some_iff.1 (e1 _ h (by omega))
    rw [e, g1 _ (by omega) h] at a; cases a
  · exact .inl h
  · rcases Nat.lt_or_ge (lb ks k + 1) (lb L k) with h2 | h2
    · have a := f1 (lb ks k + 1) (by omega) h2
      have hl : lb ks k < ks.length := by omega
      obtain ⟨_, e⟩ := List.getElem?_eq_some_iff.1 (e2 hl)
      rw [e, g2 hl] at a; cases a
    · exact .inr (by omega)
theorem putc (k v : Str8) : ∀ (d N : Nat) (hN : N ≤ 90) (c : C) (B : Frag), Ok N (d + 1) c → Ord (io (d + 1) c) → c.ks.length < N → PutC N d c k v B := by
  intro d
  induction d with
  | zero =>
    intro N hN c B hok ho h7
    exact put_step N 0 hN c k v B hok ho (srt_of hok ho) (fun _ => h7) (fun h _ _ => (hok.2.2.2 _ (List.getElem_mem h)).elim) (fun h _ _ => (hok.2.2.2 _ (List.getElem_mem h)).elim)
  | succ d ihd =>
    have kids : ∀ (N : Nat) (c : C) (B : Frag), Ok N (d + 2) c → Ord (io (d + 2) c) → ∀ (h : lb c.ks k < c.cs.length), k ∉ c.ks → c.cs[lb c.ks k].ks.length ≠ 7 → ∃ d2, d + 1 = d2 + 1 ∧ PutC 7 d2 c.cs[lb c.ks k] k v B := fun N c B hok ho h hk h7 => by
      have okk := hok.2.2.2 _ (List.getElem_mem h)
      have hc : c.cs.length = c.ks.length + 1 := by rcases hok.2.2.1 with z | z; rw [z] at h; simp at h; exact z
      obtain ⟨e, _, _⟩ := around hok ho hk h hc
      rw [e] at ho
      exact ⟨d, rfl, ihd 7 (by decide) _ B (Ok.of1 okk) (Ord.left (Ord.right ho)) (by have := okk.2.1; omega)⟩
    intro N hN c B hok ho h7
    refine put_step N (d + 1) hN c k v B hok ho (srt_of hok ho) (fun _ => h7) (kids N c B hok ho) ?_
    intro h hk h7k c' hh
    have hc : c.cs.length = c.ks.length + 1 := by rcases hok.2.2.1 with z | z; rw [z] at h; simp at h; exact z
    obtain ⟨ok', io', hb', hc', h3⟩ := halved_io h hok hc h7k hh h7
    have ho' : Ord (io (d + 2) c') := by rw [io']; exact ho
    have hs' := srt_of ok' ho'
    obtain ⟨_, _, _, hks, _⟩ := hh
    have hlb : lb c'.ks k = lb c.ks k ∨ lb c'.ks k = lb c.ks k + 1 := by rw [hks] at hs' ⊢; exact lb_halved (srt_of hok ho) hk hs'
    have hp := put_step N (d + 1) hN c' k v B ok' ho' hs' (fun z => by rw [z] at hc'; simp at hc') (kids N c' B ok' ho') (fun h2 _ h72 => absurd h72 (by rw [h3 _ h2 hlb]; decide))
    rw [← hb']
    refine Ct.mono hp ?_
    rintro r B' H' ⟨hB, c2, hH, hb2, p1, p2, p3⟩
    exact ⟨hB, c2, hH, hb2.trans hb', p1, by rw [p2]; show insP k v (io (d + 2) c') = _; rw [io'], by rw [p3]; show Value.bool (!decide (k ∈ (io (d + 2) c').map (·.1))) = _; rw [io']⟩
end BtJ
end Go.Proofs.Ytcoiejmlpinpbaa
