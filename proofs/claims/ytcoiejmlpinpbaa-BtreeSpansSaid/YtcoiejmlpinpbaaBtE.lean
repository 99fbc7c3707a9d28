/-
  A full node halved: the tree.
-/
import Derived.Test.YtcoiejmlpinpbaaProg
import Derived.Test.YtcoiejmlpinpbaaSlj
import Derived.Test.YtcoiejmlpinpbaaBtD
namespace Go.Proofs.Ytcoiejmlpinpbaa
open Go.SL Go.RowKit
set_option linter.unusedVariables false
set_option linter.unusedSimpArgs false
set_option maxRecDepth 100000
open BtA BtB BtC BtD
namespace BtE


theorem ctFrame {P : Program} {f : FuncId} {args : List Value} {B : Frag} {pre : HP} {Φ : Value → Frag → HP → Prop} (F : HP) (h : Ct P f args B pre Φ) : Ct P f args B (pre * F) (fun v B' H' => ∃ H0, Φ v B' H0 ∧ H' = H0 * F) :=
  ⟨h.1, fun N0 w R s => by
    refine (h.2 N0 w (F * R) (s.of_eq (star_assoc _ _ _))).mono ?_
    rintro x w' ⟨v, B', H', hx, hΦ, hB, hb, s2⟩
    exact ⟨v, B', H' * F, hx, ⟨H', hΦ, rfl⟩, hB, hb, s2.of_eq (star_assoc _ _ _).symm⟩⟩
theorem ctTo {P : Program} {f : FuncId} {args : List Value} {B : Frag} {pre pre' : HP} {Φ Ψ : Value → Frag → HP → Prop} (h : Ct P f args B pre Φ) (he : pre' = pre) (hw : ∀ v B' H', Φ v B' H' → Ψ v B' H') : Ct P f args B pre' Ψ := by
  subst he
  exact ⟨h.1, fun N0 w R s => (h.2 N0 w R s).mono fun x w' ⟨v, B', H', hx, hΦ, hB, hb, s2⟩ => ⟨v, B', H', hx, hw _ _ _ hΦ, hB, hb, s2⟩⟩
/-- c with the kid at i in two -/
def Halved (c : C) (i : Nat) (kid c' : C) : Prop := ∃ L M : C, c'.b = c.b ∧ c'.ks = c.ks.take i ++ [kid.ks.getD 3 []] ++ c.ks.drop i ∧ c'.vs = c.vs.take i ++ [kid.vs.getD 3 []] ++ c.vs.drop i ∧ c'.cs = c.cs.take i ++ [L, M] ++ c.cs.drop (i + 1) ∧
  L.b = kid.b ∧ L.ks = kid.ks.take 3 ∧ L.vs = kid.vs.take 3 ∧ L.cs = kid.cs.take 4 ∧ M.ks = kid.ks.drop 4 ∧ M.vs = kid.vs.drop 4 ∧ M.cs = kid.cs.drop 4
theorem take1 {α : Type} (l : List α) {i : Nat} (h : i < l.length) : (l.drop i).take 1 = [l[i]] := by
  rw [List.drop_eq_getElem_cons h]; rfl
theorem take_succ1 {α : Type} (l : List α) {i : Nat} (h : i < l.length) : l.take (i + 1) = l.take i ++ [l[i]] := by
  rw [List.take_succ_eq_append_getElem h]
theorem pts_all (l : List C) : (l.map pt).all (·.oneCell') = true := by
  rw [List.all_eq_true]; intro v hv; obtain ⟨x, _, rfl⟩ := List.mem_map.1 hv; rfl
theorem getD3 {l : List Str8} (h : l.length = 7) : l.getD 3 [] = l[3]'(by omega) := by simp [List.getD, show 3 < l.length by omega]
theorem halve_ct (N : Nat) (hN : N ≤ 90) (d : Nat) (c : C) (i : Nat) (hi : i < c.cs.length) (hok : Ok N (d + 2) c) (h7 : c.cs[i].ks.length = 7) (B : Frag) :
    Ct Try.prog 34 [.pointer (some ⟨c.b, 0, none⟩), i64 i] B (tr (d + 2) c) (fun v B' H' => v = .tuple #[] ∧ B' = B ∧ ∃ c', H' = tr (d + 2) c' ∧ Halved c i c.cs[i] c') := by
  obtain ⟨hv, hk, hcs, hkids⟩ := hok
  have hkid := hkids _ (List.getElem_mem hi)
  generalize hg : c.cs[i] = kid at *
  obtain ⟨kv, kk, kcs, _⟩ := hkid
  have hpl : c.cs.length = c.ks.length + 1 := by rcases hcs with h | h; rw [h] at hi; simp at hi; exact h
  have hq : kid.cs.length = 0 ∨ kid.cs.length = 8 := by rcases kcs with h | h; left; simp [h]; right; omega
  have hraw := halve_raw c.b c.ks.length c.cs.length kid.cs.length i kid.b c.Ak c.Av c.Ac kid.Ak kid.Av kid.Ac c.ck c.cv c.cc kid.ck kid.cv kid.cc c.ks c.vs kid.ks kid.vs (c.cs.map pt) (kid.cs.map pt) (kid.ks.getD 3 []) (kid.vs.getD 3 []) B (by omega) hpl hi rfl hv (by simp) h7 (by omega) hq (by simp)
    (by rw [Nat.zero_add, Nat.mul_one, take1 _ (by simpa using hi)]; simp [hg, pt]) (by rw [take1 _ (by simp; omega), getD3 h7]; simp) (by rw [take1 _ (by simp; omega), getD3 (show kid.vs.length = 7 by omega)]; simp) (pts_all _) (pts_all _)
  refine ctTo (ctFrame (trs (tr d) kid.cs * (trs (tr (d + 1)) (c.cs.take i) * trs (tr (d + 1)) (c.cs.drop (i + 1)))) hraw) ?_ ?_
  · show nrow c * (kbuf c * (vbuf c * (cbuf c * trs (tr (d + 1)) c.cs))) = _
    rw [trs_at _ _ _ hi, hg]
    show nrow c * (kbuf c * (vbuf c * (cbuf c * ((nrow kid * (kbuf kid * (vbuf kid * (cbuf kid * trs (tr d) kid.cs)))) * (trs (tr (d + 1)) (c.cs.take i) * trs (tr (d + 1)) (c.cs.drop (i + 1))))))) = _
    unfold nrow kbuf vbuf cbuf ncells
    rw [hv, h7, show kid.vs.length = 7 by omega]
    ac_rfl
  · rintro v B' H' ⟨H0, ⟨rfl, rfl, Ak', ck', Av', cv', Ac', cc', cc2', Ac2', b3, Ak3, ck3, Av3, cv3, Ac3, cc3, rfl⟩, rfl⟩
    have hL : (kid.cs.take 4).length = min kid.cs.length 4 := by simp; omega
    have hM : (kid.cs.drop 4).length = kid.cs.length - 4 := by simp
    refine ⟨rfl, rfl, .mk c.b Ak' ck' Av' cv' Ac' cc' (c.ks.take i ++ [kid.ks.getD 3 []] ++ c.ks.drop i) (c.vs.take i ++ [kid.vs.getD 3 []] ++ c.vs.drop i) (c.cs.take i ++ [.mk kid.b kid.Ak kid.ck kid.Av kid.cv Ac2' cc2' (kid.ks.take 3) (kid.vs.take 3) (kid.cs.take 4), .mk b3 Ak3 ck3 Av3 cv3 Ac3 cc3 (kid.ks.drop 4) (kid.vs.drop 4) (kid.cs.drop 4)] ++ c.cs.drop (i + 1)), ?_, _, _, rfl, rfl, rfl, rfl, rfl, rfl, rfl, rfl, rfl, rfl, rfl⟩
    have l1 : (c.ks.take i ++ [kid.ks.getD 3 []] ++ c.ks.drop i).length = c.ks.length + 1 := by simp; omega
    have l2 : (c.vs.take i ++ [kid.vs.getD 3 []] ++ c.vs.drop i).length = c.ks.length + 1 := by simp; omega
    have hcut : trs (tr d) kid.cs = trs (tr d) (kid.cs.take 4) * trs (tr d) (kid.cs.drop 4) := by rw [← trs_app, List.take_append_drop]
    have l3 : (c.cs.take i ++ [C.mk kid.b kid.Ak kid.ck kid.Av kid.cv Ac2' cc2' (kid.ks.take 3) (kid.vs.take 3) (kid.cs.take 4), .mk b3 Ak3 ck3 Av3 cv3 Ac3 cc3 (kid.ks.drop 4) (kid.vs.drop 4) (kid.cs.drop 4)] ++ c.cs.drop (i + 1)).length = c.cs.length + 1 := by simp; omega
    have l4 : (c.cs.map pt).take ((i + 1) * 1) ++ [.pointer (some ⟨b3, 0, none⟩)] ++ (c.cs.map pt).drop ((i + 1) * 1) = (c.cs.take i ++ [C.mk kid.b kid.Ak kid.ck kid.Av kid.cv Ac2' cc2' (kid.ks.take 3) (kid.vs.take 3) (kid.cs.take 4), .mk b3 Ak3 ck3 Av3 cv3 Ac3 cc3 (kid.ks.drop 4) (kid.vs.drop 4) (kid.cs.drop 4)] ++ c.cs.drop (i + 1)).map pt := by
      rw [Nat.mul_one, take_succ1 _ (by simpa using hi)]
      simp [hg, pt, C.b]
    rw [l4, hcut]
    show _ = row c.b 70 [.slice Ak' (c.ks.take i ++ [kid.ks.getD 3 []] ++ c.ks.drop i).length ck', .slice Av' (c.vs.take i ++ [kid.vs.getD 3 []] ++ c.vs.drop i).length cv', .slice Ac' (c.cs.take i ++ [C.mk kid.b kid.Ak kid.ck kid.Av kid.cv Ac2' cc2' (kid.ks.take 3) (kid.vs.take 3) (kid.cs.take 4), .mk b3 Ak3 ck3 Av3 cv3 Ac3 cc3 (kid.ks.drop 4) (kid.vs.drop 4) (kid.cs.drop 4)] ++ c.cs.drop (i + 1)).length cc'] *
      (sbuf 9 1 Ak' (c.ks.take i ++ [kid.ks.getD 3 []] ++ c.ks.drop i).length ck' ((c.ks.take i ++ [kid.ks.getD 3 []] ++ c.ks.drop i).map str) * (sbuf 9 1 Av' (c.vs.take i ++ [kid.vs.getD 3 []] ++ c.vs.drop i).length cv' ((c.vs.take i ++ [kid.vs.getD 3 []] ++ c.vs.drop i).map str) *
      (sbuf 67 1 Ac' (c.cs.take i ++ [C.mk kid.b kid.Ak kid.ck kid.Av kid.cv Ac2' cc2' (kid.ks.take 3) (kid.vs.take 3) (kid.cs.take 4), .mk b3 Ak3 ck3 Av3 cv3 Ac3 cc3 (kid.ks.drop 4) (kid.vs.drop 4) (kid.cs.drop 4)] ++ c.cs.drop (i + 1)).length cc' ((c.cs.take i ++ [C.mk kid.b kid.Ak kid.ck kid.Av kid.cv Ac2' cc2' (kid.ks.take 3) (kid.vs.take 3) (kid.cs.take 4), .mk b3 Ak3 ck3 Av3 cv3 Ac3 cc3 (kid.ks.drop 4) (kid.vs.drop 4) (kid.cs.drop 4)] ++ c.cs.drop (i + 1)).map pt) * trs (tr (d + 1)) (c.cs.take i ++ [C.mk kid.b kid.Ak kid.ck kid.Av kid.cv Ac2' cc2' (kid.ks.take 3) (kid.vs.take 3) (kid.cs.take 4), .mk b3 Ak3 ck3 Av3 cv3 Ac3 cc3 (kid.ks.drop 4) (kid.vs.drop 4) (kid.cs.drop 4)] ++ c.cs.drop (i + 1)))))
    rw [l1, l2, l3, trs_app, trs_app]
    show _ = _ * (_ * (_ * (_ * ((trs (tr (d + 1)) (c.cs.take i) * ((row kid.b 70 [.slice kid.Ak (kid.ks.take 3).length kid.ck, .slice kid.Av (kid.vs.take 3).length kid.cv, .slice Ac2' (kid.cs.take 4).length cc2'] * (sbuf 9 1 kid.Ak (kid.ks.take 3).length kid.ck ((kid.ks.take 3).map str) * (sbuf 9 1 kid.Av (kid.vs.take 3).length kid.cv ((kid.vs.take 3).map str) * (sbuf 67 1 Ac2' (kid.cs.take 4).length cc2' ((kid.cs.take 4).map pt) * trs (tr d) (kid.cs.take 4))))) *
      ((row b3 70 [.slice Ak3 (kid.ks.drop 4).length ck3, .slice Av3 (kid.vs.drop 4).length cv3, .slice Ac3 (kid.cs.drop 4).length cc3] * (sbuf 9 1 Ak3 (kid.ks.drop 4).length ck3 ((kid.ks.drop 4).map str) * (sbuf 9 1 Av3 (kid.vs.drop 4).length cv3 ((kid.vs.drop 4).map str) * (sbuf 67 1 Ac3 (kid.cs.drop 4).length cc3 ((kid.cs.drop 4).map pt) * trs (tr d) (kid.cs.drop 4))))) * 1))) * _))))
    rw [hL, hM, show (kid.ks.take 3).length = 3 by simp; omega, show (kid.vs.take 3).length = 3 by simp; omega, show (kid.ks.drop 4).length = 7 - 4 by simp; omega, show (kid.vs.drop 4).length = 7 - 4 by simp; omega, star_comm _ (1 : HP), one_star]
    simp only [List.map_append, List.map_take, List.map_drop, List.map_cons, List.map_nil, Nat.mul_one]
    ac_rfl
end BtE
end Go.Proofs.Ytcoiejmlpinpbaa
