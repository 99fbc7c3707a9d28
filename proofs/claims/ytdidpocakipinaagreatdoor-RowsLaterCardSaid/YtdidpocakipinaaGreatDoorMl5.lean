/-
  Texts of this seat, one behind the other: DrD, BtQ, BtR, DrE, DrF, RgB, SlC, RwA, RwB, RwC, RwD.
-/
import Derived.Test.YtdidpocakipinaaGreatDoorProg
import Derived.Test.YtdidpocakipinaaGreatDoorMl4

/-
  A kid with too few keys is mended; the greatest key of a node goes.
-/
namespace Go.Proofs.YtdidpocakipinaaGreatDoor
open Go.SL Go.RowKit
set_option linter.unusedVariables false
set_option linter.unusedSimpArgs false
set_option maxRecDepth 100000
open Ke1 Ke3 Ke4 Ke5 Ke6 Ke7 Ke8 Ke9 KeA KeB KeC KeD KeE KeF KeG KeI RgA BtB BtC BtD BtE BtG BtX BtH BtI BtF BtJ BtN BtO BtY BtZ DrA DrB DrC
namespace DrD
theorem sz9 : (Tryz.prog.info? 9).map (·.size) = some 1 := by kernel_rfl
theorem sz23 : (Tryz.prog.info? 23).map (·.size) = some 1 := by kernel_rfl
theorem sz110 : (Tryz.prog.info? 110).map (·.size) = some 1 := by kernel_rfl
theorem fo113_0 : FO Tryz.prog 113 0 0 1 false := FO.of Tryz.underlying113 rfl rfl (by kernel_rfl) Tryz.underlying23 rfl rfl
theorem fo113_1 : FO Tryz.prog 113 1 1 1 false := FO.of Tryz.underlying113 rfl rfl (by kernel_rfl) Tryz.underlying23 rfl rfl
theorem fo113_2 : FO Tryz.prog 113 2 2 1 false := FO.of Tryz.underlying113 rfl rfl (by kernel_rfl) Tryz.underlying111 rfl rfl

theorem fl_ct2 (N d : Nat) (hN : N ≤ 90) (c : C) (i : Nat) (h0 : 0 < i) (hi : i < c.cs.length) (hok : Ok N (d + 2) c) (hx : MnX i (d + 2) c) (h4 : 4 ≤ (c.cs[i - 1]'(by omega)).ks.length) (h3 : c.cs[i].ks.length < 3) (B : Frag) :
    Ct Tryz.prog 102 [.pointer (some ⟨c.b, 0, none⟩), i64 ((i : Nat) : Int)] B (tr (d + 2) c) (MdQ N d c B) := by
  obtain ⟨j, rfl⟩ : ∃ j, i = j + 1 := ⟨i - 1, by omega⟩
  exact fl_ct N d hN c j hi hok hx h4 h3 B
theorem join_ct2 (N d : Nat) (hN : N ≤ 90) (c : C) (i : Nat) (h0 : 0 < i) (hi : i < c.cs.length) (hok : Ok N (d + 2) c) (hx : MnX i (d + 2) c) (h4 : (c.cs[i - 1]'(by omega)).ks.length ≤ 3) (h3 : c.cs[i].ks.length < 3) (B : Frag) :
    Ct Tryz.prog 104 [.pointer (some ⟨c.b, 0, none⟩), i64 ((i - 1 : Nat) : Int)] B (tr (d + 2) c) (MdQ N d c B) := by
  obtain ⟨j, rfl⟩ : ∃ j, i = j + 1 := ⟨i - 1, by omega⟩
  simp only [Nat.add_sub_cancel] at h4 ⊢
  exact join_ct N d hN c j (j + 1) hi hok hx (.inr rfl) (by omega) B
/-- the same; what has enough keys stays -/
def MdQ2 (N d : Nat) (c : C) (i : Nat) (hi : i < c.cs.length) (B : Frag) (v : Value) (B' : Frag) (H' : HP) : Prop := v = .tuple #[] ∧ B' = B ∧ ∃ c', H' = tr (d + 2) c' ∧ Mended N d c c' ∧ (3 ≤ c.cs[i].ks.length → c' = c)
theorem mend_not {N d i : Nat} {c : C} (hok : Ok N (d + 2) c) (hx : MnX i (d + 2) c) (hi : i < c.cs.length) (h3 : 3 ≤ c.cs[i].ks.length) : Mended N d c c :=
  ⟨rfl, hok, hx.full (fun p hp => by rw [List.getElem?_eq_getElem hi] at hp; obtain rfl := Option.some.inj hp; exact h3), rfl, by omega, by omega⟩

set_option maxHeartbeats 4000000 in
theorem mend_ct (N d : Nat) (hN : N ≤ 90) (c : C) (i : Nat) (B : Frag) (hi : i < c.cs.length) (hok : Ok N (d + 2) c) (hx : MnX i (d + 2) c) (h1 : 1 ≤ c.ks.length) : Ct Tryz.prog 86 [.pointer (some ⟨c.b, 0, none⟩), i64 (i : Nat)] B (tr (d + 2) c) (MdQ2 N d c i hi B) := by
  have hcl : c.cs.length = c.ks.length + 1 := by rcases hok.2.2.1 with z | z; rw [z] at hi; simp at hi; exact z
  have hkN := hok.2.1
  obtain ⟨b, Ak, ck, Av, cv, Ac, cc, ks, vs, cs⟩ := c
  simp only [C.b, C.ks, C.vs, C.cs] at hi h1 hcl hkN ⊢
  refine Ct.of_body Tryz.func86 rfl (nt := 73) rfl (by kernel_rfl) rfl ?_
  intro N0 w0 R
  rw [tr_succ]
  simp only [star_assoc, nrow, kbuf, vbuf, cbuf, ncells, C.b, C.Ak, C.ck, C.Av, C.cv, C.Ac, C.cc, C.ks, C.vs, C.cs]
  refine Xx.addrT Ac (by omega) (fun bC hAc hcx hcc => ?_)
  subst hAc
  refine Cx.seq (fun K1 k1 => ?_)
  refine Cx.seq (fun K2 k2 => ?_)
  refine Cx.region ?_
  refine Lx.y (mv rfl) rfl ?_
  refine Lx.y (nilc rfl) rfl ?_
  refine Lx.y (fa' fo113_2 rfl) rfl ?_
  refine Lx.y (ld Tryz.underlying111 rfl rfl rfl) rfl ?_
  refine Lx.y (mv rfl) rfl ?_
  refine Lx.y (ia Tryz.underlying111 sz110 rfl rfl (by first | exact Int.toNat_natCast _ | rfl) (by omega) (by omega)) rfl ?_
  refine Lx.y (ldC Tryz.underlying110 rfl rfl (Cells.buf (m := 1) (kid_at hi) (by rw [List.length_map]; omega))) rfl ?_
  refine Lx.y (nilc rfl) rfl ?_
  refine Lx.y (fa' fo113_0 rfl) rfl ?_
  refine Lx.y (ldC Tryz.underlying23 rfl rfl (under (under (under (under (kid_keys hi)))))) rfl ?_
  refine Lx.y (lenV (ty' := 0) Tryz.underlying23 rfl) rfl ?_
  refine Lx.y (geq rfl rfl) rfl ?_
  refine Lx.nil ?_
  refine Xx.tn (k2 _ _ _ _ ?_)
  refine Cx.condD rfl (fun h3 => ?_) (fun h3 => ?_)
  · skip
    have h3 := h3
    have h3 : 3 ≤ cs[i].ks.length := by omega
    refine Cx.ret ?_
    refine Xx.tr ?_
    exact Xx.ret0 rfl ⟨rfl, rfl, (.mk b Ak ck Av cv (some ⟨bC, 0, none⟩) cc ks vs cs), rfl, mend_not hok hx hi h3, fun _ => rfl⟩ (Frag.le_refl _) (by rw [← fold_tr]; ac_rfl)
  · skip
    have h3 := h3
    have h3 : cs[i].ks.length < 3 := by omega
    refine Cx.skip ?_
    refine Xx.tn (k1 _ _ _ _ ?_)
    refine Cx.block ?_
    refine Cx.seq (fun K4 k4 => ?_)
    refine Cx.region ?_
    refine Lx.y (mv rfl) rfl ?_
    refine Lx.y (gtr rfl rfl) rfl ?_
    refine Lx.y (mv rfl) rfl ?_
    refine Xx.ifD (t := 22) rfl (fun h5 => ?_) (fun h5 => ?_)
    · skip
      have h0 := h5
      have h0 : 0 < i := by omega
      have hi1 : i - 1 < cs.length := by omega
      refine Lx.gT rfl rfl rfl ?_
      refine Lx.y (mv rfl) rfl ?_
      refine Lx.gT rfl rfl rfl ?_
      refine Lx.y (nilc rfl) rfl ?_
      refine Lx.gT rfl rfl rfl ?_
      refine Lx.y (fa' fo113_2 rfl) rfl ?_
      refine Lx.gT rfl rfl rfl ?_
      refine Lx.y (ld Tryz.underlying111 rfl rfl rfl) rfl ?_
      refine Lx.gT rfl rfl rfl ?_
      refine Lx.y (mv rfl) rfl ?_
      refine Lx.gT rfl rfl rfl ?_
      refine Lx.y (Yx.val (sub rfl rfl (show IntKind.i64.wrap _ = ((i - 1 : Nat) : Int) by rw [wrap64 (by omega) (by omega)]; omega)) (show _ = i64 ((i - 1 : Nat) : Int) from rfl)) rfl ?_
      refine Lx.gT rfl rfl rfl ?_
      refine Lx.y (ia Tryz.underlying111 sz110 rfl rfl (by first | exact Int.toNat_natCast _ | rfl) (by omega) (by omega)) rfl ?_
      refine Lx.gT rfl rfl rfl ?_
      refine Lx.y (ldC Tryz.underlying110 rfl rfl (Cells.buf (m := 1) (kid_at hi1) (by rw [List.length_map]; omega))) rfl ?_
      refine Lx.gT rfl rfl rfl ?_
      refine Lx.y (nilc rfl) rfl ?_
      refine Lx.gT rfl rfl rfl ?_
      refine Lx.y (fa' fo113_0 rfl) rfl ?_
      refine Lx.gT rfl rfl rfl ?_
      refine Lx.y (ldC Tryz.underlying23 rfl rfl (under (under (under (under (kid_keys hi1)))))) rfl ?_
      refine Lx.gT rfl rfl rfl ?_
      refine Lx.y (lenV (ty' := 0) Tryz.underlying23 rfl) rfl ?_
      refine Lx.gT rfl rfl rfl ?_
      refine Lx.y (gtr rfl rfl) rfl ?_
      refine Lx.y (pickT rfl rfl) rfl ?_
      refine Lx.y (asg rfl) rfl ?_
      refine Lx.nil ?_
      refine Xx.tn (k4 _ _ _ _ ?_)
      refine Cx.condD rfl (fun h6 => ?_) (fun h6 => ?_)
      · skip
        have h4 := h6
        have h4 : 4 ≤ cs[i - 1].ks.length := by omega
        refine Cx.region ?_
        refine Lx.y (mv rfl) rfl ?_
        refine Lx.y (mv rfl) rfl ?_
        refine Lx.c rfl rfl rfl (fl_ct2 N d hN (.mk b Ak ck Av cv (some ⟨bC, 0, none⟩) cc ks vs cs) i h0 hi hok hx h4 h3 _) ((show _ = tr (d + 2) (.mk b Ak ck Av cv (some ⟨bC, 0, none⟩) cc ks vs cs) * R by rw [← fold_tr]; ac_rfl)) rfl ?_
        rintro v1 B1 H1 ⟨rfl, hBB, c2, rfl, hm⟩ hB1
        subst hBB
        rename Frag => B
        clear hB1
        refine Lx.nil ?_
        refine Xx.bn ?_
        exact Xx.end0 rfl ⟨rfl, rfl, c2, rfl, hm, fun h9 => absurd h9 (by show ¬ 3 ≤ cs[i].ks.length; omega)⟩ (Frag.le_refl _) rfl
      · skip
        have h4 := h6
        have h4 : cs[i - 1].ks.length ≤ 3 := by omega
        refine Cx.seq (fun K7 k7 => ?_)
        refine Cx.region ?_
        refine Lx.y (mv rfl) rfl ?_
        refine Lx.y (mv rfl) rfl ?_
        refine Lx.y (nilc rfl) rfl ?_
        refine Lx.y (fa' fo113_0 rfl) rfl ?_
        refine Lx.y (ld Tryz.underlying23 rfl rfl rfl) rfl ?_
        refine Lx.y (lenV (ty' := 0) Tryz.underlying23 rfl) rfl ?_
        refine Lx.y (lss rfl rfl) rfl ?_
        refine Lx.y (mv rfl) rfl ?_
        refine Xx.ifD (t := 48) rfl (fun h8 => ?_) (fun h8 => ?_)
        · skip
          have h5 := h8
          have hi2 : i + 1 < cs.length := by omega
          refine Lx.gT rfl rfl rfl ?_
          refine Lx.y (mv rfl) rfl ?_
          refine Lx.gT rfl rfl rfl ?_
          refine Lx.y (nilc rfl) rfl ?_
          refine Lx.gT rfl rfl rfl ?_
          refine Lx.y (fa' fo113_2 rfl) rfl ?_
          refine Lx.gT rfl rfl rfl ?_
          refine Lx.y (ld Tryz.underlying111 rfl rfl rfl) rfl ?_
          refine Lx.gT rfl rfl rfl ?_
          refine Lx.y (mv rfl) rfl ?_
          refine Lx.gT rfl rfl rfl ?_
          refine Lx.y (Yx.val (add rfl rfl (by first | exact wrap64 (by omega) (by omega) | rfl)) (show _ = i64 ((i + 1 : Nat) : Int) from rfl)) rfl ?_
          refine Lx.gT rfl rfl rfl ?_
          refine Lx.y (ia Tryz.underlying111 sz110 rfl rfl (by first | exact Int.toNat_natCast _ | rfl) (by omega) (by omega)) rfl ?_
          refine Lx.gT rfl rfl rfl ?_
          refine Lx.y (ldC Tryz.underlying110 rfl rfl (Cells.buf (m := 1) (kid_at hi2) (by rw [List.length_map]; omega))) rfl ?_
          refine Lx.gT rfl rfl rfl ?_
          refine Lx.y (nilc rfl) rfl ?_
          refine Lx.gT rfl rfl rfl ?_
          refine Lx.y (fa' fo113_0 rfl) rfl ?_
          refine Lx.gT rfl rfl rfl ?_
          refine Lx.y (ldC Tryz.underlying23 rfl rfl (under (under (under (under (kid_keys hi2)))))) rfl ?_
          refine Lx.gT rfl rfl rfl ?_
          refine Lx.y (lenV (ty' := 0) Tryz.underlying23 rfl) rfl ?_
          refine Lx.gT rfl rfl rfl ?_
          refine Lx.y (gtr rfl rfl) rfl ?_
          refine Lx.y (pickT rfl rfl) rfl ?_
          refine Lx.y (asg rfl) rfl ?_
          refine Lx.nil ?_
          refine Xx.tn (k7 _ _ _ _ ?_)
          refine Cx.condD rfl (fun h9 => ?_) (fun h9 => ?_)
          · skip
            have h6 := h9
            have h6 : 4 ≤ cs[i + 1].ks.length := by omega
            refine Cx.region ?_
            refine Lx.y (mv rfl) rfl ?_
            refine Lx.y (mv rfl) rfl ?_
            refine Lx.c rfl rfl rfl (fr_ct N d hN (.mk b Ak ck Av cv (some ⟨bC, 0, none⟩) cc ks vs cs) i hi2 hok hx h6 h3 _) ((show _ = tr (d + 2) (.mk b Ak ck Av cv (some ⟨bC, 0, none⟩) cc ks vs cs) * R by rw [← fold_tr]; ac_rfl)) rfl ?_
            rintro v1 B1 H1 ⟨rfl, hBB, c2, rfl, hm⟩ hB1
            subst hBB
            rename Frag => B
            clear hB1
            refine Lx.nil ?_
            refine Xx.bn ?_
            exact Xx.end0 rfl ⟨rfl, rfl, c2, rfl, hm, fun h9 => absurd h9 (by show ¬ 3 ≤ cs[i].ks.length; omega)⟩ (Frag.le_refl _) rfl
          · skip
            have h6 := h9
            have h6 : cs[i + 1].ks.length ≤ 3 := by omega
            refine Cx.seq (fun K10 k10 => ?_)
            refine Cx.region ?_
            refine Lx.y (mv rfl) rfl ?_
            refine Lx.y (Yx.tt (gtr rfl rfl) (decide_eq_true (by omega))) rfl ?_
            refine Lx.y (asg rfl) rfl ?_
            refine Lx.nil ?_
            refine Xx.tn (k10 _ _ _ _ ?_)
            refine Cx.condT rfl ?_
            refine Cx.region ?_
            refine Lx.y (mv rfl) rfl ?_
            refine Lx.y (mv rfl) rfl ?_
            refine Lx.y (Yx.val (sub rfl rfl (show IntKind.i64.wrap _ = ((i - 1 : Nat) : Int) by rw [wrap64 (by omega) (by omega)]; omega)) (show _ = i64 ((i - 1 : Nat) : Int) from rfl)) rfl ?_
            refine Lx.c rfl rfl rfl (join_ct2 N d hN (.mk b Ak ck Av cv (some ⟨bC, 0, none⟩) cc ks vs cs) i h0 hi hok hx h4 h3 _) ((show _ = tr (d + 2) (.mk b Ak ck Av cv (some ⟨bC, 0, none⟩) cc ks vs cs) * R by rw [← fold_tr]; ac_rfl)) rfl ?_
            rintro v1 B1 H1 ⟨rfl, hBB, c2, rfl, hm⟩ hB1
            subst hBB
            rename Frag => B
            clear hB1
            refine Lx.nil ?_
            refine Xx.bn ?_
            exact Xx.end0 rfl ⟨rfl, rfl, c2, rfl, hm, fun h9 => absurd h9 (by show ¬ 3 ≤ cs[i].ks.length; omega)⟩ (Frag.le_refl _) rfl
        · skip
          have h5 := h8
          refine Lx.gF rfl rfl rfl rfl ?_
          refine Lx.gF rfl rfl rfl rfl ?_
          refine Lx.gF rfl rfl rfl rfl ?_
          refine Lx.gF rfl rfl rfl rfl ?_
          refine Lx.gF rfl rfl rfl rfl ?_
          refine Lx.gF rfl rfl rfl rfl ?_
          refine Lx.gF rfl rfl rfl rfl ?_
          refine Lx.gF rfl rfl rfl rfl ?_
          refine Lx.gF rfl rfl rfl rfl ?_
          refine Lx.gF rfl rfl rfl rfl ?_
          refine Lx.gF rfl rfl rfl rfl ?_
          refine Lx.gF rfl rfl rfl rfl ?_
          refine Lx.gF rfl rfl rfl rfl ?_
          refine Lx.y (pickF rfl rfl) rfl ?_
          refine Lx.y (asg rfl) rfl ?_
          refine Lx.nil ?_
          refine Xx.tn (k7 _ _ _ _ ?_)
          refine Cx.condF rfl ?_
          refine Cx.seq (fun K11 k11 => ?_)
          refine Cx.region ?_
          refine Lx.y (mv rfl) rfl ?_
          refine Lx.y (Yx.tt (gtr rfl rfl) (decide_eq_true (by omega))) rfl ?_
          refine Lx.y (asg rfl) rfl ?_
          refine Lx.nil ?_
          refine Xx.tn (k11 _ _ _ _ ?_)
          refine Cx.condT rfl ?_
          refine Cx.region ?_
          refine Lx.y (mv rfl) rfl ?_
          refine Lx.y (mv rfl) rfl ?_
          refine Lx.y (Yx.val (sub rfl rfl (show IntKind.i64.wrap _ = ((i - 1 : Nat) : Int) by rw [wrap64 (by omega) (by omega)]; omega)) (show _ = i64 ((i - 1 : Nat) : Int) from rfl)) rfl ?_
          refine Lx.c rfl rfl rfl (join_ct2 N d hN (.mk b Ak ck Av cv (some ⟨bC, 0, none⟩) cc ks vs cs) i h0 hi hok hx h4 h3 _) ((show _ = tr (d + 2) (.mk b Ak ck Av cv (some ⟨bC, 0, none⟩) cc ks vs cs) * R by rw [← fold_tr]; ac_rfl)) rfl ?_
          rintro v1 B1 H1 ⟨rfl, hBB, c2, rfl, hm⟩ hB1
          subst hBB
          rename Frag => B
          clear hB1
          refine Lx.nil ?_
          refine Xx.bn ?_
          exact Xx.end0 rfl ⟨rfl, rfl, c2, rfl, hm, fun h9 => absurd h9 (by show ¬ 3 ≤ cs[i].ks.length; omega)⟩ (Frag.le_refl _) rfl
    · skip
      have h0 := h5
      have h0 : i = 0 := by omega
      refine Lx.gF rfl rfl rfl rfl ?_
      refine Lx.gF rfl rfl rfl rfl ?_
      refine Lx.gF rfl rfl rfl rfl ?_
      refine Lx.gF rfl rfl rfl rfl ?_
      refine Lx.gF rfl rfl rfl rfl ?_
      refine Lx.gF rfl rfl rfl rfl ?_
      refine Lx.gF rfl rfl rfl rfl ?_
      refine Lx.gF rfl rfl rfl rfl ?_
      refine Lx.gF rfl rfl rfl rfl ?_
      refine Lx.gF rfl rfl rfl rfl ?_
      refine Lx.gF rfl rfl rfl rfl ?_
      refine Lx.gF rfl rfl rfl rfl ?_
      refine Lx.gF rfl rfl rfl rfl ?_
      refine Lx.y (pickF rfl rfl) rfl ?_
      refine Lx.y (asg rfl) rfl ?_
      refine Lx.nil ?_
      refine Xx.tn (k4 _ _ _ _ ?_)
      refine Cx.condF rfl ?_
      refine Cx.seq (fun K12 k12 => ?_)
      refine Cx.region ?_
      refine Lx.y (mv rfl) rfl ?_
      refine Lx.y (mv rfl) rfl ?_
      refine Lx.y (nilc rfl) rfl ?_
      refine Lx.y (fa' fo113_0 rfl) rfl ?_
      refine Lx.y (ld Tryz.underlying23 rfl rfl rfl) rfl ?_
      refine Lx.y (lenV (ty' := 0) Tryz.underlying23 rfl) rfl ?_
      refine Lx.y (lss rfl rfl) rfl ?_
      refine Lx.y (mv rfl) rfl ?_
      refine Xx.ifD (t := 48) rfl (fun h13 => ?_) (fun h13 => ?_)
      · skip
        have h5 := h13
        have hi2 : i + 1 < cs.length := by omega
        refine Lx.gT rfl rfl rfl ?_
        refine Lx.y (mv rfl) rfl ?_
        refine Lx.gT rfl rfl rfl ?_
        refine Lx.y (nilc rfl) rfl ?_
        refine Lx.gT rfl rfl rfl ?_
        refine Lx.y (fa' fo113_2 rfl) rfl ?_
        refine Lx.gT rfl rfl rfl ?_
        refine Lx.y (ld Tryz.underlying111 rfl rfl rfl) rfl ?_
        refine Lx.gT rfl rfl rfl ?_
        refine Lx.y (mv rfl) rfl ?_
        refine Lx.gT rfl rfl rfl ?_
        refine Lx.y (Yx.val (add rfl rfl (by first | exact wrap64 (by omega) (by omega) | rfl)) (show _ = i64 ((i + 1 : Nat) : Int) from rfl)) rfl ?_
        refine Lx.gT rfl rfl rfl ?_
        refine Lx.y (ia Tryz.underlying111 sz110 rfl rfl (by first | exact Int.toNat_natCast _ | rfl) (by omega) (by omega)) rfl ?_
        refine Lx.gT rfl rfl rfl ?_
        refine Lx.y (ldC Tryz.underlying110 rfl rfl (Cells.buf (m := 1) (kid_at hi2) (by rw [List.length_map]; omega))) rfl ?_
        refine Lx.gT rfl rfl rfl ?_
        refine Lx.y (nilc rfl) rfl ?_
        refine Lx.gT rfl rfl rfl ?_
        refine Lx.y (fa' fo113_0 rfl) rfl ?_
        refine Lx.gT rfl rfl rfl ?_
        refine Lx.y (ldC Tryz.underlying23 rfl rfl (under (under (under (under (kid_keys hi2)))))) rfl ?_
        refine Lx.gT rfl rfl rfl ?_
        refine Lx.y (lenV (ty' := 0) Tryz.underlying23 rfl) rfl ?_
        refine Lx.gT rfl rfl rfl ?_
        refine Lx.y (gtr rfl rfl) rfl ?_
        refine Lx.y (pickT rfl rfl) rfl ?_
        refine Lx.y (asg rfl) rfl ?_
        refine Lx.nil ?_
        refine Xx.tn (k12 _ _ _ _ ?_)
        refine Cx.condD rfl (fun h14 => ?_) (fun h14 => ?_)
        · skip
          have h6 := h14
          have h6 : 4 ≤ cs[i + 1].ks.length := by omega
          refine Cx.region ?_
          refine Lx.y (mv rfl) rfl ?_
          refine Lx.y (mv rfl) rfl ?_
          refine Lx.c rfl rfl rfl (fr_ct N d hN (.mk b Ak ck Av cv (some ⟨bC, 0, none⟩) cc ks vs cs) i hi2 hok hx h6 h3 _) ((show _ = tr (d + 2) (.mk b Ak ck Av cv (some ⟨bC, 0, none⟩) cc ks vs cs) * R by rw [← fold_tr]; ac_rfl)) rfl ?_
          rintro v1 B1 H1 ⟨rfl, hBB, c2, rfl, hm⟩ hB1
          subst hBB
          rename Frag => B
          clear hB1
          refine Lx.nil ?_
          refine Xx.bn ?_
          exact Xx.end0 rfl ⟨rfl, rfl, c2, rfl, hm, fun h9 => absurd h9 (by show ¬ 3 ≤ cs[i].ks.length; omega)⟩ (Frag.le_refl _) rfl
        · skip
          have h6 := h14
          have h6 : cs[i + 1].ks.length ≤ 3 := by omega
          refine Cx.seq (fun K15 k15 => ?_)
          refine Cx.region ?_
          refine Lx.y (mv rfl) rfl ?_
          refine Lx.y (Yx.ff (gtr rfl rfl) (decide_eq_false (by omega))) rfl ?_
          refine Lx.y (asg rfl) rfl ?_
          refine Lx.nil ?_
          refine Xx.tn (k15 _ _ _ _ ?_)
          refine Cx.condF rfl ?_
          refine Cx.region ?_
          refine Lx.y (mv rfl) rfl ?_
          refine Lx.y (mv rfl) rfl ?_
          refine Lx.c rfl rfl rfl (join_ct N d hN (.mk b Ak ck Av cv (some ⟨bC, 0, none⟩) cc ks vs cs) i i hi2 hok hx (.inl rfl) (show cs[i].ks.length + cs[i + 1].ks.length ≤ 6 by omega) _) ((show _ = tr (d + 2) (.mk b Ak ck Av cv (some ⟨bC, 0, none⟩) cc ks vs cs) * R by rw [← fold_tr]; ac_rfl)) rfl ?_
          rintro v1 B1 H1 ⟨rfl, hBB, c2, rfl, hm⟩ hB1
          subst hBB
          rename Frag => B
          clear hB1
          refine Lx.nil ?_
          refine Xx.bn ?_
          exact Xx.end0 rfl ⟨rfl, rfl, c2, rfl, hm, fun h9 => absurd h9 (by show ¬ 3 ≤ cs[i].ks.length; omega)⟩ (Frag.le_refl _) rfl
      · skip
        exact absurd h13 (by omega)

def LastQ (N d : Nat) (c : C) (B : Frag) (r : Value) (B' : Frag) (H' : HP) : Prop := B' = B ∧ ∃ c' k v, r = .tuple #[str k, str v] ∧ H' = tr (d + 1) c' ∧ LastR N d c c' k v
abbrev LastC (N d : Nat) (c : C) (B : Frag) : Prop := Ct Tryz.prog 85 [.pointer (some ⟨c.b, 0, none⟩)] B (tr (d + 1) c) (LastQ N d c B)

set_option maxHeartbeats 4000000 in
theorem last_step (N d : Nat) (hN : N ≤ 90) (c : C) (B : Frag) (hok : Ok N (d + 1) c) (hmn : Mn (d + 1) c) (hp : 0 < c.ks.length) (ih : ∀ (h : c.ks.length < c.cs.length), ∃ d2, d = d2 + 1 ∧ LastC 7 d2 c.cs[c.ks.length] B) : LastC N d c B := by
  have hcl := hok.2.2.1
  have hkN := hok.2.1
  have hvl := hok.1
  obtain ⟨b, Ak, ck, Av, cv, Ac, cc, ks, vs, cs⟩ := c
  unfold LastC
  simp only [C.b, C.ks, C.vs, C.cs] at hp hcl hkN hvl ih ⊢
  refine Ct.of_body Tryz.func85 rfl (nt := 78) rfl (by kernel_rfl) rfl ?_
  intro N0 w0 R
  rw [tr_succ]
  simp only [star_assoc, nrow, kbuf, vbuf, cbuf, ncells, C.b, C.Ak, C.ck, C.Av, C.cv, C.Ac, C.cc, C.ks, C.vs, C.cs]
  refine Cx.seq (fun K1 k1 => ?_)
  refine Cx.region ?_
  refine Lx.y (asg rfl) rfl ?_
  refine Lx.y (asg rfl) rfl ?_
  refine Lx.nil ?_
  refine Xx.tn (k1 _ _ _ _ ?_)
  refine Cx.seq (fun K2 k2 => ?_)
  refine Cx.seq (fun K3 k3 => ?_)
  refine Cx.region ?_
  refine Lx.y (mv rfl) rfl ?_
  refine Lx.y (nilc rfl) rfl ?_
  refine Lx.y (fa' fo113_2 rfl) rfl ?_
  refine Lx.y (ld Tryz.underlying111 rfl rfl rfl) rfl ?_
  refine Lx.y (lenV (ty' := 0) Tryz.underlying111 rfl) rfl ?_
  refine Lx.y (gtr rfl rfl) rfl ?_
  refine Lx.nil ?_
  refine Xx.tn (k3 _ _ _ _ ?_)
  refine Cx.condD rfl (fun h4 => ?_) (fun h4 => ?_)
  · skip
    have hz := h4
    have hcl2 : cs.length = ks.length + 1 := by rcases hcl with z | z; rw [z] at hz; simp at hz; exact z
    have hci : ks.length < cs.length := by omega
    obtain ⟨d2, hd2, hlast⟩ := ih hci
    subst hd2
    refine Xx.addrT Ac (by omega) (fun bC hAc hcx hcc => ?_)
    subst hAc
    refine Cx.seq (fun K5 k5 => ?_)
    refine Cx.region ?_
    refine Lx.y (mv rfl) rfl ?_
    refine Lx.y (nilc rfl) rfl ?_
    refine Lx.y (fa' fo113_2 rfl) rfl ?_
    refine Lx.y (ld Tryz.underlying111 rfl rfl rfl) rfl ?_
    refine Lx.y (lenV (ty' := 0) Tryz.underlying111 rfl) rfl ?_
    refine Lx.y (Yx.val (sub rfl rfl (show IntKind.i64.wrap _ = ((ks.length : Nat) : Int) by rw [wrap64 (by omega) (by omega)]; omega)) (show _ = i64 ((ks.length : Nat) : Int) from rfl)) rfl ?_
    refine Lx.y (asg rfl) rfl ?_
    refine Lx.nil ?_
    refine Xx.tn (k5 _ _ _ _ ?_)
    refine Cx.seq (fun K6 k6 => ?_)
    refine Cx.region ?_
    refine Lx.y (mv rfl) rfl ?_
    refine Lx.y (nilc rfl) rfl ?_
    refine Lx.y (fa' fo113_2 rfl) rfl ?_
    refine Lx.y (ld Tryz.underlying111 rfl rfl rfl) rfl ?_
    refine Lx.y (mv rfl) rfl ?_
    refine Lx.y (ia Tryz.underlying111 sz110 rfl rfl (by first | exact Int.toNat_natCast _ | rfl) (by omega) (by omega)) rfl ?_
    refine Lx.y (ldC Tryz.underlying110 rfl rfl (Cells.buf (m := 1) (kid_at hci) (by rw [List.length_map]; omega))) rfl ?_
    refine Lx.c rfl rfl rfl (hlast) (fold_kid hci) rfl ?_
    rintro r B1 H1 ⟨hBB, kid2, lk9, lv9, rfl, rfl, hkr⟩ hB1
    subst hBB
    rename Frag => B
    clear hB1
    obtain ⟨x1, x2, x3⟩ := kid_last (x := .mk b Ak ck Av cv (some ⟨bC, 0, none⟩) cc ks vs (cs.set ks.length kid2)) hok hmn hci hkr rfl rfl rfl
    refine Lx.y (mv rfl) rfl ?_
    refine Lx.y (ext rfl rfl) rfl ?_
    refine Lx.y (ext rfl rfl) rfl ?_
    refine Lx.y (asg rfl) rfl ?_
    refine Lx.y (asg rfl) rfl ?_
    refine Lx.nil ?_
    refine Xx.tn (k6 _ _ _ _ ?_)
    refine Cx.seq (fun K7 k7 => ?_)
    refine Cx.region ?_
    refine Lx.y (mv rfl) rfl ?_
    refine Lx.y (mv rfl) rfl ?_
    refine Lx.c rfl rfl rfl (mend_ct N d2 hN (.mk b Ak ck Av cv (some ⟨bC, 0, none⟩) cc ks vs (cs.set ks.length kid2)) ks.length _ (by show ks.length < (cs.set _ _).length; rw [List.length_set]; exact hci) x1 x2 hp) ((show _ = tr (d2 + 2) (.mk b Ak ck Av cv (some ⟨bC, 0, none⟩) cc ks vs (cs.set ks.length kid2)) * R by rw [← fold_tr, trs_set _ hci, pts_set hkr.1, List.length_set]; ac_rfl)) rfl ?_
    rintro v1 B1 H1 ⟨rfl, hBB, c2, rfl, hm, _⟩ hB1
    subst hBB
    rename Frag => B
    clear hB1
    refine Lx.nil ?_
    refine Xx.tn (k7 _ _ _ _ ?_)
    refine Cx.seq (fun K8 k8 => ?_)
    refine Cx.region ?_
    refine Lx.y (mv rfl) rfl ?_
    refine Lx.y (mv rfl) rfl ?_
    refine Lx.y (asg rfl) rfl ?_
    refine Lx.y (asg rfl) rfl ?_
    refine Lx.nil ?_
    refine Xx.tn (k8 _ _ _ _ ?_)
    refine Cx.ret ?_
    refine Xx.tr ?_
    exact Xx.ret2 rfl rfl rfl ⟨rfl, c2, lk9, lv9, rfl, rfl, LastR.of (x := .mk b Ak ck Av cv (some ⟨bC, 0, none⟩) cc ks vs (cs.set ks.length kid2)) rfl x3 rfl hm⟩ (Frag.le_refl _) rfl
  · skip
    have hz := h4
    have hc0 : cs = [] := List.length_eq_zero_iff.1 (by omega)
    subst hc0
    refine Xx.addrT Ak hp (fun bK hAk _ _ => ?_)
    subst hAk
    refine Xx.addrT Av (by omega) (fun bV hAv _ _ => ?_)
    subst hAv
    refine Cx.skip ?_
    refine Xx.tn (k2 _ _ _ _ ?_)
    refine Cx.seq (fun K9 k9 => ?_)
    refine Cx.region ?_
    refine Lx.y (mv rfl) rfl ?_
    refine Lx.y (nilc rfl) rfl ?_
    refine Lx.y (fa' fo113_0 rfl) rfl ?_
    refine Lx.y (ld Tryz.underlying23 rfl rfl rfl) rfl ?_
    refine Lx.y (lenV (ty' := 0) Tryz.underlying23 rfl) rfl ?_
    refine Lx.y (Yx.val (sub rfl rfl (show IntKind.i64.wrap _ = ((ks.length - 1 : Nat) : Int) by rw [wrap64 (by omega) (by omega)]; omega)) (show _ = i64 ((ks.length - 1 : Nat) : Int) from rfl)) rfl ?_
    refine Lx.y (asg rfl) rfl ?_
    refine Lx.nil ?_
    refine Xx.tn (k9 _ _ _ _ ?_)
    refine Cx.seq (fun K10 k10 => ?_)
    refine Cx.drawn (by kernel_rfl) ?_
    refine Dx.p (i := 0) rfl (by kernel_rfl) (mv rfl) rfl ?_
    refine Dx.p (i := 1) rfl (by kernel_rfl) (nilc rfl) rfl ?_
    refine Dx.p (i := 2) rfl (by kernel_rfl) (fa' fo113_0 rfl) rfl ?_
    refine Dx.r (i := 3) rfl (by kernel_rfl) (ld Tryz.underlying23 rfl rfl rfl) rfl ?_
    refine Dx.p (i := 4) rfl (by kernel_rfl) (mv rfl) rfl ?_
    refine Dx.p (i := 5) rfl (by kernel_rfl) (ia Tryz.underlying23 sz9 rfl rfl (by first | exact Int.toNat_natCast _ | rfl) (by omega) (by omega)) rfl ?_
    refine Dx.r (i := 6) rfl (by kernel_rfl) (ldC Tryz.underlying9 rfl rfl (Cells.buf (m := 1) (str_get (i := ks.length - 1) (by omega)) (by rw [List.length_map]; omega))) rfl ?_
    refine Dx.p (i := 7) rfl (by kernel_rfl) (mv rfl) rfl ?_
    refine Dx.p (i := 8) rfl (by kernel_rfl) (nilc rfl) rfl ?_
    refine Dx.p (i := 9) rfl (by kernel_rfl) (fa' fo113_1 rfl) rfl ?_
    refine Dx.r (i := 10) rfl (by kernel_rfl) (ld Tryz.underlying23 rfl rfl rfl) rfl ?_
    refine Dx.p (i := 11) rfl (by kernel_rfl) (mv rfl) rfl ?_
    refine Dx.p (i := 12) rfl (by kernel_rfl) (ia Tryz.underlying23 sz9 rfl rfl (by first | exact Int.toNat_natCast _ | rfl) (by omega) (by omega)) rfl ?_
    refine Dx.r (i := 13) rfl (by kernel_rfl) (ldC Tryz.underlying9 rfl rfl (Cells.buf (m := 1) (str_get (i := ks.length - 1) (by omega)) (by rw [List.length_map]; omega))) rfl ?_
    refine Dx.p (i := 14) rfl (by kernel_rfl) (asg rfl) rfl ?_
    refine Dx.p (i := 15) rfl (by kernel_rfl) (asg rfl) rfl ?_
    refine Dx.done (by kernel_rfl) ?_
    refine Xx.tn (k10 _ _ _ _ ?_)
    refine Cx.seq (fun K11 k11 => ?_)
    refine Cx.drawn (by kernel_rfl) ?_
    refine Dx.p (i := 0) rfl (by kernel_rfl) (mv rfl) rfl ?_
    refine Dx.p (i := 1) rfl (by kernel_rfl) (mv rfl) rfl ?_
    refine Dx.p (i := 2) rfl (by kernel_rfl) (mv rfl) rfl ?_
    refine Dx.p (i := 3) rfl (by kernel_rfl) (nilc rfl) rfl ?_
    refine Dx.p (i := 4) rfl (by kernel_rfl) (fa' fo113_0 rfl) rfl ?_
    refine Dx.r (i := 5) rfl (by kernel_rfl) (ld Tryz.underlying23 rfl rfl rfl) rfl ?_
    refine Dx.p (i := 6) rfl (by kernel_rfl) (mv rfl) rfl ?_
    refine Dx.p (i := 7) rfl (by kernel_rfl) (sl2V Tryz.underlying23 sz9 rfl rfl (by first | exact Int.toNat_natCast _ | rfl) (by omega) (by omega)) rfl ?_
    refine Dx.p (i := 8) rfl (by kernel_rfl) (mv rfl) rfl ?_
    refine Dx.p (i := 9) rfl (by kernel_rfl) (nilc rfl) rfl ?_
    refine Dx.p (i := 10) rfl (by kernel_rfl) (fa' fo113_1 rfl) rfl ?_
    refine Dx.r (i := 11) rfl (by kernel_rfl) (ld Tryz.underlying23 rfl rfl rfl) rfl ?_
    refine Dx.p (i := 12) rfl (by kernel_rfl) (mv rfl) rfl ?_
    refine Dx.p (i := 13) rfl (by kernel_rfl) (sl2V Tryz.underlying23 sz9 rfl rfl (by first | exact Int.toNat_natCast _ | rfl) (by omega) (by omega)) rfl ?_
    refine Dx.p (i := 14) rfl (by kernel_rfl) (nilc rfl) rfl ?_
    refine Dx.p (i := 15) rfl (by kernel_rfl) (fa' fo113_0 rfl) rfl ?_
    refine Dx.one (i := 16) (by kernel_rfl) ?_
    refine Dstep.o0 (i := 16) rfl (stO Tryz.underlying23 sz23 rfl rfl rfl (by simp) rfl) (fun v B' H' hΦ hB => ?_)
    obtain ⟨rfl, rfl⟩ := hΦ; clear hB v
    refine ⟨JOk.edge (JOk.edge (JOk.top) (by kernel_rfl)) (by kernel_rfl), ?_⟩
    refine Dx.p (i := 17) rfl (by kernel_rfl) (nilc rfl) rfl ?_
    refine Dx.p (i := 18) rfl (by kernel_rfl) (fa' fo113_1 rfl) rfl ?_
    refine Dx.one (i := 19) (by kernel_rfl) ?_
    refine Dstep.o0 (i := 19) rfl (stO Tryz.underlying23 sz23 rfl rfl rfl (by simp) rfl) (fun v B' H' hΦ hB => ?_)
    obtain ⟨rfl, rfl⟩ := hΦ; clear hB v
    refine ⟨JOk.edge (JOk.edge (JOk.top) (by kernel_rfl)) (by kernel_rfl), ?_⟩
    refine Dx.done (by kernel_rfl) ?_
    refine Xx.tn (k11 _ _ _ _ ?_)
    refine Cx.seq (fun K12 k12 => ?_)
    refine Cx.region ?_
    refine Lx.y (mv rfl) rfl ?_
    refine Lx.y (mv rfl) rfl ?_
    refine Lx.y (asg rfl) rfl ?_
    refine Lx.y (asg rfl) rfl ?_
    refine Lx.nil ?_
    refine Xx.tn (k12 _ _ _ _ ?_)
    refine Cx.ret ?_
    refine Xx.lessT bK (ks.length - 1) (by omega) ?_
    refine Xx.lessT bV (ks.length - 1) (by omega) ?_
    exact Xx.ret2 rfl rfl rfl ⟨rfl, .mk b (some ⟨bK, 0, none⟩) ck (some ⟨bV, 0, none⟩) cv Ac cc (ks.take (ks.length - 1)) (vs.take (ks.length - 1)) [], ks.getD (ks.length - 1) [], vs.getD (ks.length - 1) [], rfl, rfl, leaf_last hok hmn rfl hp rfl rfl rfl rfl⟩ (Frag.le_refl _) (by rw [← fold_tr, show (ks.take (ks.length - 1)).length = ks.length - 1 by simp, show (vs.take (ks.length - 1)).length = ks.length - 1 by simp; omega]; simp only [Nat.mul_one, List.map_take]; ac_rfl)

theorem last_ct (N : Nat) (hN : N ≤ 90) (B : Frag) : ∀ (d : Nat) (c : C) (M : Nat), M ≤ N → 7 ≤ N → Ok M (d + 1) c → Mn (d + 1) c → 0 < c.ks.length → LastC M d c B := by
  intro d
  induction d with
  | zero =>
    intro c M hM h7 hok hmn hp
    refine last_step M 0 (by omega) c B hok hmn hp (fun h => ?_)
    have hk := hok.2.2.2 _ (List.getElem_mem h)
    exact hk.elim
  | succ d ih =>
    intro c M hM h7 hok hmn hp
    refine last_step M (d + 1) (by omega) c B hok hmn hp (fun h => ⟨d, rfl, ?_⟩)
    have hk := hok.2.2.2 _ (List.getElem_mem h)
    have hm := hmn.2 _ (List.getElem_mem h)
    exact ih _ 7 h7 h7 (Ok.of1 hk) hm.2 (by omega)
end DrD
end Go.Proofs.YtdidpocakipinaaGreatDoor

/-
  Range of a tree: the function that it hands back; a nil tree; the law of nil trees.
-/
namespace Go.Proofs.YtdidpocakipinaaGreatDoor
open Go.SL Go.RowKit
set_option linter.unusedVariables false
set_option linter.unusedSimpArgs false
set_option maxRecDepth 100000
open Ke1 Ke3 Ke4 Ke5 Ke6 Ke7 Ke8 Ke9 KeA KeB KeC KeD KeE KeF KeG KeI RgA BtB BtC BtD BtE BtG BtH BtI BtF BtJ BtK BtL BtM BtN BtX
namespace BtQ


def kv (p : Str8 × Str8) : List Value := [str p.1, str p.2]
/-- what Range hands back -/
def RgV (B : Frag) (p : Option Addr) (lo hi : Str8) (v : Value) : Prop := ∃ b1 b2, v = .func (.func 87) #[] [.pointer (some ⟨b1, 0, none⟩), .pointer (some ⟨b2, 0, none⟩)].toArray ∧ B b1 = some (.cells [.pointer p].toArray 83 (0, 0)) ∧ B b2 = some (.cells [str lo, str hi].toArray 48 (0, 0))

set_option maxHeartbeats 1000000 in
theorem Range_ct (p : Option Addr) (lo hi : Str8) (B : Frag) : CtB Tryz.prog 69 [.pointer p, .agg [str lo, str hi].toArray] B (fun v B' => RgV B' p lo hi v) := by
  refine CtB.of_body Tryz.func69 rfl (nt := 6) rfl (by kernel_rfl) rfl ?_
  intro N0 w0 R
  refine Cx.seq (fun K1 k1 => ?_)
  refine Cx.region ?_
  refine Lx.new (boxO rfl rfl) rfl (fun b1 => ?_)
  refine Lx.new (boxA rfl) rfl (fun b2 => ?_)
  refine Lx.y (asg rfl) rfl ?_
  refine Lx.nil ?_
  refine Xx.tn (k1 _ _ _ _ ?_)
  refine Cx.seq (fun K2 k2 => ?_)
  refine Cx.region ?_
  refine Lx.y (mkf rfl rfl) rfl ?_
  refine Lx.y (asg rfl) rfl ?_
  refine Lx.nil ?_
  refine Xx.tn (k2 _ _ _ _ ?_)
  refine Cx.ret ?_
  refine Xx.freezeB b1 fun B2 hB2 hb1 => ?_
  refine Xx.freezeB b2 fun B3 hB3 hb2 => ?_
  exact Xx.rB1 rfl rfl ⟨b1, b2, rfl, hB3 _ _ hb1, hb2⟩ (Frag.le_trans hB2 hB3) rfl

end BtQ
end Go.Proofs.YtdidpocakipinaaGreatDoor

/-
  The keys of a node from one on: the walk of the iterator.
-/
namespace Go.Proofs.YtdidpocakipinaaGreatDoor
open Go.SL Go.RowKit
set_option linter.unusedVariables false
set_option linter.unusedSimpArgs false
set_option maxRecDepth 100000
open Ke1 Ke3 Ke4 Ke5 Ke6 Ke7 Ke8 Ke9 KeA KeB KeC KeD KeE KeF KeG KeI RgA BtB BtC BtD BtE BtG BtH BtI BtF BtJ BtK BtL BtM BtN BtQ BtX
namespace BtR
theorem sz9 : (Tryz.prog.info? 9).map (·.size) = some 1 := by kernel_rfl
theorem sz110 : (Tryz.prog.info? 110).map (·.size) = some 1 := by kernel_rfl
theorem fo113_0 : FO Tryz.prog 113 0 0 1 false := FO.of Tryz.underlying113 rfl rfl (by kernel_rfl) Tryz.underlying23 rfl rfl
theorem fo113_1 : FO Tryz.prog 113 1 1 1 false := FO.of Tryz.underlying113 rfl rfl (by kernel_rfl) Tryz.underlying23 rfl rfl
theorem fo113_2 : FO Tryz.prog 113 2 2 1 false := FO.of Tryz.underlying113 rfl rfl (by kernel_rfl) Tryz.underlying111 rfl rfl

def fromL (lo : Str8) (l : List (Str8 × Str8)) : List (Str8 × Str8) := l.filter fun p => !bless p.1 lo
theorem fromL_app (lo : Str8) (a b : List (Str8 × Str8)) : fromL lo (a ++ b) = fromL lo a ++ fromL lo b := List.filter_append ..
theorem fromL_cons {lo : Str8} {p : Str8 × Str8} {l : List (Str8 × Str8)} (h : bless p.1 lo = false) : fromL lo (p :: l) = p :: fromL lo l := by
  unfold fromL; rw [List.filter_cons_of_pos (by simp [h])]
theorem fromL_none {lo : Str8} {l : List (Str8 × Str8)} (h : ∀ p ∈ l, bless p.1 lo = true) : fromL lo l = [] := by
  unfold fromL; rw [List.filter_eq_nil_iff]; intro p hp; simp [h p hp]
/-- what is ahead of key i, and what comes from there on -/
theorem io_cut (f : C → List (Str8 × Str8)) : ∀ (i : Nat) (ks vs : List Str8) (cs : List C), vs.length = ks.length → (cs = [] ∨ cs.length = ks.length + 1) → (hi : i ≤ ks.length) →
    ∃ A, ioL f ks vs cs = A ++ ioL f (ks.drop i) (vs.drop i) (cs.drop i) ∧ ((i = 0 ∧ A = []) ∨ ∃ A' v, ∃ h : i - 1 < ks.length, 0 < i ∧ A = A' ++ [(ks[i - 1], v)]) := by
  intro i
  induction i with
  | zero => intro ks vs cs _ _ _; exact ⟨[], rfl, .inl ⟨rfl, rfl⟩⟩
  | succ i ih =>
    intro ks vs cs hv hc hi
    cases ks with
    | nil => simp at hi
    | cons k ks => cases vs with
      | nil => simp at hv
      | cons v vs =>
        have hv' : vs.length = ks.length := by simpa using hv
        have hi' : i ≤ ks.length := by simpa using hi
        have fin : ∀ (pre A : List (Str8 × Str8)), ((i = 0 ∧ A = []) ∨ ∃ A' v, ∃ h : i - 1 < ks.length, 0 < i ∧ A = A' ++ [(ks[i - 1], v)]) → ∃ A' v', ∃ h : i + 1 - 1 < (k :: ks).length, 0 < i + 1 ∧ pre ++ (k, v) :: A = A' ++ [((k :: ks)[i + 1 - 1], v')] := by
          intro pre A hA
          rcases hA with ⟨rfl, rfl⟩ | ⟨A', v', h, h0, rfl⟩
          · exact ⟨pre, v, by simp, by omega, rfl⟩
          · refine ⟨pre ++ (k, v) :: A', v', by simp; omega, by omega, ?_⟩
            obtain ⟨i, rfl⟩ : ∃ i', i = i' + 1 := ⟨i - 1, by omega⟩
            simp
        cases cs with
        | nil =>
          obtain ⟨A, e, hA⟩ := ih ks vs [] hv' (.inl rfl) hi'
          refine ⟨(k, v) :: A, ?_, .inr ?_⟩
          · show (k, v) :: ioL f ks vs [] = _
            rw [e]; simp
          · simpa using fin [] A hA
        | cons c cs =>
          have hc' : cs.length = ks.length + 1 := by simpa using hc
          obtain ⟨A, e, hA⟩ := ih ks vs cs hv' (.inr hc') hi'
          refine ⟨f c ++ (k, v) :: A, ?_, .inr (fin (f c) A hA)⟩
          show f c ++ (k, v) :: ioL f ks vs cs = _
          rw [e]; simp
theorem from_start {N d : Nat} {nd : C} {lo : Str8} (hok : Ok N (d + 1) nd) (ho : Ord (io (d + 1) nd)) : fromL lo (io (d + 1) nd) = fromL lo (ioL (io d) (nd.ks.drop (lb nd.ks lo)) (nd.vs.drop (lb nd.ks lo)) (nd.cs.drop (lb nd.ks lo))) := by
  have hs := srt_of hok ho
  obtain ⟨A, e, hA⟩ := io_cut (io d) (lb nd.ks lo) nd.ks nd.vs nd.cs hok.1 hok.2.2.1 (lb_le _ _)
  have e' : io (d + 1) nd = A ++ ioL (io d) (nd.ks.drop (lb nd.ks lo)) (nd.vs.drop (lb nd.ks lo)) (nd.cs.drop (lb nd.ks lo)) := e
  rw [e'] at ho ⊢
  rw [fromL_app, fromL_none, List.nil_append]
  rcases hA with ⟨_, rfl⟩ | ⟨A', v, h, h0, rfl⟩
  · intro p hp; cases hp
  · have hk := (lb_spec (t := lo) hs).1 (lb nd.ks lo - 1) h (by omega)
    intro p hp
    rcases List.mem_append.1 hp with hp | hp
    · exact bless_trans (Ord.cross (Ord.left ho) p hp _ (List.mem_singleton.2 rfl)) hk
    · rw [List.mem_singleton.1 hp]; exact hk
def tl (f : C → List (Str8 × Str8)) (ks vs : List Str8) (cs : List C) (j : Nat) : List (Str8 × Str8) := match ks.drop j, vs.drop j with
  | k :: ks', v :: vs' => (k, v) :: ioL f ks' vs' (cs.drop (j + 1))
  | _, _ => []
theorem tl_lt {f : C → List (Str8 × Str8)} {ks vs : List Str8} {cs : List C} {j : Nat} (h : j < ks.length) (hv : j < vs.length) : tl f ks vs cs j = (ks[j], vs[j]) :: ioL f (ks.drop (j + 1)) (vs.drop (j + 1)) (cs.drop (j + 1)) := by
  unfold tl; rw [List.drop_eq_getElem_cons h, List.drop_eq_getElem_cons hv]
theorem tl_ge {f : C → List (Str8 × Str8)} {ks vs : List Str8} {cs : List C} {j : Nat} (h : ks.length ≤ j) : tl f ks vs cs j = [] := by
  unfold tl; rw [List.drop_of_length_le h]
theorem tl_kid {f : C → List (Str8 × Str8)} {ks vs : List Str8} {cs : List C} {j : Nat} (hv : vs.length = ks.length) (hc : cs.length = ks.length + 1) (h : j < cs.length) : ioL f (ks.drop j) (vs.drop j) (cs.drop j) = f cs[j] ++ tl f ks vs cs j := by
  by_cases hj : j < ks.length
  · rw [tl_lt hj (by omega), List.drop_eq_getElem_cons hj, List.drop_eq_getElem_cons (l := vs) (by omega), List.drop_eq_getElem_cons h]; rfl
  · rw [tl_ge (by omega), List.drop_of_length_le (l := ks) (by omega), List.drop_of_length_le (l := vs) (by omega), List.drop_eq_getElem_cons h, List.append_nil]; rfl
theorem tl_leaf {f : C → List (Str8 × Str8)} {ks vs : List Str8} {j : Nat} (hv : vs.length = ks.length) : ioL f (ks.drop j) (vs.drop j) (([] : List C).drop j) = tl f ks vs [] j := by
  by_cases hj : j < ks.length
  · rw [tl_lt hj (by omega), List.drop_eq_getElem_cons hj, List.drop_eq_getElem_cons (l := vs) (by omega), List.drop_nil, List.drop_nil]; rfl
  · rw [tl_ge (by omega), List.drop_of_length_le (l := ks) (by omega), List.drop_of_length_le (l := vs) (by omega), List.drop_nil]; rfl
theorem rest_end {f : C → List (Str8 × Str8)} {ks vs : List Str8} {cs : List C} {j : Nat} (hv : vs.length = ks.length) (hc : cs = [] ∨ cs.length = ks.length + 1) (h : ks.length < j) : ioL f (ks.drop j) (vs.drop j) (cs.drop j) = [] := by
  rw [List.drop_of_length_le (l := ks) (by omega), List.drop_of_length_le (l := vs) (by omega), List.drop_of_length_le (l := cs) (by rcases hc with rfl | hc; simp; omega)]; rfl
/-- the kid's own keys stand in order -/
theorem kid_ord {N d : Nat} {nd : C} {j : Nat} (hok : Ok N (d + 1) nd) (ho : Ord (io (d + 1) nd)) (hc : nd.cs.length = nd.ks.length + 1) (h : j < nd.cs.length) : Ord (io d nd.cs[j]) := by
  have e := io_split (io d) j nd.ks nd.vs nd.cs h hok.1 hc
  have ho' : Ord (ioL (io d) nd.ks nd.vs nd.cs) := ho
  rw [e] at ho'
  exact Ord.left (Ord.right ho')
def FrV (b1 b2 : Nat) : Value := .func (.func 105) #[] [.pointer (some ⟨b1, 0, none⟩), .pointer (some ⟨b2, 0, none⟩)].toArray
abbrev FromIt (d : Nat) (nd : C) (lo : Str8) (b1 b2 : Nat) (B : Frag) : Prop := It Tryz.prog 105 [.pointer (some ⟨b1, 0, none⟩), .pointer (some ⟨b2, 0, none⟩)] kv (fromL lo (io d nd)) B (row b1 110 [pt nd] * row b2 9 [str lo])

set_option maxHeartbeats 1000000 in
theorem From_ct (nd : C) (lo : Str8) (B : Frag) : Ct Tryz.prog 88 [.pointer (some ⟨nd.b, 0, none⟩), str lo] B 1 (fun v B' H' => B' = B ∧ ∃ b1 b2, v = FrV b1 b2 ∧ H' = row b1 110 [pt nd] * row b2 9 [str lo]) := by
  refine Ct.of_body Tryz.func88 rfl (nt := 6) rfl (by kernel_rfl) rfl ?_
  intro N0 w0 R
  rw [one_star]
  refine Cx.seq (fun K1 k1 => ?_)
  refine Cx.region ?_
  refine Lx.new (boxO rfl rfl) rfl (fun b1 => ?_)
  refine Lx.new (boxO rfl rfl) rfl (fun b2 => ?_)
  refine Lx.y (asg rfl) rfl ?_
  refine Lx.nil ?_
  refine Xx.tn (k1 _ _ _ _ ?_)
  refine Cx.seq (fun K2 k2 => ?_)
  refine Cx.region ?_
  refine Lx.y (mkf rfl rfl) rfl ?_
  refine Lx.y (asg rfl) rfl ?_
  refine Lx.nil ?_
  refine Xx.tn (k2 _ _ _ _ ?_)
  refine Cx.ret ?_
  exact Xx.ret1 rfl rfl ⟨rfl, b1, b2, rfl, rfl⟩ (Frag.le_refl _) (by ac_rfl)

set_option maxHeartbeats 4000000 in
theorem From_step (d : Nat) (ih : ∀ (nd : C) (lo : Str8) (b1 b2 : Nat) (B : Frag), TrB B d nd → Ok 90 d nd → Ord (io d nd) → FromIt d nd lo b1 b2 B) (nd : C) (lo : Str8) (b1 b2 : Nat) (B : Frag) (hR : TrB B (d + 1) nd) (hok : Ok 90 (d + 1) nd) (ho : Ord (io (d + 1) nd)) : FromIt (d + 1) nd lo b1 b2 B := by
  refine ⟨Go.SL.enters_of Tryz.func105 rfl (by kernel_rfl), fun lp J Jx hy Bz Hz hBz hJ0 => ?_⟩
  have hs := srt_of hok ho
  have hst := from_start (lo := lo) hok ho
  have hvl := hok.1
  have hkl := hok.2.1
  have hcl := hok.2.2.1
  have hlb := lb_le nd.ks lo
  obtain ⟨⟨fz, hqn⟩, hRk, hRv, hRc, hkids⟩ := hR.mono hBz
  refine Ct.of_bodyM Tryz.func105 rfl (nt := 74) rfl (by kernel_rfl) rfl ?_
  intro N0 w0 R
  simp only [star_assoc]
  refine Cx.seq (fun K1 k1 => ?_)
  refine Cx.region ?_
  refine Lx.new (boxO rfl rfl) rfl (fun b3 => ?_)
  refine Lx.nil ?_
  refine Xx.tn (k1 _ _ _ _ ?_)
  refine Cx.seq (fun K2 k2 => ?_)
  refine Cx.drawn (by kernel_rfl) ?_
  refine Dx.r (i := 0) rfl (by kernel_rfl) (ld Tryz.underlying110 rfl rfl rfl) rfl ?_
  refine Dx.p (i := 1) rfl (by kernel_rfl) (nilc rfl) rfl ?_
  refine Dx.p (i := 2) rfl (by kernel_rfl) (fa' fo113_0 rfl) rfl ?_
  refine Dx.r (i := 3) rfl (by kernel_rfl) (ldB Tryz.underlying23 rfl rfl (by first | exact hqn | exact hB _ _ hqn) rfl) rfl ?_
  refine Dx.r (i := 4) rfl (by kernel_rfl) (ld Tryz.underlying9 rfl rfl rfl) rfl ?_
  refine Dx.one (i := 5) (by kernel_rfl) ?_
  refine Dstep.o (i := 5) rfl (Ox.cb rfl rfl rfl (BS_ct nd.ks lo _ _ _ hRk hs (by omega))) rfl (fun v B' H' hΦ hB => ?_)
  obtain ⟨rfl, rfl, hBB⟩ := hΦ; have hBB2 := hBB.symm; subst hBB2; clear hB
  refine ⟨JOk.edge (JOk.edge (JOk.yes (JOk.top) (ld Tryz.underlying110 rfl rfl rfl)) (by kernel_rfl)) (by kernel_rfl), ?_⟩
  refine Dx.p (i := 6) rfl (by kernel_rfl) (mv rfl) rfl ?_
  refine Dx.p (i := 7) rfl (by kernel_rfl) (ext rfl rfl) rfl ?_
  refine Dx.p (i := 8) rfl (by kernel_rfl) (ext rfl rfl) rfl ?_
  refine Dx.p (i := 9) rfl (by kernel_rfl) (asg rfl) rfl ?_
  refine Dx.p (i := 10) rfl (by kernel_rfl) (asg rfl) rfl ?_
  refine Dx.done (by kernel_rfl) ?_
  refine Xx.tn (k2 _ _ _ _ ?_)
  refine Cx.block ?_
  refine Cx.loopKD (Sub.cons (s := 0) rfl (Sub.cons (s := 1) rfl (Sub.cons (s := 2) rfl (Sub.cons (s := 3) rfl (Sub.cons (s := 8) rfl (Sub.cons (s := 9) rfl (Sub.cons (s := 10) rfl (Sub.cons (s := 11) rfl (Sub.cons (s := 12) rfl (Sub.cons (s := 13) rfl (Sub.cons (s := 14) rfl (Sub.cons (s := 15) rfl (Sub.cons (s := 16) rfl (Sub.nil _)))))))))))))) (fun m Ds ρ' B' H' => ∃ (j : Nat) (qs : List (Str8 × Str8)) (B2 : Frag) (H2 : HP), (lb nd.ks lo ≤ j ∧ j ≤ nd.ks.length + 1 ∧ fromL lo (io (d + 1) nd) = qs ++ fromL lo (ioL (io d) (nd.ks.drop j) (nd.vs.drop j) (nd.cs.drop j)) ∧ J qs B2 H2 ∧ Bz.le B2) ∧ m = nd.ks.length + 2 - j ∧ ρ' = [(4, i64 j)] ∧ B2 = B' ∧ row b3 89 [.func (.yield lp) #[] #[]] * (row b1 110 [pt nd] * (row b2 9 [str lo] * (H2 * (marks Ds * R)))) = H') [] rfl ⟨lb nd.ks lo, [], Bz, Hz, ⟨Nat.le_refl _, by omega, by rw [List.nil_append]; exact hst, hJ0, Frag.le_refl _⟩, rfl, rfl, rfl, by rw [marks_nil, one_star]⟩ (Sub.cons (s := 4) rfl (Sub.cons (s := 0) rfl (Sub.cons (s := 1) rfl (Sub.cons (s := 2) rfl (Sub.cons (s := 3) rfl (Sub.cons (s := 8) rfl (Sub.cons (s := 9) rfl (Sub.cons (s := 10) rfl (Sub.cons (s := 11) rfl (Sub.cons (s := 12) rfl (Sub.cons (s := 13) rfl (Sub.cons (s := 14) rfl (Sub.cons (s := 15) rfl (Sub.cons (s := 16) rfl (Sub.nil _))))))))))))))) ?_
  rintro m Ds ρ' B' H' ⟨j, qs, B2, H2, ⟨hlj, hjn, hxs0, hJq, hB2⟩, rfl, rfl, rfl, rfl⟩
  have hqn := hB2 _ _ hqn
  have hRk := hRk.mono hB2
  have hRv := hRv.mono hB2
  have hRc := hRc.mono hB2
  refine Cx.seq (fun K3 k3 => ?_)
  refine Cx.seq (fun K4 k4 => ?_)
  refine Cx.region ?_
  refine Lx.y (mv rfl) rfl ?_
  refine Lx.y (ld Tryz.underlying110 rfl rfl rfl) rfl ?_
  refine Lx.y (nilc rfl) rfl ?_
  refine Lx.y (fa' fo113_0 rfl) rfl ?_
  refine Lx.y (ldB Tryz.underlying23 rfl rfl (by first | exact hqn | exact hB _ _ hqn) rfl) rfl ?_
  refine Lx.y (lenV (ty' := 0) Tryz.underlying23 rfl) rfl ?_
  refine Lx.y (leq rfl rfl) rfl ?_
  refine Lx.nil ?_
  refine Xx.tn (k4 _ _ _ _ ?_)
  refine Cx.condD rfl (fun h5 => ?_) (fun h5 => ?_)
  · skip
    have hjn2 := h5
    refine Cx.skip ?_
    refine Xx.tn (k3 _ _ _ _ ?_)
    refine Cx.seq (fun K6 k6 => ?_)
    refine Cx.block ?_
    refine Cx.seq (fun K7 k7 => ?_)
    refine Cx.seq (fun K8 k8 => ?_)
    refine Cx.region ?_
    refine Lx.y (ld Tryz.underlying110 rfl rfl rfl) rfl ?_
    refine Lx.y (nilc rfl) rfl ?_
    refine Lx.y (fa' fo113_2 rfl) rfl ?_
    refine Lx.y (ldB Tryz.underlying111 rfl rfl (by first | exact hqn | exact hB _ _ hqn) rfl) rfl ?_
    refine Lx.y (lenV (ty' := 0) Tryz.underlying111 rfl) rfl ?_
    refine Lx.y (gtr rfl rfl) rfl ?_
    refine Lx.nil ?_
    refine Xx.tn (k8 _ _ _ _ ?_)
    refine Cx.condD rfl (fun h9 => ?_) (fun h9 => ?_)
    · skip
      have hz := h9
      have hcl2 : nd.cs.length = nd.ks.length + 1 := by rcases hcl with z | z; exact absurd hz (by rw [z]; decide); exact z
      have hcj : j < nd.cs.length := by omega
      obtain ⟨bv, ov, csv, etv, fzv, hAv, hBv, hvv⟩ := hRc.at1 (k := j) hcj
      rw [List.getElem?_map, List.getElem?_eq_getElem hcj] at hvv
      have hJc := hJq
      refine Cx.seq (fun K10 k10 => ?_)
      refine Cx.drawn (by kernel_rfl) ?_
      refine Dx.r (i := 0) rfl (by kernel_rfl) (ld Tryz.underlying110 rfl rfl rfl) rfl ?_
      refine Dx.p (i := 1) rfl (by kernel_rfl) (nilc rfl) rfl ?_
      refine Dx.p (i := 2) rfl (by kernel_rfl) (fa' fo113_2 rfl) rfl ?_
      refine Dx.r (i := 3) rfl (by kernel_rfl) (Yx.val (ldB Tryz.underlying111 rfl rfl (by first | exact hqn | exact hB _ _ hqn) rfl) (show _ = Value.slice (some ⟨bv, ov, none⟩) nd.cs.length nd.cc by rw [← hAv])) rfl ?_
      refine Dx.p (i := 4) rfl (by kernel_rfl) (mv rfl) rfl ?_
      refine Dx.p (i := 5) rfl (by kernel_rfl) (ia Tryz.underlying111 sz110 rfl rfl (by first | exact Int.toNat_natCast _ | rfl) (by omega) (by omega)) rfl ?_
      refine Dx.r (i := 6) rfl (by kernel_rfl) (ldB Tryz.underlying110 rfl rfl (by first | exact hBv | exact hB _ _ hBv) hvv) rfl ?_
      refine Dx.r (i := 7) rfl (by kernel_rfl) (ld Tryz.underlying9 rfl rfl rfl) rfl ?_
      refine Dx.one (i := 8) (by kernel_rfl) ?_
      refine Dstep.o (i := 8) rfl (Ox.call rfl rfl rfl (From_ct nd.cs[j] lo _) ((one_star _).symm)) rfl (fun v B' H' hΦ hB => ?_)
      obtain ⟨_, rfl, hΦ⟩ := hΦ
      obtain ⟨hBB, b4, b5, rfl, rfl⟩ := hΦ
      have hBB2 := hBB.symm
      subst hBB2
      have hle := hB2
      refine ⟨JOk.edge (JOk.edge (JOk.yes (JOk.yes (JOk.top) (ld Tryz.underlying110 rfl rfl rfl)) (Yx.val (ldB Tryz.underlying111 rfl rfl (by first | exact hqn | exact hB _ _ hqn) rfl) (show _ = Value.slice (some ⟨bv, ov, none⟩) nd.cs.length nd.cc by rw [← hAv]))) (by kernel_rfl)) (by kernel_rfl), ?_⟩
      refine Dx.done (by kernel_rfl) ?_
      refine Xx.tn (k10 _ _ _ _ ?_)
      refine Cx.block ?_
      refine Cx.rangeK (σ := _) (Sub.cons (s := 3) rfl (Sub.nil _)) rfl rfl (ih nd.cs[j] lo b4 b5 B2 ((hkids _ (List.getElem_mem hcj)).mono hB2) ((Ok.of1 (hok.2.2.2 _ (List.getElem_mem hcj))).le (by decide)) (kid_ord hok ho hcl2 hcj)) (show _ = (row b4 110 [pt nd.cs[j]] * row b5 9 [str lo]) * ((row b3 89 [.func (.yield lp) #[] #[]] * H2) * (row b1 110 [pt nd] * (row b2 9 [str lo] * (marks Ds * R)))) by ac_rfl) rfl (fun _ => rfl) (fun pre2 B' H' => ∃ Hj, J (qs ++ pre2) B' Hj ∧ H' = row b3 89 [.func (.yield lp) #[] #[]] * Hj) (fun c pre2 B' H' => c = .ret ∧ ∃ Hj, Jx (qs ++ pre2) B' Hj ∧ H' = row b3 89 [.func (.yield lp) #[] #[]] * Hj) (fun pre2 x B1 ρ' B' H' => ∃ Hj, ρ' = [(6, str x.1), (7, str x.2)] ∧ B' = B1 ∧ J (qs ++ pre2) B' Hj ∧ H' = row b3 89 [.func (.yield lp) #[] #[]] * Hj) (⟨H2, by rw [List.append_nil]; exact hJc, rfl⟩) ?_ ?_ ?_ ?_
      · rintro lz Nz wz pre x post B1 H1 F K hxs hB1 hJ hK
        obtain ⟨Hj, hJj, rfl⟩ := hJ
        refine Cx.seq (fun K11 k11 => ?_)
        refine Cx.region ?_
        refine Lx.y (asg rfl) rfl ?_
        refine Lx.nil ?_
        refine Xx.tn (k11 _ _ _ _ ?_)
        refine Cx.region ?_
        refine Lx.y (asg rfl) rfl ?_
        refine Lx.nil ?_
        refine Xx.tn ?_
        exact Xx.sub (hK _ _ _ ⟨Hj, rfl, rfl, hJj, rfl⟩ (Frag.le_refl _)) (Sub.cons (s := 6) rfl (Sub.cons (s := 7) rfl (Sub.cons (s := 3) rfl (Sub.nil _))))
      · rintro lz Nz wz pre x post B1 F ρ' B' H' hxs hB1 hBx hAS
        obtain ⟨Hj, rfl, hBB, hJj, rfl⟩ := hAS
        subst hBB
        rename Frag => B6
        clear hBx
        simp only [star_assoc]
        refine Cx.block ?_
        refine Cx.seq (fun K12 k12 => ?_)
        refine Cx.region ?_
        refine Lx.y (ld Tryz.underlying89 rfl rfl rfl) rfl ?_
        refine Lx.y (mv rfl) rfl ?_
        refine Lx.y (mv rfl) rfl ?_
        refine Lx.yield rfl rfl (hy (qs ++ pre) x (post ++ fromL lo (tl (io d) nd.ks nd.vs nd.cs j)) B6 Hj (by rw [hxs0, tl_kid hvl hcl2 hcj, fromL_app, hxs]; simp) (Frag.le_trans hBz (Frag.le_trans hle hB1)) hJj) (star_left _ _ _) rfl ?_
        rintro t B7 H7 hΦ hB7
        refine Lx.y (not' rfl) rfl ?_
        refine Lx.nil ?_
        refine Xx.tn (k12 _ _ _ _ ?_)
        refine Cx.condB rfl (fun h13 => ?_) (fun h13 => ?_)
        · skip
          obtain ⟨_, hΦ⟩ : t = false ∧ Jx ((qs ++ pre) ++ [x]) B7 H7 := by simpa [show t = false by simpa using h13] using hΦ
          refine Cx.ret ?_
          refine Xx.br ?_
          exact Xx.rqr ⟨rfl, _, by rw [← List.append_assoc]; exact hΦ, rfl⟩ hB7 (by ac_rfl)
        · skip
          obtain ⟨_, hΦ⟩ : t = true ∧ J ((qs ++ pre) ++ [x]) B7 H7 := by simpa [show t = true by simpa using h13] using hΦ
          refine Cx.skip ?_
          refine Xx.bn ?_
          exact Xx.rqn ⟨_, by rw [← List.append_assoc]; exact hΦ, rfl⟩ hB7 (by ac_rfl)
      · rintro D B' H' hBx hJ
        obtain ⟨Hc, hJc, rfl⟩ := hJ
        rename Frag => Bc
        have hle := Frag.le_trans hle hBx
        have hxt : fromL lo (io (d + 1) nd) = (qs ++ fromL lo (io d nd.cs[j])) ++ fromL lo (tl (io d) nd.ks nd.vs nd.cs j) := by rw [hxs0, tl_kid hvl hcl2 hcj, fromL_app, List.append_assoc]
        generalize qs ++ fromL lo (io d nd.cs[j]) = qs at hJc hxt
        have hqn := hBx _ _ hqn
        have hRk := hRk.mono hBx
        have hRv := hRv.mono hBx
        have hRc := hRc.mono hBx
        simp only [star_assoc]
        refine Xx.dropB b4 (Xx.dropB b5 ?_)
        refine Xx.perm ?_ (show _ = row b3 89 [.func (.yield lp) #[] #[]] * (row b1 110 [pt nd] * (row b2 9 [str lo] * (Hc * (marks (D :: Ds) * R)))) by rw [marks_cons]; ac_rfl)
        refine Xx.bn ?_
        refine Xx.tn (k7 _ _ _ _ ?_)
        refine Cx.seq (fun K14 k14 => ?_)
        refine Cx.drawn (by kernel_rfl) ?_
        refine Dx.p (i := 0) rfl (by kernel_rfl) (mv rfl) rfl ?_
        refine Dx.r (i := 1) rfl (by kernel_rfl) (ld Tryz.underlying110 rfl rfl rfl) rfl ?_
        refine Dx.p (i := 2) rfl (by kernel_rfl) (nilc rfl) rfl ?_
        refine Dx.p (i := 3) rfl (by kernel_rfl) (fa' fo113_0 rfl) rfl ?_
        refine Dx.r (i := 4) rfl (by kernel_rfl) (ldB Tryz.underlying23 rfl rfl (by first | exact hqn | exact hB _ _ hqn) rfl) rfl ?_
        refine Dx.p (i := 5) rfl (by kernel_rfl) (lenV (ty' := 0) Tryz.underlying23 rfl) rfl ?_
        refine Dx.p (i := 6) rfl (by kernel_rfl) (lss rfl rfl) rfl ?_
        refine Dx.p (i := 7) rfl (by kernel_rfl) (mv rfl) rfl ?_
        refine Xx.ifD (t := 55) rfl (fun h15 => ?_) (fun h15 => ?_)
        · skip
          have hlt := h15
          have hlt : j < nd.ks.length := by omega
          obtain ⟨bk, ok, csk, etk, fzk, hAk, hBk, hvk⟩ := roe_str hRk hlt rfl
          obtain ⟨bw, ow, csw, etw, fzw, hAw, hBw, hvw⟩ := roe_str hRv (show j < nd.vs.length by omega) rfl
          have hx3 : fromL lo (io (d + 1) nd) = qs ++ (nd.ks[j], nd.vs[j]'(by omega)) :: fromL lo (ioL (io d) (nd.ks.drop (j + 1)) (nd.vs.drop (j + 1)) (nd.cs.drop (j + 1))) := by
            have hge : bless nd.ks[j] lo = false := by
              have h9 := (lb_spec (t := lo) hs).2 (by omega)
              rcases Nat.lt_or_ge (lb nd.ks lo) j with h8 | h8
              · cases hb8 : bless nd.ks[j] lo with
                | false => rfl
                | true => rw [bless_trans (hs.lt hlt h8) hb8] at h9; cases h9
              · obtain rfl : lb nd.ks lo = j := by omega
                exact h9
            rw [hxt, tl_lt hlt (by omega), fromL_cons hge]
          refine Dx.rT (i := 8) rfl rfl rfl rfl (by kernel_rfl) (ld Tryz.underlying89 rfl rfl rfl) rfl ?_
          refine Dx.rT (i := 9) rfl rfl rfl rfl (by kernel_rfl) (ld Tryz.underlying110 rfl rfl rfl) rfl ?_
          refine Dx.pT (i := 10) rfl rfl rfl rfl (by kernel_rfl) (nilc rfl) rfl ?_
          refine Dx.pT (i := 11) rfl rfl rfl rfl (by kernel_rfl) (fa' fo113_0 rfl) rfl ?_
          refine Dx.rT (i := 12) rfl rfl rfl rfl (by kernel_rfl) (Yx.val (ldB Tryz.underlying23 rfl rfl (by first | exact hqn | exact hB _ _ hqn) rfl) (show _ = Value.slice (some ⟨bk, ok, none⟩) nd.ks.length nd.ck by rw [← hAk])) rfl ?_
          refine Dx.pT (i := 13) rfl rfl rfl rfl (by kernel_rfl) (mv rfl) rfl ?_
          refine Dx.pT (i := 14) rfl rfl rfl rfl (by kernel_rfl) (ia Tryz.underlying23 sz9 rfl rfl (by first | exact Int.toNat_natCast _ | rfl) (by omega) (by omega)) rfl ?_
          refine Dx.rT (i := 15) rfl rfl rfl rfl (by kernel_rfl) (ldB Tryz.underlying9 rfl rfl (by first | exact hBk | exact hB _ _ hBk) hvk) rfl ?_
          refine Dx.rT (i := 16) rfl rfl rfl rfl (by kernel_rfl) (ld Tryz.underlying110 rfl rfl rfl) rfl ?_
          refine Dx.pT (i := 17) rfl rfl rfl rfl (by kernel_rfl) (nilc rfl) rfl ?_
          refine Dx.pT (i := 18) rfl rfl rfl rfl (by kernel_rfl) (fa' fo113_1 rfl) rfl ?_
          refine Dx.rT (i := 19) rfl rfl rfl rfl (by kernel_rfl) (Yx.val (ldB Tryz.underlying23 rfl rfl (by first | exact hqn | exact hB _ _ hqn) rfl) (show _ = Value.slice (some ⟨bw, ow, none⟩) nd.vs.length nd.cv by rw [← hAw])) rfl ?_
          refine Dx.pT (i := 20) rfl rfl rfl rfl (by kernel_rfl) (mv rfl) rfl ?_
          refine Dx.pT (i := 21) rfl rfl rfl rfl (by kernel_rfl) (ia Tryz.underlying23 sz9 rfl rfl (by first | exact Int.toNat_natCast _ | rfl) (by omega) (by omega)) rfl ?_
          refine Dx.rT (i := 22) rfl rfl rfl rfl (by kernel_rfl) (ldB Tryz.underlying9 rfl rfl (by first | exact hBw | exact hB _ _ hBw) hvw) rfl ?_
          refine Dx.one (i := 23) (by kernel_rfl) ?_
          refine Dstep.oT (i := 23) rfl rfl rfl rfl (Ox.yield rfl rfl (hy qs (nd.ks[j], nd.vs[j]'(by omega)) _ _ _ hx3 (Frag.le_trans hBz hle) hJc) (pick3 _ _ _ _ _)) rfl (fun v B' H' hΦ hB => ?_)
          obtain ⟨t, _, rfl, rfl, hΦ⟩ := hΦ
          have hle8 := Frag.le_trans hle hB
          refine ⟨JOk.edge (JOk.yes (JOk.yes (JOk.edge (JOk.yes (JOk.yes (JOk.edge (JOk.yes (JOk.yes (JOk.top) (ld Tryz.underlying110 rfl rfl rfl)) (ldB Tryz.underlying23 rfl rfl (by first | exact hqn | exact hB _ _ hqn) rfl)) (by kernel_rfl)) (ld Tryz.underlying110 rfl rfl rfl)) (Yx.val (ldB Tryz.underlying23 rfl rfl (by first | exact hqn | exact hB _ _ hqn) rfl) (show _ = Value.slice (some ⟨bk, ok, none⟩) nd.ks.length nd.ck by rw [← hAk]))) (by kernel_rfl)) (ld Tryz.underlying110 rfl rfl rfl)) (Yx.val (ldB Tryz.underlying23 rfl rfl (by first | exact hqn | exact hB _ _ hqn) rfl) (show _ = Value.slice (some ⟨bw, ow, none⟩) nd.vs.length nd.cv by rw [← hAw]))) (by kernel_rfl), ?_⟩
          refine Dx.pT (i := 24) rfl rfl rfl rfl (by kernel_rfl) (not' rfl) rfl ?_
          refine Dx.p (i := 25) rfl (by kernel_rfl) (pickT rfl rfl) rfl ?_
          refine Dx.done (by kernel_rfl) ?_
          refine Xx.tn (k14 _ _ _ _ ?_)
          refine Cx.condB rfl (fun h16 => ?_) (fun h16 => ?_)
          · skip
            obtain ⟨_, hΦ⟩ : t = false ∧ Jx (qs ++ [(nd.ks[j], nd.vs[j]'(by omega))]) _ _ := by simpa [show t = false by simpa using h16] using hΦ
            refine Cx.ret ?_
            refine Xx.br ?_
            refine Xx.tr ?_
            refine Xx.tr ?_
            refine Xx.br ?_
            refine Xx.dropB b3 ?_
            exact Xx.rM (Ds := D :: Ds) (fun a w f _ => results_none rfl _ _ _) ⟨_, rfl, .inr ⟨_, _, by rw [hx3, List.append_cons], hΦ⟩⟩ hle8 (by ac_rfl)
          · skip
            obtain ⟨_, hΦ⟩ : t = true ∧ J (qs ++ [(nd.ks[j], nd.vs[j]'(by omega))]) _ _ := by simpa [show t = true by simpa using h16] using hΦ
            have hle := hle8
            have hx4 : fromL lo (io (d + 1) nd) = (qs ++ [(nd.ks[j], nd.vs[j]'(by omega))]) ++ fromL lo (ioL (io d) (nd.ks.drop (j + 1)) (nd.vs.drop (j + 1)) (nd.cs.drop (j + 1))) := by rw [hx3]; simp
            refine Cx.skip ?_
            refine Xx.bn ?_
            refine Xx.tn (k6 _ _ _ _ ?_)
            refine Cx.region ?_
            refine Lx.y (mv rfl) rfl ?_
            refine Lx.y (Yx.val (add rfl rfl (by first | exact wrap64 (by omega) (by omega) | rfl)) (show _ = i64 ((j + 1 : Nat) : Int) from rfl)) rfl ?_
            refine Lx.y (asg rfl) rfl ?_
            refine Lx.nil ?_
            exact Xx.againKD (D :: Ds) rfl ⟨j + 1, _, _, _, ⟨by omega, by omega, hx4, hΦ, hle⟩, rfl, rfl, rfl, (by rw [marks_cons]; ac_rfl)⟩ (by omega) (Sub.cons (s := 4) rfl (Sub.cons (s := 0) rfl (Sub.cons (s := 1) rfl (Sub.cons (s := 2) rfl (Sub.cons (s := 3) rfl (Sub.cons (s := 8) rfl (Sub.cons (s := 9) rfl (Sub.cons (s := 10) rfl (Sub.cons (s := 11) rfl (Sub.cons (s := 12) rfl (Sub.cons (s := 13) rfl (Sub.cons (s := 14) rfl (Sub.cons (s := 15) rfl (Sub.cons (s := 16) rfl (Sub.nil _)))))))))))))))
        · skip
          have hge := h15
          have hjn3 : j = nd.ks.length := by omega
          have hx4 : fromL lo (io (d + 1) nd) = qs ++ fromL lo (ioL (io d) (nd.ks.drop (j + 1)) (nd.vs.drop (j + 1)) (nd.cs.drop (j + 1))) := by rw [hxt, tl_ge (by omega), rest_end hvl hcl (by omega)]
          refine Dx.pF (i := 8) rfl (fun _ h => by cases h) rfl rfl rfl (by kernel_rfl) rfl ?_
          refine Dx.pF (i := 9) rfl (fun _ h => by cases h) rfl rfl rfl (by kernel_rfl) rfl ?_
          refine Dx.pF (i := 10) rfl (fun _ h => by cases h) rfl rfl rfl (by kernel_rfl) rfl ?_
          refine Dx.pF (i := 11) rfl (fun _ h => by cases h) rfl rfl rfl (by kernel_rfl) rfl ?_
          refine Dx.pF (i := 12) rfl (fun _ h => by cases h) rfl rfl rfl (by kernel_rfl) rfl ?_
          refine Dx.pF (i := 13) rfl (fun _ h => by cases h) rfl rfl rfl (by kernel_rfl) rfl ?_
          refine Dx.pF (i := 14) rfl (fun _ h => by cases h) rfl rfl rfl (by kernel_rfl) rfl ?_
          refine Dx.pF (i := 15) rfl (fun _ h => by cases h) rfl rfl rfl (by kernel_rfl) rfl ?_
          refine Dx.pF (i := 16) rfl (fun _ h => by cases h) rfl rfl rfl (by kernel_rfl) rfl ?_
          refine Dx.pF (i := 17) rfl (fun _ h => by cases h) rfl rfl rfl (by kernel_rfl) rfl ?_
          refine Dx.pF (i := 18) rfl (fun _ h => by cases h) rfl rfl rfl (by kernel_rfl) rfl ?_
          refine Dx.pF (i := 19) rfl (fun _ h => by cases h) rfl rfl rfl (by kernel_rfl) rfl ?_
          refine Dx.pF (i := 20) rfl (fun _ h => by cases h) rfl rfl rfl (by kernel_rfl) rfl ?_
          refine Dx.pF (i := 21) rfl (fun _ h => by cases h) rfl rfl rfl (by kernel_rfl) rfl ?_
          refine Dx.pF (i := 22) rfl (fun _ h => by cases h) rfl rfl rfl (by kernel_rfl) rfl ?_
          refine Dx.pF (i := 23) rfl (fun _ h => by cases h) rfl rfl rfl (by kernel_rfl) rfl ?_
          refine Dx.pF (i := 24) rfl (fun _ h => by cases h) rfl rfl rfl (by kernel_rfl) rfl ?_
          refine Dx.p (i := 25) rfl (by kernel_rfl) (pickF rfl rfl) rfl ?_
          refine Dx.done (by kernel_rfl) ?_
          refine Xx.tn (k14 _ _ _ _ ?_)
          refine Cx.condF rfl ?_
          refine Cx.skip ?_
          refine Xx.bn ?_
          refine Xx.tn (k6 _ _ _ _ ?_)
          refine Cx.region ?_
          refine Lx.y (mv rfl) rfl ?_
          refine Lx.y (Yx.val (add rfl rfl (by first | exact wrap64 (by omega) (by omega) | rfl)) (show _ = i64 ((j + 1 : Nat) : Int) from rfl)) rfl ?_
          refine Lx.y (asg rfl) rfl ?_
          refine Lx.nil ?_
          exact Xx.againKD (D :: Ds) rfl ⟨j + 1, _, _, _, ⟨by omega, by omega, hx4, hJc, hle⟩, rfl, rfl, rfl, rfl⟩ (by omega) (Sub.cons (s := 4) rfl (Sub.cons (s := 0) rfl (Sub.cons (s := 1) rfl (Sub.cons (s := 2) rfl (Sub.cons (s := 3) rfl (Sub.cons (s := 8) rfl (Sub.cons (s := 9) rfl (Sub.cons (s := 10) rfl (Sub.cons (s := 11) rfl (Sub.cons (s := 12) rfl (Sub.cons (s := 13) rfl (Sub.cons (s := 14) rfl (Sub.cons (s := 15) rfl (Sub.cons (s := 16) rfl (Sub.nil _)))))))))))))))
      · rintro D c pre post B' H' hxs hBx hJx
        obtain ⟨rfl, Hc, hJc, rfl⟩ := hJx
        have hle := Frag.le_trans hle hBx
        have hxt : fromL lo (io (d + 1) nd) = (qs ++ pre) ++ (post ++ fromL lo (tl (io d) nd.ks nd.vs nd.cs j)) := by rw [hxs0, tl_kid hvl hcl2 hcj, fromL_app, hxs]; simp
        refine Cx.ret ?_
        refine Xx.br ?_
        refine Xx.tr ?_
        refine Xx.br ?_
        refine Xx.tr ?_
        refine Xx.tr ?_
        refine Xx.br ?_
        simp only [star_assoc]
        refine Xx.dropB b3 (Xx.dropB b4 (Xx.dropB b5 ?_))
        exact Xx.rM (Ds := D :: Ds) (fun a w f _ => results_none rfl _ _ _) ⟨_, rfl, .inr ⟨_, _, hxt, hJc⟩⟩ hle (by rw [marks_cons]; ac_rfl)
    · skip
      have hz := h9
      have hc0 : nd.cs = [] := List.length_eq_zero_iff.1 (by omega)
      have hJc := hJq
      have hle := hB2
      have hxt : fromL lo (io (d + 1) nd) = qs ++ fromL lo (tl (io d) nd.ks nd.vs nd.cs j) := by rw [hxs0, hc0, tl_leaf hvl]
      refine Cx.skip ?_
      refine Xx.tn (k7 _ _ _ _ ?_)
      refine Cx.seq (fun K17 k17 => ?_)
      refine Cx.drawn (by kernel_rfl) ?_
      refine Dx.p (i := 0) rfl (by kernel_rfl) (mv rfl) rfl ?_
      refine Dx.r (i := 1) rfl (by kernel_rfl) (ld Tryz.underlying110 rfl rfl rfl) rfl ?_
      refine Dx.p (i := 2) rfl (by kernel_rfl) (nilc rfl) rfl ?_
      refine Dx.p (i := 3) rfl (by kernel_rfl) (fa' fo113_0 rfl) rfl ?_
      refine Dx.r (i := 4) rfl (by kernel_rfl) (ldB Tryz.underlying23 rfl rfl (by first | exact hqn | exact hB _ _ hqn) rfl) rfl ?_
      refine Dx.p (i := 5) rfl (by kernel_rfl) (lenV (ty' := 0) Tryz.underlying23 rfl) rfl ?_
      refine Dx.p (i := 6) rfl (by kernel_rfl) (lss rfl rfl) rfl ?_
      refine Dx.p (i := 7) rfl (by kernel_rfl) (mv rfl) rfl ?_
      refine Xx.ifD (t := 55) rfl (fun h18 => ?_) (fun h18 => ?_)
      · skip
        have hlt := h18
        have hlt : j < nd.ks.length := by omega
        obtain ⟨bk, ok, csk, etk, fzk, hAk, hBk, hvk⟩ := roe_str hRk hlt rfl
        obtain ⟨bw, ow, csw, etw, fzw, hAw, hBw, hvw⟩ := roe_str hRv (show j < nd.vs.length by omega) rfl
        have hx3 : fromL lo (io (d + 1) nd) = qs ++ (nd.ks[j], nd.vs[j]'(by omega)) :: fromL lo (ioL (io d) (nd.ks.drop (j + 1)) (nd.vs.drop (j + 1)) (nd.cs.drop (j + 1))) := by
          have hge : bless nd.ks[j] lo = false := by
            have h9 := (lb_spec (t := lo) hs).2 (by omega)
            rcases Nat.lt_or_ge (lb nd.ks lo) j with h8 | h8
            · cases hb8 : bless nd.ks[j] lo with
              | false => rfl
              | true => rw [bless_trans (hs.lt hlt h8) hb8] at h9; cases h9
            · obtain rfl : lb nd.ks lo = j := by omega
              exact h9
          rw [hxt, tl_lt hlt (by omega), fromL_cons hge]
        refine Dx.rT (i := 8) rfl rfl rfl rfl (by kernel_rfl) (ld Tryz.underlying89 rfl rfl rfl) rfl ?_
        refine Dx.rT (i := 9) rfl rfl rfl rfl (by kernel_rfl) (ld Tryz.underlying110 rfl rfl rfl) rfl ?_
        refine Dx.pT (i := 10) rfl rfl rfl rfl (by kernel_rfl) (nilc rfl) rfl ?_
        refine Dx.pT (i := 11) rfl rfl rfl rfl (by kernel_rfl) (fa' fo113_0 rfl) rfl ?_
        refine Dx.rT (i := 12) rfl rfl rfl rfl (by kernel_rfl) (Yx.val (ldB Tryz.underlying23 rfl rfl (by first | exact hqn | exact hB _ _ hqn) rfl) (show _ = Value.slice (some ⟨bk, ok, none⟩) nd.ks.length nd.ck by rw [← hAk])) rfl ?_
        refine Dx.pT (i := 13) rfl rfl rfl rfl (by kernel_rfl) (mv rfl) rfl ?_
        refine Dx.pT (i := 14) rfl rfl rfl rfl (by kernel_rfl) (ia Tryz.underlying23 sz9 rfl rfl (by first | exact Int.toNat_natCast _ | rfl) (by omega) (by omega)) rfl ?_
        refine Dx.rT (i := 15) rfl rfl rfl rfl (by kernel_rfl) (ldB Tryz.underlying9 rfl rfl (by first | exact hBk | exact hB _ _ hBk) hvk) rfl ?_
        refine Dx.rT (i := 16) rfl rfl rfl rfl (by kernel_rfl) (ld Tryz.underlying110 rfl rfl rfl) rfl ?_
        refine Dx.pT (i := 17) rfl rfl rfl rfl (by kernel_rfl) (nilc rfl) rfl ?_
        refine Dx.pT (i := 18) rfl rfl rfl rfl (by kernel_rfl) (fa' fo113_1 rfl) rfl ?_
        refine Dx.rT (i := 19) rfl rfl rfl rfl (by kernel_rfl) (Yx.val (ldB Tryz.underlying23 rfl rfl (by first | exact hqn | exact hB _ _ hqn) rfl) (show _ = Value.slice (some ⟨bw, ow, none⟩) nd.vs.length nd.cv by rw [← hAw])) rfl ?_
        refine Dx.pT (i := 20) rfl rfl rfl rfl (by kernel_rfl) (mv rfl) rfl ?_
        refine Dx.pT (i := 21) rfl rfl rfl rfl (by kernel_rfl) (ia Tryz.underlying23 sz9 rfl rfl (by first | exact Int.toNat_natCast _ | rfl) (by omega) (by omega)) rfl ?_
        refine Dx.rT (i := 22) rfl rfl rfl rfl (by kernel_rfl) (ldB Tryz.underlying9 rfl rfl (by first | exact hBw | exact hB _ _ hBw) hvw) rfl ?_
        refine Dx.one (i := 23) (by kernel_rfl) ?_
        refine Dstep.oT (i := 23) rfl rfl rfl rfl (Ox.yield rfl rfl (hy qs (nd.ks[j], nd.vs[j]'(by omega)) _ _ _ hx3 (Frag.le_trans hBz hle) hJc) (pick3 _ _ _ _ _)) rfl (fun v B' H' hΦ hB => ?_)
        obtain ⟨t, _, rfl, rfl, hΦ⟩ := hΦ
        have hle8 := Frag.le_trans hle hB
        refine ⟨JOk.edge (JOk.yes (JOk.yes (JOk.edge (JOk.yes (JOk.yes (JOk.edge (JOk.yes (JOk.yes (JOk.top) (ld Tryz.underlying110 rfl rfl rfl)) (ldB Tryz.underlying23 rfl rfl (by first | exact hqn | exact hB _ _ hqn) rfl)) (by kernel_rfl)) (ld Tryz.underlying110 rfl rfl rfl)) (Yx.val (ldB Tryz.underlying23 rfl rfl (by first | exact hqn | exact hB _ _ hqn) rfl) (show _ = Value.slice (some ⟨bk, ok, none⟩) nd.ks.length nd.ck by rw [← hAk]))) (by kernel_rfl)) (ld Tryz.underlying110 rfl rfl rfl)) (Yx.val (ldB Tryz.underlying23 rfl rfl (by first | exact hqn | exact hB _ _ hqn) rfl) (show _ = Value.slice (some ⟨bw, ow, none⟩) nd.vs.length nd.cv by rw [← hAw]))) (by kernel_rfl), ?_⟩
        refine Dx.pT (i := 24) rfl rfl rfl rfl (by kernel_rfl) (not' rfl) rfl ?_
        refine Dx.p (i := 25) rfl (by kernel_rfl) (pickT rfl rfl) rfl ?_
        refine Dx.done (by kernel_rfl) ?_
        refine Xx.tn (k17 _ _ _ _ ?_)
        refine Cx.condB rfl (fun h19 => ?_) (fun h19 => ?_)
        · skip
          obtain ⟨_, hΦ⟩ : t = false ∧ Jx (qs ++ [(nd.ks[j], nd.vs[j]'(by omega))]) _ _ := by simpa [show t = false by simpa using h19] using hΦ
          refine Cx.ret ?_
          refine Xx.br ?_
          refine Xx.tr ?_
          refine Xx.tr ?_
          refine Xx.br ?_
          refine Xx.dropB b3 ?_
          exact Xx.rM (Ds := Ds) (fun a w f _ => results_none rfl _ _ _) ⟨_, rfl, .inr ⟨_, _, by rw [hx3, List.append_cons], hΦ⟩⟩ hle8 (by ac_rfl)
        · skip
          obtain ⟨_, hΦ⟩ : t = true ∧ J (qs ++ [(nd.ks[j], nd.vs[j]'(by omega))]) _ _ := by simpa [show t = true by simpa using h19] using hΦ
          have hle := hle8
          have hx4 : fromL lo (io (d + 1) nd) = (qs ++ [(nd.ks[j], nd.vs[j]'(by omega))]) ++ fromL lo (ioL (io d) (nd.ks.drop (j + 1)) (nd.vs.drop (j + 1)) (nd.cs.drop (j + 1))) := by rw [hx3]; simp
          refine Cx.skip ?_
          refine Xx.bn ?_
          refine Xx.tn (k6 _ _ _ _ ?_)
          refine Cx.region ?_
          refine Lx.y (mv rfl) rfl ?_
          refine Lx.y (Yx.val (add rfl rfl (by first | exact wrap64 (by omega) (by omega) | rfl)) (show _ = i64 ((j + 1 : Nat) : Int) from rfl)) rfl ?_
          refine Lx.y (asg rfl) rfl ?_
          refine Lx.nil ?_
          exact Xx.againKD (Ds) rfl ⟨j + 1, _, _, _, ⟨by omega, by omega, hx4, hΦ, hle⟩, rfl, rfl, rfl, (by ac_rfl)⟩ (by omega) (Sub.cons (s := 4) rfl (Sub.cons (s := 0) rfl (Sub.cons (s := 1) rfl (Sub.cons (s := 2) rfl (Sub.cons (s := 3) rfl (Sub.cons (s := 8) rfl (Sub.cons (s := 9) rfl (Sub.cons (s := 10) rfl (Sub.cons (s := 11) rfl (Sub.cons (s := 12) rfl (Sub.cons (s := 13) rfl (Sub.cons (s := 14) rfl (Sub.cons (s := 15) rfl (Sub.cons (s := 16) rfl (Sub.nil _)))))))))))))))
      · skip
        have hge := h18
        have hjn3 : j = nd.ks.length := by omega
        have hx4 : fromL lo (io (d + 1) nd) = qs ++ fromL lo (ioL (io d) (nd.ks.drop (j + 1)) (nd.vs.drop (j + 1)) (nd.cs.drop (j + 1))) := by rw [hxt, tl_ge (by omega), rest_end hvl hcl (by omega)]
        refine Dx.pF (i := 8) rfl (fun _ h => by cases h) rfl rfl rfl (by kernel_rfl) rfl ?_
        refine Dx.pF (i := 9) rfl (fun _ h => by cases h) rfl rfl rfl (by kernel_rfl) rfl ?_
        refine Dx.pF (i := 10) rfl (fun _ h => by cases h) rfl rfl rfl (by kernel_rfl) rfl ?_
        refine Dx.pF (i := 11) rfl (fun _ h => by cases h) rfl rfl rfl (by kernel_rfl) rfl ?_
        refine Dx.pF (i := 12) rfl (fun _ h => by cases h) rfl rfl rfl (by kernel_rfl) rfl ?_
        refine Dx.pF (i := 13) rfl (fun _ h => by cases h) rfl rfl rfl (by kernel_rfl) rfl ?_
        refine Dx.pF (i := 14) rfl (fun _ h => by cases h) rfl rfl rfl (by kernel_rfl) rfl ?_
        refine Dx.pF (i := 15) rfl (fun _ h => by cases h) rfl rfl rfl (by kernel_rfl) rfl ?_
        refine Dx.pF (i := 16) rfl (fun _ h => by cases h) rfl rfl rfl (by kernel_rfl) rfl ?_
        refine Dx.pF (i := 17) rfl (fun _ h => by cases h) rfl rfl rfl (by kernel_rfl) rfl ?_
        refine Dx.pF (i := 18) rfl (fun _ h => by cases h) rfl rfl rfl (by kernel_rfl) rfl ?_
        refine Dx.pF (i := 19) rfl (fun _ h => by cases h) rfl rfl rfl (by kernel_rfl) rfl ?_
        refine Dx.pF (i := 20) rfl (fun _ h => by cases h) rfl rfl rfl (by kernel_rfl) rfl ?_
        refine Dx.pF (i := 21) rfl (fun _ h => by cases h) rfl rfl rfl (by kernel_rfl) rfl ?_
        refine Dx.pF (i := 22) rfl (fun _ h => by cases h) rfl rfl rfl (by kernel_rfl) rfl ?_
        refine Dx.pF (i := 23) rfl (fun _ h => by cases h) rfl rfl rfl (by kernel_rfl) rfl ?_
        refine Dx.pF (i := 24) rfl (fun _ h => by cases h) rfl rfl rfl (by kernel_rfl) rfl ?_
        refine Dx.p (i := 25) rfl (by kernel_rfl) (pickF rfl rfl) rfl ?_
        refine Dx.done (by kernel_rfl) ?_
        refine Xx.tn (k17 _ _ _ _ ?_)
        refine Cx.condF rfl ?_
        refine Cx.skip ?_
        refine Xx.bn ?_
        refine Xx.tn (k6 _ _ _ _ ?_)
        refine Cx.region ?_
        refine Lx.y (mv rfl) rfl ?_
        refine Lx.y (Yx.val (add rfl rfl (by first | exact wrap64 (by omega) (by omega) | rfl)) (show _ = i64 ((j + 1 : Nat) : Int) from rfl)) rfl ?_
        refine Lx.y (asg rfl) rfl ?_
        refine Lx.nil ?_
        exact Xx.againKD (Ds) rfl ⟨j + 1, _, _, _, ⟨by omega, by omega, hx4, hJc, hle⟩, rfl, rfl, rfl, rfl⟩ (by omega) (Sub.cons (s := 4) rfl (Sub.cons (s := 0) rfl (Sub.cons (s := 1) rfl (Sub.cons (s := 2) rfl (Sub.cons (s := 3) rfl (Sub.cons (s := 8) rfl (Sub.cons (s := 9) rfl (Sub.cons (s := 10) rfl (Sub.cons (s := 11) rfl (Sub.cons (s := 12) rfl (Sub.cons (s := 13) rfl (Sub.cons (s := 14) rfl (Sub.cons (s := 15) rfl (Sub.cons (s := 16) rfl (Sub.nil _)))))))))))))))
  · skip
    have hjn2 := h5
    refine Cx.exit ?_
    refine Xx.te ?_
    refine Xx.te ?_
    refine Xx.bh ?_
    refine Xx.dropB b3 ?_
    exact Xx.eM Ds rfl (fun a w f _ => results_none rfl _ _ _) ⟨_, rfl, .inl (by rw [hxs0, rest_end hvl hcl (by omega)]; show J (qs ++ []) _ _; rw [List.append_nil]; exact hJq)⟩ hB2 (by ac_rfl)
end BtR
end Go.Proofs.YtdidpocakipinaaGreatDoor

/-
  A key goes out of a node, and out of a tree.
-/
namespace Go.Proofs.YtdidpocakipinaaGreatDoor
open Go.SL Go.RowKit
set_option linter.unusedVariables false
set_option linter.unusedSimpArgs false
set_option maxRecDepth 100000
open Ke1 Ke3 Ke4 Ke5 Ke6 Ke7 Ke8 Ke9 KeA KeB KeC KeD KeE KeF KeG KeI RgA BtB BtC BtD BtE BtG BtX BtH BtI BtF BtJ BtM BtN BtO BtR BtY BtZ DrA DrB DrC DrD
namespace DrE
theorem sz9 : (Tryz.prog.info? 9).map (·.size) = some 1 := by kernel_rfl
theorem sz23 : (Tryz.prog.info? 23).map (·.size) = some 1 := by kernel_rfl
theorem sz110 : (Tryz.prog.info? 110).map (·.size) = some 1 := by kernel_rfl
theorem fo113_0 : FO Tryz.prog 113 0 0 1 false := FO.of Tryz.underlying113 rfl rfl (by kernel_rfl) Tryz.underlying23 rfl rfl
theorem fo113_1 : FO Tryz.prog 113 1 1 1 false := FO.of Tryz.underlying113 rfl rfl (by kernel_rfl) Tryz.underlying23 rfl rfl
theorem fo113_2 : FO Tryz.prog 113 2 2 1 false := FO.of Tryz.underlying113 rfl rfl (by kernel_rfl) Tryz.underlying111 rfl rfl

def DropQ (N d : Nat) (c : C) (k : Str8) (B : Frag) (r : Value) (B' : Frag) (H' : HP) : Prop := B' = B ∧ ∃ c' t, r = .bool t ∧ H' = tr (d + 1) c' ∧ DropR N d c k c' t ∧ (t = false → c' = c)
abbrev DropC (N d : Nat) (c : C) (k : Str8) (B : Frag) : Prop := Ct Tryz.prog 67 [.pointer (some ⟨c.b, 0, none⟩), str k] B (tr (d + 1) c) (DropQ N d c k B)

set_option maxHeartbeats 4000000 in
theorem drop_step (N d : Nat) (hN : N ≤ 90) (c : C) (k : Str8) (B : Frag) (hok : Ok N (d + 1) c) (hmn : Mn (d + 1) c) (ho : Ord (io (d + 1) c)) (hsk : Srt c.ks) (hp : c.cs ≠ [] → 1 ≤ c.ks.length) (ih : ∀ (h : lb c.ks k < c.cs.length), ∃ d2, d = d2 + 1 ∧ DropC 7 d2 c.cs[lb c.ks k] k B) (il : ∀ (h : lb c.ks k < c.cs.length), ∃ d2, d = d2 + 1 ∧ LastC 7 d2 c.cs[lb c.ks k] B) : DropC N d c k B := by
  have hlbn : lb c.ks k ≤ c.ks.length := lb_le _ _
  have hvl := hok.1
  have hcl := hok.2.2.1
  have h7 := hok.2.1
  obtain ⟨b, Ak, ck, Av, cv, Ac, cc, ks, vs, cs⟩ := c
  unfold DropC
  simp only [C.b, C.ks, C.vs, C.cs] at h7 hlbn hvl hcl hsk hp ih il ⊢
  refine Ct.of_body Tryz.func67 rfl (nt := 93) rfl (by kernel_rfl) rfl ?_
  intro N0 w0 R
  rw [tr_succ]
  simp only [star_assoc, nrow, kbuf, vbuf, cbuf, ncells, C.b, C.Ak, C.ck, C.Av, C.cv, C.Ac, C.cc, C.ks, C.vs, C.cs]
  refine Cx.seq (fun K1 k1 => ?_)
  refine Cx.region ?_
  refine Lx.y (asg rfl) rfl ?_
  refine Lx.nil ?_
  refine Xx.tn (k1 _ _ _ _ ?_)
  refine Cx.seq (fun K2 k2 => ?_)
  refine Cx.region ?_
  refine Lx.y (mv rfl) rfl ?_
  refine Lx.y (nilc rfl) rfl ?_
  refine Lx.y (fa' fo113_0 rfl) rfl ?_
  refine Lx.y (ld Tryz.underlying23 rfl rfl rfl) rfl ?_
  refine Lx.y (mv rfl) rfl ?_
  refine Lx.co rfl rfl rfl (BSo_ct ks k Ak ck ks.length _ rfl hsk (by omega)) (pickS _) rfl ?_
  refine Lx.y (mv rfl) rfl ?_
  refine Lx.y (ext rfl rfl) rfl ?_
  refine Lx.y (ext rfl rfl) rfl ?_
  refine Lx.y (asg rfl) rfl ?_
  refine Lx.y (asg rfl) rfl ?_
  refine Lx.nil ?_
  refine Xx.tn (k2 _ _ _ _ ?_)
  refine Cx.seq (fun K3 k3 => ?_)
  refine Cx.block ?_
  refine Cx.seq (fun K4 k4 => ?_)
  refine Cx.region ?_
  refine Lx.y (mv rfl) rfl ?_
  refine Lx.y (nilc rfl) rfl ?_
  refine Lx.y (fa' fo113_2 rfl) rfl ?_
  refine Lx.y (ld Tryz.underlying111 rfl rfl rfl) rfl ?_
  refine Lx.y (lenV (ty' := 0) Tryz.underlying111 rfl) rfl ?_
  refine Lx.y (eqI rfl rfl) rfl ?_
  refine Lx.y (mv rfl) rfl ?_
  refine Xx.ifD (t := 32) rfl (fun h5 => ?_) (fun h5 => ?_)
  · skip
    have hz := h5
    have hc0 : cs = [] := List.length_eq_zero_iff.1 (by omega)
    subst hc0
    refine Lx.gT rfl rfl rfl ?_
    refine Lx.y (mv rfl) rfl ?_
    refine Lx.y (pickT rfl rfl) rfl ?_
    refine Lx.y (asg rfl) rfl ?_
    refine Lx.nil ?_
    refine Xx.tn (k4 _ _ _ _ ?_)
    refine Cx.condB rfl (fun h6 => ?_) (fun h6 => ?_)
    · skip
      have hin : k ∈ ks := of_decide_eq_true h6
      obtain ⟨hlt, hat⟩ := lb_mem hsk hin
      refine Cx.seq (fun K7 k7 => ?_)
      refine Cx.drawn (by kernel_rfl) ?_
      refine Dx.p (i := 0) rfl (by kernel_rfl) (mv rfl) rfl ?_
      refine Dx.p (i := 1) rfl (by kernel_rfl) (mv rfl) rfl ?_
      refine Dx.p (i := 2) rfl (by kernel_rfl) (mv rfl) rfl ?_
      refine Dx.p (i := 3) rfl (by kernel_rfl) (nilc rfl) rfl ?_
      refine Dx.p (i := 4) rfl (by kernel_rfl) (fa' fo113_0 rfl) rfl ?_
      refine Dx.r (i := 5) rfl (by kernel_rfl) (ld Tryz.underlying23 rfl rfl rfl) rfl ?_
      refine Dx.p (i := 6) rfl (by kernel_rfl) (mv rfl) rfl ?_
      refine Dx.p (i := 7) rfl (by kernel_rfl) (mv rfl) rfl ?_
      refine Dx.p (i := 8) rfl (by kernel_rfl) (Yx.val (add rfl rfl (by first | exact wrap64 (by omega) (by omega) | rfl)) (show _ = i64 ((lb ks k + 1 : Nat) : Int) from rfl)) rfl ?_
      refine Dx.p (i := 10) rfl (by kernel_rfl) (mv rfl) rfl ?_
      refine Dx.p (i := 11) rfl (by kernel_rfl) (nilc rfl) rfl ?_
      refine Dx.p (i := 12) rfl (by kernel_rfl) (fa' fo113_1 rfl) rfl ?_
      refine Dx.r (i := 13) rfl (by kernel_rfl) (ld Tryz.underlying23 rfl rfl rfl) rfl ?_
      refine Dx.p (i := 14) rfl (by kernel_rfl) (mv rfl) rfl ?_
      refine Dx.p (i := 15) rfl (by kernel_rfl) (mv rfl) rfl ?_
      refine Dx.p (i := 16) rfl (by kernel_rfl) (Yx.val (add rfl rfl (by first | exact wrap64 (by omega) (by omega) | rfl)) (show _ = i64 ((lb ks k + 1 : Nat) : Int) from rfl)) rfl ?_
      refine Dx.one (i := 9) (by kernel_rfl) ?_
      refine Dstep.o (i := 9) rfl (Ox.call rfl rfl rfl (Del_ct Ak (lb ks k) (ks.length) ck (ks.map str) _ (by omega) (by simp) (strs_all _) (by omega)) (pickS _)) rfl (fun v B' H' hΦ hB => ?_)
      obtain ⟨_, rfl, hΦ⟩ := hΦ
      obtain ⟨rfl, hBB, rfl⟩ := hΦ
      subst hBB
      rename Frag => B
      clear hB
      refine ⟨JOk.yes (JOk.edge (JOk.top) (by kernel_rfl)) (ld Tryz.underlying23 rfl rfl rfl), ?_⟩
      refine Dx.one (i := 17) (by kernel_rfl) ?_
      refine Dstep.o (i := 17) rfl (Ox.call rfl rfl rfl (Del_ct Av (lb ks k) (vs.length) cv (vs.map str) _ (by omega) (by simp) (strs_all _) (by omega)) (pickS _)) rfl (fun v B' H' hΦ hB => ?_)
      obtain ⟨_, rfl, hΦ⟩ := hΦ
      obtain ⟨rfl, hBB, rfl⟩ := hΦ
      subst hBB
      rename Frag => B
      clear hB
      refine ⟨JOk.edge (JOk.yes (JOk.top) (ld Tryz.underlying23 rfl rfl rfl)) (by kernel_rfl), ?_⟩
      refine Dx.p (i := 18) rfl (by kernel_rfl) (nilc rfl) rfl ?_
      refine Dx.p (i := 19) rfl (by kernel_rfl) (fa' fo113_0 rfl) rfl ?_
      refine Dx.one (i := 20) (by kernel_rfl) ?_
      refine Dstep.o0 (i := 20) rfl (stO Tryz.underlying23 sz23 rfl rfl rfl (by simp) rfl) (fun v B' H' hΦ hB => ?_)
      obtain ⟨rfl, rfl⟩ := hΦ; clear hB v
      refine ⟨JOk.edge (JOk.edge (JOk.top) (by kernel_rfl)) (by kernel_rfl), ?_⟩
      refine Dx.p (i := 21) rfl (by kernel_rfl) (nilc rfl) rfl ?_
      refine Dx.p (i := 22) rfl (by kernel_rfl) (fa' fo113_1 rfl) rfl ?_
      refine Dx.one (i := 23) (by kernel_rfl) ?_
      refine Dstep.o0 (i := 23) rfl (stO Tryz.underlying23 sz23 rfl rfl rfl (by simp) rfl) (fun v B' H' hΦ hB => ?_)
      obtain ⟨rfl, rfl⟩ := hΦ; clear hB v
      refine ⟨JOk.edge (JOk.edge (JOk.top) (by kernel_rfl)) (by kernel_rfl), ?_⟩
      refine Dx.done (by kernel_rfl) ?_
      refine Xx.tn (k7 _ _ _ _ ?_)
      refine Cx.seq (fun K8 k8 => ?_)
      refine Cx.region ?_
      refine Lx.y (asg rfl) rfl ?_
      refine Lx.nil ?_
      refine Xx.tn (k8 _ _ _ _ ?_)
      refine Cx.ret ?_
      refine Xx.br ?_
      refine Xx.tr ?_
      exact Xx.ret1 rfl rfl ⟨rfl, .mk b Ak ck Av cv Ac cc (ks.take (lb ks k) ++ ks.drop (lb ks k + 1)) (vs.take (lb ks k) ++ vs.drop (lb ks k + 1)) [], true, rfl, rfl, leaf_drop hok hmn ho rfl hin rfl rfl rfl rfl, fun h9 => by cases h9⟩ (Frag.le_refl _) (by rw [← fold_tr, show (ks.take (lb ks k) ++ ks.drop (lb ks k + 1)).length = ks.length - 1 by simp; omega, show (vs.take (lb ks k) ++ vs.drop (lb ks k + 1)).length = vs.length - 1 by simp; omega]; simp only [List.map_append, List.map_take, List.map_drop]; ac_rfl)
    · skip
      have hin : k ∉ ks := of_decide_eq_false h6
      refine Cx.seq (fun K9 k9 => ?_)
      refine Cx.region ?_
      refine Lx.y (mv rfl) rfl ?_
      refine Lx.y (nilc rfl) rfl ?_
      refine Lx.y (fa' fo113_2 rfl) rfl ?_
      refine Lx.y (ld Tryz.underlying111 rfl rfl rfl) rfl ?_
      refine Lx.y (lenV (ty' := 0) Tryz.underlying111 rfl) rfl ?_
      refine Lx.y (eqI rfl rfl) rfl ?_
      refine Lx.y (asg rfl) rfl ?_
      refine Lx.nil ?_
      refine Xx.tn (k9 _ _ _ _ ?_)
      refine Cx.condD rfl (fun h10 => ?_) (fun h10 => ?_)
      · skip
        skip
        refine Cx.seq (fun K11 k11 => ?_)
        refine Cx.region ?_
        refine Lx.y (asg rfl) rfl ?_
        refine Lx.nil ?_
        refine Xx.tn (k11 _ _ _ _ ?_)
        refine Cx.ret ?_
        refine Xx.br ?_
        refine Xx.tr ?_
        exact Xx.ret1 rfl rfl ⟨rfl, .mk b Ak ck Av cv Ac cc ks vs [], false, rfl, rfl, leaf_keep hok hmn rfl hin, fun _ => rfl⟩ (Frag.le_refl _) (by rw [← fold_tr])
      · skip
        exact absurd rfl h10
  · skip
    have hz := h5
    have hcl2 : cs.length = ks.length + 1 := by rcases hcl with h | h; rw [h] at hz; simp at hz; exact h
    have hci : lb ks k < cs.length := by omega
    refine Xx.addrT Ac (by omega) (fun bC hAc _ _ => ?_)
    subst hAc
    have hk1 : 1 ≤ ks.length := hp (fun e => by rw [e] at hci; simp at hci)
    refine Lx.gF rfl rfl rfl rfl ?_
    refine Lx.y (pickF rfl rfl) rfl ?_
    refine Lx.y (asg rfl) rfl ?_
    refine Lx.nil ?_
    refine Xx.tn (k4 _ _ _ _ ?_)
    refine Cx.condF rfl ?_
    refine Cx.seq (fun K12 k12 => ?_)
    refine Cx.region ?_
    refine Lx.y (mv rfl) rfl ?_
    refine Lx.y (nilc rfl) rfl ?_
    refine Lx.y (fa' fo113_2 rfl) rfl ?_
    refine Lx.y (ld Tryz.underlying111 rfl rfl rfl) rfl ?_
    refine Lx.y (lenV (ty' := 0) Tryz.underlying111 rfl) rfl ?_
    refine Lx.y (eqI rfl rfl) rfl ?_
    refine Lx.y (asg rfl) rfl ?_
    refine Lx.nil ?_
    refine Xx.tn (k12 _ _ _ _ ?_)
    refine Cx.condD rfl (fun h13 => ?_) (fun h13 => ?_)
    · skip
      exact absurd h13 (by omega)
    · skip
      skip
      refine Cx.seq (fun K14 k14 => ?_)
      refine Cx.region ?_
      refine Lx.y (mv rfl) rfl ?_
      refine Lx.y (asg rfl) rfl ?_
      refine Lx.nil ?_
      refine Xx.tn (k14 _ _ _ _ ?_)
      refine Cx.condB rfl (fun h15 => ?_) (fun h15 => ?_)
      · skip
        have hin : k ∈ ks := of_decide_eq_true h15
        obtain ⟨hlt, hat⟩ := lb_mem hsk hin
        obtain ⟨d2, hd2, hlast⟩ := il hci
        subst hd2
        refine Xx.openT Ak (by omega) (fun bK spK hAk hkx hkc hkcl => ?_)
        subst hAk
        refine Xx.openT Av (by omega) (fun bV spV hAv hvx hvc hvcl => ?_)
        subst hAv
        refine Cx.drawn (by kernel_rfl) ?_
        refine Dx.p (i := 0) rfl (by kernel_rfl) (mv rfl) rfl ?_
        refine Dx.p (i := 1) rfl (by kernel_rfl) (nilc rfl) rfl ?_
        refine Dx.p (i := 2) rfl (by kernel_rfl) (fa' fo113_0 rfl) rfl ?_
        refine Dx.r (i := 3) rfl (by kernel_rfl) (ld Tryz.underlying23 rfl rfl rfl) rfl ?_
        refine Dx.p (i := 4) rfl (by kernel_rfl) (mv rfl) rfl ?_
        refine Dx.p (i := 5) rfl (by kernel_rfl) (mv rfl) rfl ?_
        refine Dx.p (i := 6) rfl (by kernel_rfl) (nilc rfl) rfl ?_
        refine Dx.p (i := 7) rfl (by kernel_rfl) (fa' fo113_1 rfl) rfl ?_
        refine Dx.r (i := 8) rfl (by kernel_rfl) (ld Tryz.underlying23 rfl rfl rfl) rfl ?_
        refine Dx.p (i := 9) rfl (by kernel_rfl) (mv rfl) rfl ?_
        refine Dx.p (i := 10) rfl (by kernel_rfl) (mv rfl) rfl ?_
        refine Dx.p (i := 11) rfl (by kernel_rfl) (nilc rfl) rfl ?_
        refine Dx.p (i := 12) rfl (by kernel_rfl) (fa' fo113_2 rfl) rfl ?_
        refine Dx.r (i := 13) rfl (by kernel_rfl) (ld Tryz.underlying111 rfl rfl rfl) rfl ?_
        refine Dx.p (i := 14) rfl (by kernel_rfl) (mv rfl) rfl ?_
        refine Dx.p (i := 15) rfl (by kernel_rfl) (ia Tryz.underlying111 sz110 rfl rfl (by first | exact Int.toNat_natCast _ | rfl) (by omega) (by omega)) rfl ?_
        refine Dx.r (i := 16) rfl (by kernel_rfl) (ldC Tryz.underlying110 rfl rfl (Cells.buf (m := 1) (kid_at hci) (by rw [List.length_map]; omega))) rfl ?_
        refine Dx.one (i := 17) (by kernel_rfl) ?_
        refine Dstep.o (i := 17) rfl (Ox.call rfl rfl rfl (hlast) (fold_kid hci)) rfl (fun v B' H' hΦ hB => ?_)
        obtain ⟨_, rfl, hΦ⟩ := hΦ
        obtain ⟨hBB, kid2, lk9, lv9, rfl, rfl, hkr⟩ := hΦ
        subst hBB
        rename Frag => B
        clear hB
        refine ⟨JOk.edge (JOk.yes (JOk.yes (JOk.yes (JOk.top) (ld Tryz.underlying23 rfl rfl rfl)) (ld Tryz.underlying23 rfl rfl rfl)) (ld Tryz.underlying111 rfl rfl rfl)) (by kernel_rfl), ?_⟩
        refine Dx.p (i := 18) rfl (by kernel_rfl) (mv rfl) rfl ?_
        refine Dx.p (i := 19) rfl (by kernel_rfl) (ext rfl rfl) rfl ?_
        refine Dx.p (i := 20) rfl (by kernel_rfl) (ext rfl rfl) rfl ?_
        refine Dx.p (i := 21) rfl (by kernel_rfl) (ia Tryz.underlying23 sz9 rfl rfl (Int.toNat_natCast _) (by omega) (by omega)) rfl ?_
        refine Dx.one (i := 22) (by kernel_rfl) ?_
        refine Dstep.o0 (i := 22) rfl (stO Tryz.underlying9 sz9 rfl rfl rfl (by rw [List.length_append, List.length_map]; omega) (frc_gen _ _)) (fun v B' H' hΦ hB => ?_)
        obtain ⟨rfl, rfl⟩ := hΦ; clear hB v
        refine ⟨JOk.edge (JOk.edge (JOk.edge (JOk.edge (JOk.top) (by kernel_rfl)) (by kernel_rfl)) (by kernel_rfl)) (by kernel_rfl), ?_⟩
        refine Dx.p (i := 23) rfl (by kernel_rfl) (ia Tryz.underlying23 sz9 rfl rfl (Int.toNat_natCast _) (by omega) (by omega)) rfl ?_
        refine Dx.one (i := 24) (by kernel_rfl) ?_
        refine Dstep.o0 (i := 24) rfl (stO Tryz.underlying9 sz9 rfl rfl rfl (by rw [List.length_append, List.length_map]; omega) (frc_gen _ _)) (fun v B' H' hΦ hB => ?_)
        obtain ⟨rfl, rfl⟩ := hΦ; clear hB v
        refine ⟨JOk.edge (JOk.edge (JOk.edge (JOk.edge (JOk.top) (by kernel_rfl)) (by kernel_rfl)) (by kernel_rfl)) (by kernel_rfl), ?_⟩
        refine Dx.done (by kernel_rfl) ?_
        refine Xx.bn ?_
        refine Xx.tn (k3 _ _ _ _ ?_)
        refine Cx.seq (fun K16 k16 => ?_)
        refine Xx.closeT bK ((ks.set (lb ks k) lk9).map str) spK 1 ks.length ck (set_str (by omega)) (by simp) hkc (by rw [List.length_append, List.length_map, List.length_set]; rw [List.length_append, List.length_map] at hkcl; exact hkcl) ?_
        refine Xx.closeT bV ((vs.set (lb ks k) lv9).map str) spV 1 vs.length cv (set_str (by omega)) (by simp) hvc (by rw [List.length_append, List.length_map, List.length_set]; rw [List.length_append, List.length_map] at hvcl; exact hvcl) ?_
        obtain ⟨x1, x2, x3, x4⟩ := here_drop (x := (.mk b (some ⟨bK, 0, none⟩) ck (some ⟨bV, 0, none⟩) cv (some ⟨bC, 0, none⟩) cc (ks.set (lb ks k) lk9) (vs.set (lb ks k) lv9) (cs.set (lb ks k) kid2))) hok hmn ho hin hci hkr rfl rfl rfl
        refine Cx.region ?_
        refine Lx.y (mv rfl) rfl ?_
        refine Lx.y (mv rfl) rfl ?_
        refine Lx.c rfl rfl rfl (mend_ct N d2 hN (.mk b (some ⟨bK, 0, none⟩) ck (some ⟨bV, 0, none⟩) cv (some ⟨bC, 0, none⟩) cc (ks.set (lb ks k) lk9) (vs.set (lb ks k) lv9) (cs.set (lb ks k) kid2)) (lb ks k) _ (by show lb ks k < (cs.set _ _).length; rw [List.length_set]; exact hci) x1 x2 (show 1 ≤ (ks.set _ _).length by rw [List.length_set]; exact hk1)) ((show _ = tr (d2 + 2) (.mk b (some ⟨bK, 0, none⟩) ck (some ⟨bV, 0, none⟩) cv (some ⟨bC, 0, none⟩) cc (ks.set (lb ks k) lk9) (vs.set (lb ks k) lv9) (cs.set (lb ks k) kid2)) * R by rw [← fold_tr, trs_set _ hci, pts_set hkr.1, List.length_set, List.length_set, List.length_set]; ac_rfl)) rfl ?_
        rintro v1 B1 H1 ⟨rfl, hBB, c2, rfl, hm, hsm⟩ hB1
        subst hBB
        rename Frag => B
        clear hB1
        refine Lx.nil ?_
        refine Xx.tn (k16 _ _ _ _ ?_)
        refine Cx.seq (fun K17 k17 => ?_)
        refine Cx.region ?_
        refine Lx.y (mv rfl) rfl ?_
        refine Lx.y (asg rfl) rfl ?_
        refine Lx.nil ?_
        refine Xx.tn (k17 _ _ _ _ ?_)
        refine Cx.ret ?_
        exact Xx.ret1 rfl rfl ⟨rfl, c2, decide (k ∈ ks), rfl, rfl, by rw [decide_eq_true hin]; exact DropR.of (x := (.mk b (some ⟨bK, 0, none⟩) ck (some ⟨bV, 0, none⟩) cv (some ⟨bC, 0, none⟩) cc (ks.set (lb ks k) lk9) (vs.set (lb ks k) lv9) (cs.set (lb ks k) kid2))) rfl ⟨x3, x4⟩ (by show (ks.set _ _).length = ks.length; rw [List.length_set]) hm, fun h9 => absurd h9 (by simp [hin])⟩ (Frag.le_refl _) rfl
      · skip
        have hin : k ∉ ks := of_decide_eq_false h15
        obtain ⟨d2, hd2, hdrop⟩ := ih hci
        subst hd2
        refine Cx.region ?_
        refine Lx.y (mv rfl) rfl ?_
        refine Lx.y (nilc rfl) rfl ?_
        refine Lx.y (fa' fo113_2 rfl) rfl ?_
        refine Lx.y (ld Tryz.underlying111 rfl rfl rfl) rfl ?_
        refine Lx.y (mv rfl) rfl ?_
        refine Lx.y (ia Tryz.underlying111 sz110 rfl rfl (by first | exact Int.toNat_natCast _ | rfl) (by omega) (by omega)) rfl ?_
        refine Lx.y (ldC Tryz.underlying110 rfl rfl (Cells.buf (m := 1) (kid_at hci) (by rw [List.length_map]; omega))) rfl ?_
        refine Lx.y (mv rfl) rfl ?_
        refine Lx.c rfl rfl rfl (hdrop) (fold_kid hci) rfl ?_
        rintro r B1 H1 ⟨hBB, kid2, tv, rfl, rfl, hkr, hks⟩ hB1
        subst hBB
        rename Frag => B
        clear hB1
        refine Lx.y (asg rfl) rfl ?_
        refine Lx.nil ?_
        refine Xx.bn ?_
        refine Xx.tn (k3 _ _ _ _ ?_)
        refine Cx.seq (fun K18 k18 => ?_)
        obtain ⟨x1, x2, x3, x4⟩ := kid_drop (x := (.mk b Ak ck Av cv (some ⟨bC, 0, none⟩) cc ks vs (cs.set (lb ks k) kid2))) hok hmn ho hin hci hkr rfl rfl rfl
        refine Cx.region ?_
        refine Lx.y (mv rfl) rfl ?_
        refine Lx.y (mv rfl) rfl ?_
        refine Lx.c rfl rfl rfl (mend_ct N d2 hN (.mk b Ak ck Av cv (some ⟨bC, 0, none⟩) cc ks vs (cs.set (lb ks k) kid2)) (lb ks k) _ (by show lb ks k < (cs.set _ _).length; rw [List.length_set]; exact hci) x1 x2 hk1) ((show _ = tr (d2 + 2) (.mk b Ak ck Av cv (some ⟨bC, 0, none⟩) cc ks vs (cs.set (lb ks k) kid2)) * R by rw [← fold_tr, trs_set _ hci, pts_set hkr.1, List.length_set]; ac_rfl)) rfl ?_
        rintro v1 B1 H1 ⟨rfl, hBB, c2, rfl, hm, hsm⟩ hB1
        subst hBB
        rename Frag => B
        clear hB1
        refine Lx.nil ?_
        refine Xx.tn (k18 _ _ _ _ ?_)
        refine Cx.seq (fun K19 k19 => ?_)
        refine Cx.region ?_
        refine Lx.y (mv rfl) rfl ?_
        refine Lx.y (asg rfl) rfl ?_
        refine Lx.nil ?_
        refine Xx.tn (k19 _ _ _ _ ?_)
        refine Cx.ret ?_
        exact Xx.ret1 rfl rfl ⟨rfl, c2, tv, rfl, rfl, DropR.of (x := (.mk b Ak ck Av cv (some ⟨bC, 0, none⟩) cc ks vs (cs.set (lb ks k) kid2))) rfl ⟨x3, x4⟩ rfl hm, fun h9 => by
          have e9 := hks h9
          have e8 : (C.mk b Ak ck Av cv (some ⟨bC, 0, none⟩) cc ks vs (cs.set (lb ks k) kid2)) = C.mk b Ak ck Av cv (some ⟨bC, 0, none⟩) cc ks vs cs := by rw [e9, List.set_getElem_self]
          rw [hsm (by show 3 ≤ ((cs.set (lb ks k) kid2)[lb ks k]'_).ks.length; rw [List.getElem_set_self, e9]; exact (hmn.2 _ (List.getElem_mem hci)).1)]; exact e8⟩ (Frag.le_refl _) rfl

theorem drop_ct (N : Nat) (hN : N ≤ 90) (k : Str8) (B : Frag) : ∀ (d : Nat) (c : C) (M : Nat), M ≤ N → 7 ≤ N → Ok M (d + 1) c → Mn (d + 1) c → Ord (io (d + 1) c) → (d = 0 ∨ 1 ≤ c.ks.length) → DropC M d c k B := by
  intro d
  induction d with
  | zero =>
    intro c M hM h7 hok hmn ho hp
    have hz : ∀ (h : lb c.ks k < c.cs.length), False := fun h => hok.2.2.2 _ (List.getElem_mem h)
    refine drop_step M 0 (by omega) c k B hok hmn ho (srt_of hok ho) (fun h => ?_) (fun h => (hz h).elim) (fun h => (hz h).elim)
    cases hc : c.cs with
    | nil => exact absurd hc h
    | cons p l => exact (hok.2.2.2 p (by rw [hc]; simp)).elim
  | succ d ih =>
    intro c M hM h7 hok hmn ho hp
    have hp1 : 1 ≤ c.ks.length := by rcases hp with h | h; cases h; exact h
    refine drop_step M (d + 1) (by omega) c k B hok hmn ho (srt_of hok ho) (fun _ => hp1) (fun h => ⟨d, rfl, ?_⟩) (fun h => ⟨d, rfl, ?_⟩)
    · have hk := hok.2.2.2 _ (List.getElem_mem h)
      have hm := hmn.2 _ (List.getElem_mem h)
      have hcl : c.cs.length = c.ks.length + 1 := by rcases hok.2.2.1 with z | z; rw [z] at h; simp at h; exact z
      exact ih _ 7 h7 h7 (Ok.of1 hk) hm.2 (kid_ord hok ho hcl h) (.inr (by omega))
    · have hk := hok.2.2.2 _ (List.getElem_mem h)
      have hm := hmn.2 _ (List.getElem_mem h)
      exact last_ct N hN B d _ 7 h7 h7 (Ok.of1 hk) hm.2 (by omega)
end DrE
end Go.Proofs.YtdidpocakipinaaGreatDoor

/-
  A key goes out of a tree.
-/
namespace Go.Proofs.YtdidpocakipinaaGreatDoor
open Go.SL Go.RowKit
set_option linter.unusedVariables false
set_option linter.unusedSimpArgs false
set_option maxRecDepth 100000
open Ke1 Ke3 Ke4 Ke5 Ke6 Ke7 Ke8 Ke9 KeA KeB KeC KeD KeE KeF KeG KeI RgA BtB BtC BtD BtE BtG BtX BtH BtI BtF BtJ BtK BtL BtM BtN BtO BtR BtY BtZ DrA DrB DrC DrD DrE
namespace DrF
theorem sz3 : (Tryz.prog.info? 3).map (·.size) = some 1 := by kernel_rfl
theorem sz110 : (Tryz.prog.info? 110).map (·.size) = some 1 := by kernel_rfl
theorem fo113_0 : FO Tryz.prog 113 0 0 1 false := FO.of Tryz.underlying113 rfl rfl (by kernel_rfl) Tryz.underlying23 rfl rfl
theorem fo113_2 : FO Tryz.prog 113 2 2 1 false := FO.of Tryz.underlying113 rfl rfl (by kernel_rfl) Tryz.underlying111 rfl rfl
theorem fo115_0 : FO Tryz.prog 115 0 0 1 false := FO.of Tryz.underlying115 rfl rfl (by kernel_rfl) Tryz.underlying110 rfl rfl
theorem fo115_1 : FO Tryz.prog 115 1 1 1 false := FO.of Tryz.underlying115 rfl rfl (by kernel_rfl) Tryz.underlying3 rfl rfl

theorem delP_len {k : Str8} {l : List (Str8 × Str8)} (ho : Ord l) : (delP k l).length = if k ∈ l.map (·.1) then l.length - 1 else l.length := by
  induction l with
  | nil => simp [delP]
  | cons p l ih =>
    obtain ⟨h1, h2⟩ := List.pairwise_cons.1 ho
    unfold delP
    by_cases he : p.1 = k
    · have hn : ∀ q ∈ l, q.1 ≠ k := fun q hq e => by have := h1 q hq; rw [he, e, bless_irrefl] at this; cases this
      rw [List.filter_cons_of_neg (by simp [he]), show List.filter (fun p => decide (p.1 ≠ k)) l = l from delP_same hn, if_pos (by simp [he])]; rfl
    · rw [List.filter_cons_of_pos (by simp [he])]
      have h3 : k ∈ (p :: l).map (·.1) ↔ k ∈ l.map (·.1) := by
        rw [List.map_cons, List.mem_cons]
        exact ⟨fun h => h.resolve_left (fun e => he e.symm), .inr⟩
      have h4 := ih h2
      unfold delP at h4
      rw [List.length_cons, h4]
      by_cases hk : k ∈ l.map (·.1)
      · rw [if_pos hk, if_pos (h3.2 hk)]
        have : l ≠ [] := fun e => by rw [e] at hk; cases hk
        have := List.length_pos_iff.2 this
        simp; omega
      · rw [if_neg hk, if_neg (fun h => hk (h3.1 h))]; rfl
theorem root_cells {N0 d tb : Nat} {B : Frag} {R : HP} {vs : List Value} {c : C} : Cells N0 B (row tb 115 vs * (tr (d + 1) c * R)) c.b (0 + 2) [.slice c.Ac c.cs.length c.cc] := by
  refine under ?_
  rw [tr_succ, star_assoc]
  exact Cells.own (n := 1) rfl rfl
theorem kid0_cells {N0 d tb bC : Nat} {B : Frag} {R : HP} {vs : List Value} {c : C} (hA : c.Ac = some ⟨bC, 0, none⟩) (h : 0 < c.cs.length) : Cells N0 B (row tb 115 vs * (tr (d + 1) c * R)) bC (0 + 0 * 1) [pt c.cs[0]] := by
  refine under ?_
  rw [tr_succ, star_assoc]
  refine under ?_
  simp only [star_assoc]
  refine under (under ?_)
  show Cells N0 B (sbuf 110 1 c.Ac c.cs.length c.cc (c.cs.map pt) * _) bC (0 + 0 * 1) [pt c.cs[0]]
  rw [hA]
  exact Cells.buf (m := 1) (kid_at h) (by rw [List.length_map]; omega)
/-- where the root's kids lie -/
theorem kids_at {e : Env} {ds : List Deferred} {K : Act → World → Prop} {ρ : Sl} {B : Frag} {R : HP} {d tb : Nat} {vs : List Value} {c : C} (h0 : 0 < c.cs.length) (h : ∀ bC, c.Ac = some ⟨bC, 0, none⟩ → Xx e ds K ρ B (row tb 115 vs * (tr (d + 1) c * R))) : Xx e ds K ρ B (row tb 115 vs * (tr (d + 1) c * R)) := by
  refine Xx.perm (H' := cbuf c * (row tb 115 vs * (nrow c * (kbuf c * (vbuf c * (trs (tr d) c.cs * R)))))) ?_ (by rw [tr_succ]; ac_rfl)
  refine Xx.addrT c.Ac (by simpa using h0) (fun bC hA _ _ => ?_)
  exact Xx.perm (h bC hA) (by rw [tr_succ]; ac_rfl)
theorem root_one {f : C → List (Str8 × Str8)} {ks vs : List Str8} {cs : List C} (h1 : ks.length = 0) (h2 : vs.length = 0) (h3 : cs.length = 1) : ioL f ks vs cs = f (cs[0]'(by omega)) := by
  obtain rfl := List.length_eq_zero_iff.1 h1
  obtain rfl := List.length_eq_zero_iff.1 h2
  obtain ⟨c, rfl⟩ := List.length_eq_one_iff.1 h3
  rfl
theorem trs_one (f : C → HP) {cs : List C} (h3 : cs.length = 1) : trs f cs = f (cs[0]'(by omega)) := by
  obtain ⟨c, rfl⟩ := List.length_eq_one_iff.1 h3
  show f c * 1 = f c
  exact star_one _
/-- how a tree must be, for keys to go -/
def Tr90 (d : Nat) (c : C) : Prop := Ok 90 (d + 1) c ∧ Mn (d + 1) c ∧ Ord (io (d + 1) c) ∧ (d = 0 ∨ 1 ≤ c.ks.length)
def DropT (d : Nat) (c : C) (tb : Nat) (k : Str8) (B : Frag) (r : Value) (B' : Frag) (H' : HP) : Prop := B' = B ∧ ∃ d' c', r = .bool (decide (k ∈ (io (d + 1) c).map (·.1))) ∧ H' = tree tb d' c' ∧ Tr90 d' c' ∧ io (d' + 1) c' = delP k (io (d + 1) c)

set_option maxHeartbeats 4000000 in
theorem Drop_ct (d : Nat) (c : C) (tb : Nat) (k : Str8) (B : Frag) (ht : Tr90 d c) (hlen : (io (d + 1) c).length ≤ 80) : Ct Tryz.prog 41 [.pointer (some ⟨tb, 0, none⟩), str k] B (tree tb d c) (DropT d c tb k B) := by
  obtain ⟨hok, hmn, ho, hp⟩ := ht
  have hdl := delP_len (k := k) ho
  refine Ct.of_body Tryz.func41 rfl (nt := 55) rfl (by kernel_rfl) rfl ?_
  intro N0 w0 R
  rw [star_assoc]
  refine Cx.seq (fun K1 k1 => ?_)
  refine Cx.region ?_
  refine Lx.y (asg rfl) rfl ?_
  refine Lx.nil ?_
  refine Xx.tn (k1 _ _ _ _ ?_)
  refine Cx.seq (fun K2 k2 => ?_)
  refine Cx.seq (fun K3 k3 => ?_)
  refine Cx.region ?_
  refine Lx.y (mv rfl) rfl ?_
  refine Lx.y (Yx.ff (eqNilP Tryz.underlying83 rfl rfl) rfl) rfl ?_
  refine Lx.y (mv rfl) rfl ?_
  refine Lx.gT rfl rfl rfl ?_
  refine Lx.y (mv rfl) rfl ?_
  refine Lx.gT rfl rfl rfl ?_
  refine Lx.y (nilc rfl) rfl ?_
  refine Lx.gT rfl rfl rfl ?_
  refine Lx.y (fa' fo115_0 rfl) rfl ?_
  refine Lx.gT rfl rfl rfl ?_
  refine Lx.y (ld Tryz.underlying110 rfl rfl rfl) rfl ?_
  refine Lx.gT rfl rfl rfl ?_
  refine Lx.y (mv rfl) rfl ?_
  refine Lx.gT rfl rfl rfl ?_
  refine Lx.c rfl rfl rfl (drop_ct 90 (by decide) k _ d c 90 (by decide) (by decide) hok hmn ho hp) (star_left _ _ _) rfl ?_
  rintro r B1 H1 ⟨hBB, c2, tv, rfl, rfl, ⟨q1, q2, q3, q4, q5, q6, q7⟩, q8⟩ hB1
  subst hBB
  rename Frag => B
  clear hB1
  have hpt : pt c = pt c2 := by unfold pt; rw [q1]
  refine Lx.gT rfl rfl rfl ?_
  refine Lx.y (not' rfl) rfl ?_
  refine Lx.y (pickF rfl rfl) rfl ?_
  refine Lx.nil ?_
  refine Xx.tn (k3 _ _ _ _ ?_)
  refine Cx.condB rfl (fun h4 => ?_) (fun h4 => ?_)
  · skip
    have htv : tv = false := by simpa using h4
    have e8 := q8 htv
    refine Cx.seq (fun K5 k5 => ?_)
    refine Cx.region ?_
    refine Lx.y (asg rfl) rfl ?_
    refine Lx.nil ?_
    refine Xx.tn (k5 _ _ _ _ ?_)
    refine Cx.ret ?_
    refine Xx.tr ?_
    exact Xx.ret1 rfl rfl ⟨rfl, d, c, by rw [← q5, htv], rfl, ⟨hok, hmn, ho, hp⟩, by rw [e8] at q4; exact q4⟩ (Frag.le_refl _) (by rw [e8]; unfold tree; ac_rfl)
  · skip
    have htv : tv = true := by simpa using h4
    have hin : k ∈ (io (d + 1) c).map (·.1) := of_decide_eq_true (q5.symm.trans htv)
    rw [if_pos hin] at hdl
    have hpos : 0 < (io (d + 1) c).length := by have := List.length_pos_of_mem hin; rw [List.length_map] at this; exact this
    rw [star_left]
    refine Cx.skip ?_
    refine Xx.tn (k2 _ _ _ _ ?_)
    refine Cx.seq (fun K6 k6 => ?_)
    refine Cx.region ?_
    refine Lx.y (mv rfl) rfl ?_
    refine Lx.y (nilc rfl) rfl ?_
    refine Lx.y (fa' fo115_1 rfl) rfl ?_
    refine Lx.y (ld Tryz.underlying3 rfl rfl rfl) rfl ?_
    refine Lx.y (Yx.val (sub rfl rfl (show IntKind.i64.wrap _ = (((io (d + 1) c).length - 1 : Nat) : Int) by rw [wrap64 (by omega) (by omega)]; omega)) (show _ = i64 (((io (d + 1) c).length - 1 : Nat) : Int) from rfl)) rfl ?_
    refine Lx.y (nilc rfl) rfl ?_
    refine Lx.y (fa' fo115_1 rfl) rfl ?_
    refine Lx.st (stO Tryz.underlying3 sz3 rfl rfl rfl (by simp) rfl) ?_
    refine Lx.nil ?_
    refine Xx.tn (k6 _ _ _ _ ?_)
    refine Cx.seq (fun K7 k7 => ?_)
    refine Cx.seq (fun K8 k8 => ?_)
    rw [hpt]
    have hl2 : (io (d + 1) c2).length = (io (d + 1) c).length - 1 := by rw [q4]; exact hdl
    have ho2 : Ord (io (d + 1) c2) := by rw [q4]; exact delP_ord ho
    refine Cx.region ?_
    refine Lx.y (mv rfl) rfl ?_
    refine Lx.y (nilc rfl) rfl ?_
    refine Lx.y (fa' fo115_0 rfl) rfl ?_
    refine Lx.y (ld Tryz.underlying110 rfl rfl rfl) rfl ?_
    refine Lx.y (nilc rfl) rfl ?_
    refine Lx.y (fa' fo113_0 rfl) rfl ?_
    refine Lx.y (ldC Tryz.underlying23 rfl rfl root_keys) rfl ?_
    refine Lx.y (lenV (ty' := 0) Tryz.underlying23 rfl) rfl ?_
    refine Lx.y (eqI rfl rfl) rfl ?_
    refine Lx.y (mv rfl) rfl ?_
    refine Xx.ifD (t := 32) rfl (fun h9 => ?_) (fun h9 => ?_)
    · skip
      have h0k := h9
      have h0k : c2.ks.length = 0 := by omega
      refine Lx.gT rfl rfl rfl ?_
      refine Lx.y (mv rfl) rfl ?_
      refine Lx.gT rfl rfl rfl ?_
      refine Lx.y (nilc rfl) rfl ?_
      refine Lx.gT rfl rfl rfl ?_
      refine Lx.y (fa' fo115_0 rfl) rfl ?_
      refine Lx.gT rfl rfl rfl ?_
      refine Lx.y (ld Tryz.underlying110 rfl rfl rfl) rfl ?_
      refine Lx.gT rfl rfl rfl ?_
      refine Lx.y (nilc rfl) rfl ?_
      refine Lx.gT rfl rfl rfl ?_
      refine Lx.y (fa' fo113_2 rfl) rfl ?_
      refine Lx.gT rfl rfl rfl ?_
      refine Lx.y (ldC Tryz.underlying111 rfl rfl root_cells) rfl ?_
      refine Lx.gT rfl rfl rfl ?_
      refine Lx.y (lenV (ty' := 0) Tryz.underlying111 rfl) rfl ?_
      refine Lx.gT rfl rfl rfl ?_
      refine Lx.y (gtr rfl rfl) rfl ?_
      refine Lx.y (pickT rfl rfl) rfl ?_
      refine Lx.nil ?_
      refine Xx.tn (k8 _ _ _ _ ?_)
      refine Cx.condD rfl (fun h10 => ?_) (fun h10 => ?_)
      · skip
        have hck := h10
        have hck : 0 < c2.cs.length := by omega
        refine kids_at hck (fun bC hAc => ?_)
        obtain ⟨d2, hd2⟩ : ∃ d2, d = d2 + 1 := ⟨d - 1, by have := q3.1.2; cases d with | zero => rw [q3.1.2 rfl] at hck; simp at hck | succ d => rfl⟩
        subst hd2
        refine Cx.region ?_
        refine Lx.y (mv rfl) rfl ?_
        refine Lx.y (mv rfl) rfl ?_
        refine Lx.y (nilc rfl) rfl ?_
        refine Lx.y (fa' fo115_0 rfl) rfl ?_
        refine Lx.y (ld Tryz.underlying110 rfl rfl rfl) rfl ?_
        refine Lx.y (nilc rfl) rfl ?_
        refine Lx.y (fa' fo113_2 rfl) rfl ?_
        refine Lx.y (Yx.val (ldC Tryz.underlying111 rfl rfl root_cells) (show _ = Value.slice (some ⟨bC, 0, none⟩) c2.cs.length c2.cc by rw [hAc])) rfl ?_
        refine Lx.y (ia Tryz.underlying111 sz110 rfl rfl (show Int.toNat _ = 0 from rfl) (by omega) (by omega)) rfl ?_
        refine Lx.y (ldC Tryz.underlying110 rfl rfl (kid0_cells hAc hck)) rfl ?_
        refine Lx.y (nilc rfl) rfl ?_
        refine Lx.y (fa' fo115_0 rfl) rfl ?_
        refine Lx.st (stO Tryz.underlying110 sz110 rfl rfl rfl (by simp) rfl) ?_
        refine Lx.nil ?_
        refine Xx.tn (k7 _ _ _ _ ?_)
        refine Cx.seq (fun K11 k11 => ?_)
        refine Cx.region ?_
        refine Lx.y (asg rfl) rfl ?_
        refine Lx.nil ?_
        refine Xx.tn (k11 _ _ _ _ ?_)
        refine Cx.ret ?_
        have h3 := q3.2 _ (List.getElem_mem hck)
        have hc1 : c2.cs.length = 1 := by rcases q2.2.2.1 with z | z; rw [z] at hck; simp at hck; omega
        have hi3 : io (d2 + 2) c2 = io (d2 + 1) c2.cs[0] := root_one h0k (by rw [q2.1]; exact h0k) hc1
        refine Xx.perm (H' := nd c2 * (tree tb d2 c2.cs[0] * R)) ?_ (by rw [tr_nd, trs_one _ hc1]; unfold tree; rw [← hl2, hi3]; ac_rfl)
        refine Xx.drop ?_
        exact Xx.ret1 rfl rfl ⟨rfl, d2, c2.cs[0], by rw [← q5, htv], rfl, ⟨(Ok.of1 (q2.2.2.2 _ (List.getElem_mem hck))).le (by decide), h3.2, by rw [← hi3]; exact ho2, .inr (by omega)⟩, by rw [← hi3]; exact q4⟩ (Frag.le_refl _) rfl
      · skip
        have hck := h10
        have hck : c2.cs.length = 0 := by omega
        refine Cx.skip ?_
        refine Xx.tn (k7 _ _ _ _ ?_)
        refine Cx.seq (fun K12 k12 => ?_)
        refine Cx.region ?_
        refine Lx.y (asg rfl) rfl ?_
        refine Lx.nil ?_
        refine Xx.tn (k12 _ _ _ _ ?_)
        refine Cx.ret ?_
        exact Xx.ret1 rfl rfl ⟨rfl, d, c2, by rw [← q5, htv], rfl, ⟨q2, q3, ho2, .inl (q3.1.1 (List.length_eq_zero_iff.1 hck))⟩, q4⟩ (Frag.le_refl _) (by unfold tree; rw [hl2]; ac_rfl)
    · skip
      have h0k := h9
      have h0k : c2.ks.length ≠ 0 := by omega
      refine Lx.gF rfl rfl rfl rfl ?_
      refine Lx.gF rfl rfl rfl rfl ?_
      refine Lx.gF rfl rfl rfl rfl ?_
      refine Lx.gF rfl rfl rfl rfl ?_
      refine Lx.gF rfl rfl rfl rfl ?_
      refine Lx.gF rfl rfl rfl rfl ?_
      refine Lx.gF rfl rfl rfl rfl ?_
      refine Lx.gF rfl rfl rfl rfl ?_
      refine Lx.gF rfl rfl rfl rfl ?_
      refine Lx.y (pickF rfl rfl) rfl ?_
      refine Lx.nil ?_
      refine Xx.tn (k8 _ _ _ _ ?_)
      refine Cx.condF rfl ?_
      refine Cx.skip ?_
      refine Xx.tn (k7 _ _ _ _ ?_)
      refine Cx.seq (fun K13 k13 => ?_)
      refine Cx.region ?_
      refine Lx.y (asg rfl) rfl ?_
      refine Lx.nil ?_
      refine Xx.tn (k13 _ _ _ _ ?_)
      refine Cx.ret ?_
      exact Xx.ret1 rfl rfl ⟨rfl, d, c2, by rw [← q5, htv], rfl, ⟨q2, q3, ho2, .inr (by omega)⟩, q4⟩ (Frag.le_refl _) (by unfold tree; rw [hl2]; ac_rfl)
end DrF
end Go.Proofs.YtdidpocakipinaaGreatDoor

/-
  A struct of one name and a number.
-/
namespace Go.Proofs.YtdidpocakipinaaGreatDoor
open Go.SL Go.RowKit
set_option linter.unusedVariables false
set_option linter.unusedSimpArgs false
set_option maxRecDepth 100000
open Ke1 Ke3 Ke4 Ke5 Ke6 Ke7 Ke8 Ke9 KeA KeB KeC KeD KeE KeF KeG KeI RgA
namespace RgB
theorem sz9 : (Tryz.prog.info? 9).map (·.size) = some 1 := by kernel_rfl
theorem sz22 : (Tryz.prog.info? 22).map (·.size) = some 1 := by kernel_rfl
theorem sz23 : (Tryz.prog.info? 23).map (·.size) = some 1 := by kernel_rfl
theorem sz25 : (Tryz.prog.info? 25).map (·.size) = some 6 := by kernel_rfl
theorem sz76 : (Tryz.prog.info? 76).map (·.size) = some 7 := by kernel_rfl
theorem ti9 : TI Tryz.prog 9 [str []] 1 16 := TI.of (by kernel_rfl) rfl rfl
theorem ti25 : TI Tryz.prog 25 [.int .i64 0, .bool false, .int .i64 0, str [], .slice none 0 0, .slice none 0 0] 6 88 := TI.of (by kernel_rfl) rfl rfl
theorem ti76 : TI Tryz.prog 76 [str [], .int .i64 0, .bool false, .int .i64 0, str [], .slice none 0 0, .slice none 0 0] 7 104 := TI.of (by kernel_rfl) rfl rfl
theorem fo25_4 : FO Tryz.prog 25 4 4 1 false := FO.of Tryz.underlying25 rfl rfl (by kernel_rfl) Tryz.underlying22 rfl rfl
theorem fo25_5 : FO Tryz.prog 25 5 5 1 false := FO.of Tryz.underlying25 rfl rfl (by kernel_rfl) Tryz.underlying23 rfl rfl
theorem fo76_0 : FO Tryz.prog 76 0 0 1 false := FO.of Tryz.underlying76 rfl rfl (by kernel_rfl) Tryz.underlying9 rfl rfl
theorem fo76_1 : FO Tryz.prog 76 1 1 6 true := FO.of Tryz.underlying76 rfl rfl (by kernel_rfl) Tryz.underlying25 rfl rfl
theorem pl25 : PL Tryz.prog 25 [(0, 1), (1, 1), (2, 1), (3, 1), (4, 1), (5, 1)] := PL.of Tryz.underlying25 (by kernel_rfl)
theorem pl76 : PL Tryz.prog 76 [(0, 1), (1, 6)] := PL.of Tryz.underlying76 (by kernel_rfl)

set_option maxHeartbeats 1000000 in
theorem InsF_end (A : Option Addr) (n c : Nat) (xs : List Value) (vb : Nat) (etv : TypeId) (news : List Value) (B : Frag) (hns : news.length = 7) (hn1 : news.all (·.oneCell') = true) (hbd : (n + 1) * 104 ≤ 140737488355328) : Ct Tryz.prog 31 [.slice A n c, i64 (n : Nat), .slice (some ⟨vb, 0, none⟩) 1 1] B (sbuf 76 7 A n c xs * row vb etv news) (fun v B' H' => ∃ A' c', v = .slice A' (n + 1) c' ∧ B' = B ∧ H' = sbuf 76 7 A' (n + 1) c' (xs ++ news) ∧ (∃ b, A' = some ⟨b, 0, none⟩) ∧ n + 1 ≤ c') := by
  refine Ct.of_body Tryz.func31 rfl (nt := 95) rfl (by kernel_rfl) rfl ?_
  intro N0 w0 R
  rw [star_assoc]
  refine Cx.seq (fun K1 k1 => ?_)
  refine Cx.region ?_
  refine Lx.y (asg rfl) rfl ?_
  refine Lx.nil ?_
  refine Xx.tn (k1 _ _ _ _ ?_)
  refine Cx.seq (fun K2 k2 => ?_)
  refine Cx.region ?_
  refine Lx.y (mv rfl) rfl ?_
  refine Lx.y (mv rfl) rfl ?_
  refine Lx.y (sl1V Tryz.underlying72 sz76 rfl rfl (Int.toNat_natCast _) (by omega) (by omega)) rfl ?_
  refine Lx.nil ?_
  refine Xx.tn (k2 _ _ _ _ ?_)
  refine Cx.seq (fun K3 k3 => ?_)
  refine Cx.region ?_
  refine Lx.y (mv rfl) rfl ?_
  refine Lx.y (lenV (ty' := 0) Tryz.underlying72 rfl) rfl ?_
  refine Lx.y (asg rfl) rfl ?_
  refine Lx.nil ?_
  refine Xx.tn (k3 _ _ _ _ ?_)
  refine Cx.seq (fun K4 k4 => ?_)
  refine Cx.seq (fun K5 k5 => ?_)
  refine Cx.region ?_
  refine Lx.y (mv rfl) rfl ?_
  refine Lx.y (eqI rfl rfl) rfl ?_
  refine Lx.nil ?_
  refine Xx.tn (k5 _ _ _ _ ?_)
  refine Cx.condD rfl (fun h6 => ?_) (fun h6 => ?_)
  · skip
    exact absurd h6 (by decide)
  · skip
    refine Cx.skip ?_
    refine Xx.tn (k4 _ _ _ _ ?_)
    refine Cx.seq (fun K7 k7 => ?_)
    refine Cx.region ?_
    refine Lx.y (mv rfl) rfl ?_
    refine Lx.y (lenV (ty' := 0) Tryz.underlying72 rfl) rfl ?_
    refine Lx.y (asg rfl) rfl ?_
    refine Lx.nil ?_
    refine Xx.tn (k7 _ _ _ _ ?_)
    refine Cx.seq (fun K8 k8 => ?_)
    refine Cx.seq (fun K9 k9 => ?_)
    refine Cx.region ?_
    refine Lx.y (mv rfl) rfl ?_
    refine Lx.y (mv rfl) rfl ?_
    refine Lx.y (eqI rfl rfl) rfl ?_
    refine Lx.nil ?_
    refine Xx.tn (k9 _ _ _ _ ?_)
    refine Cx.condD rfl (fun h10 => ?_) (fun h10 => ?_)
    · skip
      refine Cx.seq (fun K11 k11 => ?_)
      refine Cx.region ?_
      refine Lx.y (mv rfl) rfl ?_
      refine Lx.y (mv rfl) rfl ?_
      refine Lx.o (appN (et := 76) (n + 1) news (xs ++ news) Tryz.underlying72 Tryz.underlying72 ti76 rfl rfl (by rw [hns]) (by rw [List.drop_zero, List.take_of_length_le (by omega)]) hn1 (by omega) (by omega) rfl rfl) rfl (fun v B' H' hΦ hB => ?_)
      obtain ⟨A3, c3, rfl, hA3, hl3, hc3, hBB, rfl⟩ := hΦ
      obtain rfl := hBB.symm
      clear hB
      refine Lx.y (asg rfl) rfl ?_
      refine Lx.nil ?_
      refine Xx.tn (k11 _ _ _ _ ?_)
      refine Cx.ret ?_
      refine Xx.tr ?_
      exact Xx.dropB vb (Xx.ret1 rfl rfl ⟨A3, c3, rfl, rfl, rfl, hA3 (by omega), hc3⟩ (Frag.le_refl _) rfl)
    · skip
      exact absurd rfl h10

set_option maxHeartbeats 1000000 in
theorem InsF_mid (b : Nat) (sp : List Value) (i n c : Nat) (xs : List Value) (vb : Nat) (etv : TypeId) (news : List Value) (B : Frag) (hi : i < n) (hxl : xs.length = n * 7) (hnc : n ≤ c) (hcl : (xs ++ sp).length = c * 7) (hx1 : xs.all (·.oneCell') = true) (hns : news.length = 7) (hn1 : news.all (·.oneCell') = true) (hbd : (n + 1) * 104 ≤ 140737488355328) : Ct Tryz.prog 31 [.slice (some ⟨b, 0, none⟩) n c, i64 (i : Nat), .slice (some ⟨vb, 0, none⟩) 1 1] B (row vb etv news * row b 76 (xs ++ sp)) (fun v B' H' => ∃ b' c' sp', v = .slice (some ⟨b', 0, none⟩) (n + 1) c' ∧ B' = B ∧ H' = row b' 76 (xs.take (i * 7) ++ news ++ xs.drop (i * 7) ++ sp') ∧ (xs.take (i * 7) ++ news ++ xs.drop (i * 7) ++ sp').length = c' * 7 ∧ n + 1 ≤ c') := by
  have hxl2 := hcl
  rw [List.length_append] at hxl2
  have hDl : (xs.drop (i * 7)).length = (n - i) * 7 := by rw [List.length_drop]; omega
  have hD1 : (xs.drop (i * 7)).all (·.oneCell') = true := by rw [List.all_eq_true] at hx1 ⊢; exact fun v hv => hx1 v (List.mem_of_mem_drop hv)
  have hTl : (xs.take (i * 7)).length = i * 7 := by rw [List.length_take]; omega
  refine Ct.of_body Tryz.func31 rfl (nt := 95) rfl (by kernel_rfl) rfl ?_
  intro N0 w0 R
  rw [star_assoc]
  refine Cx.seq (fun K1 k1 => ?_)
  refine Cx.region ?_
  refine Lx.y (asg rfl) rfl ?_
  refine Lx.nil ?_
  refine Xx.tn (k1 _ _ _ _ ?_)
  refine Cx.seq (fun K2 k2 => ?_)
  refine Cx.region ?_
  refine Lx.y (mv rfl) rfl ?_
  refine Lx.y (mv rfl) rfl ?_
  refine Lx.y (sl1V Tryz.underlying72 sz76 rfl rfl (Int.toNat_natCast _) (by omega) (by omega)) rfl ?_
  refine Lx.nil ?_
  refine Xx.tn (k2 _ _ _ _ ?_)
  refine Cx.seq (fun K3 k3 => ?_)
  refine Cx.region ?_
  refine Lx.y (mv rfl) rfl ?_
  refine Lx.y (lenV (ty' := 0) Tryz.underlying72 rfl) rfl ?_
  refine Lx.y (asg rfl) rfl ?_
  refine Lx.nil ?_
  refine Xx.tn (k3 _ _ _ _ ?_)
  refine Cx.seq (fun K4 k4 => ?_)
  refine Cx.seq (fun K5 k5 => ?_)
  refine Cx.region ?_
  refine Lx.y (mv rfl) rfl ?_
  refine Lx.y (eqI rfl rfl) rfl ?_
  refine Lx.nil ?_
  refine Xx.tn (k5 _ _ _ _ ?_)
  refine Cx.condD rfl (fun h6 => ?_) (fun h6 => ?_)
  · skip
    exact absurd h6 (by decide)
  · skip
    refine Cx.skip ?_
    refine Xx.tn (k4 _ _ _ _ ?_)
    refine Cx.seq (fun K7 k7 => ?_)
    refine Cx.region ?_
    refine Lx.y (mv rfl) rfl ?_
    refine Lx.y (lenV (ty' := 0) Tryz.underlying72 rfl) rfl ?_
    refine Lx.y (asg rfl) rfl ?_
    refine Lx.nil ?_
    refine Xx.tn (k7 _ _ _ _ ?_)
    refine Cx.seq (fun K8 k8 => ?_)
    refine Cx.seq (fun K9 k9 => ?_)
    refine Cx.region ?_
    refine Lx.y (mv rfl) rfl ?_
    refine Lx.y (mv rfl) rfl ?_
    refine Lx.y (eqI rfl rfl) rfl ?_
    refine Lx.nil ?_
    refine Xx.tn (k9 _ _ _ _ ?_)
    refine Cx.condD rfl (fun h10 => ?_) (fun h10 => ?_)
    · skip
      exact absurd h10 (by omega)
    · skip
      refine Cx.skip ?_
      refine Xx.tn (k8 _ _ _ _ ?_)
      refine Cx.seq (fun K11 k11 => ?_)
      refine Cx.seq (fun K12 k12 => ?_)
      refine Cx.region ?_
      refine Lx.y (mv rfl) rfl ?_
      refine Lx.y (mv rfl) rfl ?_
      refine Lx.y (add rfl rfl (by first | exact wrap64 (by omega) (by omega) | rfl)) rfl ?_
      refine Lx.y (mv rfl) rfl ?_
      refine Lx.y (capV Tryz.underlying72 rfl) rfl ?_
      refine Lx.y (gtr rfl rfl) rfl ?_
      refine Lx.nil ?_
      refine Xx.tn (k12 _ _ _ _ ?_)
      refine Cx.condD rfl (fun h13 => ?_) (fun h13 => ?_)
      · skip
        have hno := h13
        refine Cx.seq (fun K14 k14 => ?_)
        refine Cx.region ?_
        refine Lx.y (mv rfl) rfl ?_
        refine Lx.y (mv rfl) rfl ?_
        refine Lx.y (sl2V Tryz.underlying72 sz76 rfl rfl (Int.toNat_natCast _) (by omega) (by omega)) rfl ?_
        refine Lx.y (mv rfl) rfl ?_
        refine Lx.y (mv rfl) rfl ?_
        refine Lx.y (add rfl rfl (by first | exact wrap64 (by omega) (by omega) | rfl)) rfl ?_
        refine Lx.y (mv rfl) rfl ?_
        refine Lx.y (sub rfl rfl (show IntKind.i64.wrap _ = ((n + 1 - i : Nat) : Int) by rw [wrap64 (by omega) (by omega)]; omega)) rfl ?_
        refine Lx.o (amO (olds := xs.take (i * 7)) (m := n + 1 - i) Tryz.underlying72 Tryz.underlying3 ti76 rfl rfl (SrcH.own (b := b) (o := 0) (i * 7) (by rw [List.drop_zero]; exact List.take_append_of_le_length (by omega))) hTl (by omega) (by omega) (by rw [show i + (n + 1 - i) = n + 1 by omega]; exact hbd)) rfl (fun v B' H' hΦ hB => ?_)
        obtain ⟨b9, c9, rest, rfl, hc9, hrl, hBB, rfl⟩ := hΦ
        obtain rfl := hBB.symm
        clear hB
        rw [show i + (n + 1 - i) = n + 1 by omega] at hc9 ⊢
        refine Lx.y (asg rfl) rfl ?_
        refine Lx.nil ?_
        refine Xx.tn (k14 _ _ _ _ ?_)
        refine Cx.seq (fun K15 k15 => ?_)
        refine Cx.region ?_
        refine Lx.y (mv rfl) rfl ?_
        refine Lx.y (mv rfl) rfl ?_
        refine Lx.y (sl1A i Tryz.underlying72 sz76 rfl rfl rfl (by omega) (by omega)) rfl ?_
        refine Lx.y (mv rfl) rfl ?_
        refine Lx.o (cpO (cs' := (xs.take (i * 7) ++ news ++ rest.drop 7)) 1 Tryz.underlying72 sz76 rfl rfl (show Nat.min _ _ = _ by first | rfl | (simp only [Nat.min_def]; split <;> omega)) (SrcH.own (b := vb) (o := 0) (news := news) 7 (by rw [List.drop_zero, List.take_of_length_le (by omega)])) (by rw [hns]) hn1 (by rw [Nat.zero_add, List.length_append, hTl]; omega) (by rw [Nat.zero_add]; exact ins_grow1 hTl hns (by omega))) rfl (fun v B' H' hΦ hB => ?_)
        obtain ⟨rfl, hBB, rfl⟩ := hΦ
        obtain rfl := hBB.symm
        clear hB
        refine Lx.nil ?_
        refine Xx.tn (k15 _ _ _ _ ?_)
        refine Cx.seq (fun K16 k16 => ?_)
        refine Cx.drawn (by kernel_rfl) ?_
        refine Dx.p (i := 0) rfl (by kernel_rfl) (mv rfl) rfl ?_
        refine Dx.p (i := 1) rfl (by kernel_rfl) (mv rfl) rfl ?_
        refine Dx.p (i := 2) rfl (by kernel_rfl) (mv rfl) rfl ?_
        refine Dx.p (i := 3) rfl (by kernel_rfl) (add rfl rfl (show IntKind.i64.wrap _ = ((i + 1 : Nat) : Int) by rw [wrap64 (by omega) (by omega)]; rfl)) rfl ?_
        refine Dx.p (i := 4) rfl (by kernel_rfl) (sl1A (i + 1) Tryz.underlying72 sz76 rfl rfl rfl (by omega) (by omega)) rfl ?_
        refine Dx.p (i := 5) rfl (by kernel_rfl) (mv rfl) rfl ?_
        refine Dx.p (i := 6) rfl (by kernel_rfl) (mv rfl) rfl ?_
        refine Dx.p (i := 7) rfl (by kernel_rfl) (sl1A i Tryz.underlying72 sz76 rfl rfl rfl (by omega) (by omega)) rfl ?_
        refine Dx.one (i := 8) (by kernel_rfl) ?_
        refine Dstep.o (i := 8) rfl (cpO (cs' := (xs.take (i * 7) ++ news ++ xs.drop (i * 7) ++ (rest.drop 7).drop (xs.drop (i * 7)).length)) (n - i) Tryz.underlying72 sz76 rfl rfl (show Nat.min _ _ = _ by first | rfl | (simp only [Nat.min_def]; split <;> omega)) (SrcH.own (b := b) (o := 0 + i * 7) (news := xs.drop (i * 7)) ((n - i) * 7) (by rw [Nat.zero_add, List.drop_append_of_le_length (by omega), List.take_append_of_le_length (by omega), List.take_of_length_le (by omega)])) hDl hD1 (by simp only [List.length_append, List.length_drop, hTl, hns, hDl]; omega) (by rw [Nat.zero_add, show (i + 1) * 7 = i * 7 + 7 by omega]; exact ins_grow2 hTl hns)) rfl (fun v B' H' hΦ hB => ?_)
        obtain ⟨rfl, rfl, rfl⟩ := hΦ
        clear hB
        refine ⟨JOk.top, ?_⟩
        refine Dx.done (by kernel_rfl) ?_
        refine Xx.tn (k16 _ _ _ _ ?_)
        refine Cx.seq (fun K17 k17 => ?_)
        refine Cx.region ?_
        refine Lx.y (mv rfl) rfl ?_
        refine Lx.y (asg rfl) rfl ?_
        refine Lx.nil ?_
        refine Xx.tn (k17 _ _ _ _ ?_)
        refine Cx.ret ?_
        refine Xx.tr ?_
        exact Xx.dropB vb (Xx.dropB b (Xx.ret1 rfl rfl ⟨b9, c9, _, rfl, rfl, rfl, by simp only [List.length_append, List.length_drop, hTl, hns, hDl]; omega, hc9⟩ (Frag.le_refl _) rfl))
      · skip
        have hno := h13
        refine Cx.skip ?_
        refine Xx.tn (k11 _ _ _ _ ?_)
        refine Cx.seq (fun K18 k18 => ?_)
        refine Cx.region ?_
        refine Lx.y (mv rfl) rfl ?_
        refine Lx.y (mv rfl) rfl ?_
        refine Lx.y (mv rfl) rfl ?_
        refine Lx.y (add rfl rfl (show IntKind.i64.wrap _ = ((n + 1 : Nat) : Int) by rw [wrap64 (by omega) (by omega)]; rfl)) rfl ?_
        refine Lx.y (sl2V Tryz.underlying72 sz76 rfl rfl (Int.toNat_natCast _) (by omega) (by omega)) rfl ?_
        refine Lx.y (asg rfl) rfl ?_
        refine Lx.nil ?_
        refine Xx.tn (k18 _ _ _ _ ?_)
        refine Cx.seq (fun K19 k19 => ?_)
        refine Cx.seq (fun K20 k20 => ?_)
        refine Cx.region ?_
        refine Lx.y (mv rfl) rfl ?_
        refine Lx.y (mv rfl) rfl ?_
        refine Lx.y (mv rfl) rfl ?_
        refine Lx.y (mv rfl) rfl ?_
        refine Lx.y (add rfl rfl (show IntKind.i64.wrap _ = ((i + 1 : Nat) : Int) by rw [wrap64 (by omega) (by omega)]; rfl)) rfl ?_
        refine Lx.y (sl1V Tryz.underlying72 sz76 rfl rfl (Int.toNat_natCast _) (by omega) (by omega)) rfl ?_
        rw [show subA (some ⟨b, 0, none⟩) c (i + 1) 7 = (if c = i + 1 then some ⟨b, 0, none⟩ else some ⟨b, 0 + (i + 1) * 7, none⟩) by unfold subA; split <;> simp [add_mk]]
        have hcne : ¬ c = i + 1 := by omega
        rw [if_neg hcne]
        refine Lx.y (extc rfl rfl (ovQ (tS := 72) (tR := 4) Tryz.func51 (by kernel_rfl) (by kernel_rfl) (by kernel_rfl) (by kernel_rfl) Tryz.underlying72 sz76 rfl (by intro z; have h9 := congrArg List.length z; rw [List.length_append, List.length_nil] at h9; omega))) rfl ?_
        refine Lx.y (not' rfl) rfl ?_
        refine Lx.nil ?_
        refine Xx.tn (k20 _ _ _ _ ?_)
        refine Cx.condT rfl ?_
        refine Cx.seq (fun K21 k21 => ?_)
        refine Cx.drawn (by kernel_rfl) ?_
        refine Dx.p (i := 0) rfl (by kernel_rfl) (mv rfl) rfl ?_
        refine Dx.p (i := 1) rfl (by kernel_rfl) (mv rfl) rfl ?_
        refine Dx.p (i := 2) rfl (by kernel_rfl) (mv rfl) rfl ?_
        refine Dx.p (i := 3) rfl (by kernel_rfl) (add rfl rfl (show IntKind.i64.wrap _ = ((i + 1 : Nat) : Int) by rw [wrap64 (by omega) (by omega)]; rfl)) rfl ?_
        refine Dx.p (i := 4) rfl (by kernel_rfl) (sl1A (i + 1) Tryz.underlying72 sz76 rfl rfl rfl (by omega) (by omega)) rfl ?_
        refine Dx.p (i := 5) rfl (by kernel_rfl) (mv rfl) rfl ?_
        refine Dx.p (i := 6) rfl (by kernel_rfl) (mv rfl) rfl ?_
        refine Dx.p (i := 7) rfl (by kernel_rfl) (sl1A i Tryz.underlying72 sz76 rfl rfl rfl (by omega) (by omega)) rfl ?_
        refine Dx.one (i := 8) (by kernel_rfl) ?_
        refine Dstep.o (i := 8) rfl (cpO (cs' := ((xs ++ sp).take (i * 7 + 7) ++ xs.drop (i * 7) ++ (xs ++ sp).drop ((n + 1) * 7))) (n - i) Tryz.underlying72 sz76 rfl rfl (show Nat.min _ _ = _ by first | rfl | (simp only [Nat.min_def]; split <;> omega)) (SrcH.own (b := b) (o := 0 + i * 7) (news := xs.drop (i * 7)) ((n - i) * 7) (by rw [Nat.zero_add, List.drop_append_of_le_length (by omega), List.take_append_of_le_length (by omega), List.take_of_length_le (by omega)])) hDl hD1 (by rw [List.length_append]; omega) (by rw [Nat.zero_add, hDl, show (i + 1) * 7 = i * 7 + 7 by omega, show i * 7 + 7 + (n - i) * 7 = (n + 1) * 7 by omega])) rfl (fun v B' H' hΦ hB => ?_)
        obtain ⟨rfl, rfl, rfl⟩ := hΦ
        clear hB
        refine ⟨JOk.top, ?_⟩
        refine Dx.done (by kernel_rfl) ?_
        refine Xx.tn (k21 _ _ _ _ ?_)
        refine Cx.seq (fun K22 k22 => ?_)
        refine Cx.region ?_
        refine Lx.y (mv rfl) rfl ?_
        refine Lx.y (mv rfl) rfl ?_
        refine Lx.y (sl1A i Tryz.underlying72 sz76 rfl rfl rfl (by omega) (by omega)) rfl ?_
        refine Lx.y (mv rfl) rfl ?_
        refine Lx.o (cpO (cs' := (xs.take (i * 7) ++ news ++ xs.drop (i * 7) ++ (xs ++ sp).drop ((n + 1) * 7))) 1 Tryz.underlying72 sz76 rfl rfl (show Nat.min _ _ = _ by first | rfl | (simp only [Nat.min_def]; split <;> omega)) (SrcH.own (b := vb) (o := 0) (news := news) 7 (by rw [List.drop_zero, List.take_of_length_le (by omega)])) (by rw [hns]) hn1 (by simp only [List.length_append, List.length_take, List.length_drop, hDl]; omega) (by rw [Nat.zero_add]; exact ins_room (by omega) hns (by rw [List.length_append]; omega) (List.take_append_of_le_length (by omega)) rfl (by omega))) rfl (fun v B' H' hΦ hB => ?_)
        obtain ⟨rfl, hBB, rfl⟩ := hΦ
        obtain rfl := hBB.symm
        clear hB
        refine Lx.nil ?_
        refine Xx.tn (k22 _ _ _ _ ?_)
        refine Cx.seq (fun K23 k23 => ?_)
        refine Cx.region ?_
        refine Lx.y (mv rfl) rfl ?_
        refine Lx.y (asg rfl) rfl ?_
        refine Lx.nil ?_
        refine Xx.tn (k23 _ _ _ _ ?_)
        refine Cx.ret ?_
        refine Xx.tr ?_
        exact Xx.dropB vb (Xx.ret1 rfl rfl ⟨b, c, _, rfl, rfl, rfl, by simp only [List.length_append, List.length_drop, hTl, hns, hDl]; omega, by omega⟩ (Frag.le_refl _) rfl)

theorem InsF_ct (A : Option Addr) (i n c : Nat) (xs : List Value) (vb : Nat) (etv : TypeId) (news : List Value) (B : Frag) (hi : i ≤ n) (hxl : xs.length = n * 7) (hx1 : xs.all (·.oneCell') = true) (hns : news.length = 7) (hn1 : news.all (·.oneCell') = true) (hbd : (n + 1) * 104 ≤ 140737488355328) :
    Ct Tryz.prog 31 [.slice A n c, i64 (i : Nat), .slice (some ⟨vb, 0, none⟩) 1 1] B (sbuf 76 7 A n c xs * row vb etv news) (fun v B' H' => ∃ A' c', v = .slice A' (n + 1) c' ∧ B' = B ∧ H' = sbuf 76 7 A' (n + 1) c' (xs.take (i * 7) ++ news ++ xs.drop (i * 7)) ∧ (∃ b, A' = some ⟨b, 0, none⟩) ∧ n + 1 ≤ c') := by
  by_cases h : i = n
  · subst h
    have h1 : xs.take (i * 7) = xs := List.take_of_length_le (by omega)
    have h2 : xs.drop (i * 7) = [] := List.drop_of_length_le (by omega)
    rw [h1, h2, List.append_nil]
    exact InsF_end A i c xs vb etv news B hns hn1 hbd
  · refine Ct.of_sbuf (by omega) (fun b sp hA hx hnc hcl => ?_) (Go.SL.enters_of Tryz.func31 rfl (by kernel_rfl))
    subst hA
    have hm := InsF_mid b sp i n c xs vb etv news B (by omega) hxl hnc hcl hx1 hns hn1 hbd
    refine ⟨hm.1, fun N0 w R s => (hm.2 N0 w R s).mono ?_⟩
    rintro x w' ⟨v, B', _, hx', ⟨b', c', sp', hv, hB, rfl, hl, hc'⟩, hBB, hb, s'⟩
    refine ⟨v, B', _, hx', ⟨some ⟨b', 0, none⟩, c', hv, hB, rfl, ⟨b', rfl⟩, hc'⟩, hBB, hb, row_sbuf ?_ hc' hl s'⟩
    simp only [List.length_append, List.length_take, List.length_drop, hns, hxl]; omega

def VA (n : Int) : V := .mk 6 false 0 [] [.mk 2 false n [] [] []] [[97]]
theorem VA_R {n : Int} {B3 B4 : Frag} {An Ap : Option Addr} {cn cp : Nat} (h1 : -9223372036854775808 ≤ n) (h2 : n ≤ 9223372036854775807) (hRo : RoS B3 6 Ap 1 [i64 2, .bool false, i64 n, str [], .slice none 0 0, .slice none 0 0]) (hRo4 : RoS B4 1 An 1 [str [97]]) (hB4 : B3.le B4) (hcn : 1 ≤ cn) (hcp : 1 ≤ cp) : ValR B4 2 (VA n) (vcs (VA n) Ap cp An cn) := by
  refine ValR.mk ⟨Nat.zero_le _, (show (-9223372036854775808 : Int) ≤ 0 by decide), (show (0 : Int) ≤ 9223372036854775807 by decide), hcn, hcp⟩ (show 1 ≤ 4611686018427387904 by decide) (show 1 ≤ 4611686018427387904 by decide) (RoS.roe hRo4) ?_ (hRo.mono hB4) ?_
  · intro x hx
    have h9 : x ∈ [[97]] := hx
    rw [List.mem_singleton.1 h9]; decide
  · intro k hk
    have hk2 : k < 1 := hk
    match k, hk2 with
    | 0, _ => exact (ValR.leaf ⟨by decide, h1, h2⟩ : ValR B4 1 (V.mk 2 false n [] [] []) (vcs (V.mk 2 false n [] [] []) none 0 none 0))

set_option maxHeartbeats 1000000 in
theorem BSF0_ct (t : List UInt8) (B : Frag) : CtP Tryz.prog 28 [.slice none 0 0, str t, .func (.func 29) #[] #[]] B (.tuple #[i64 0, .bool false]) := by
  refine CtB.of_body Tryz.func28 rfl (nt := 49) rfl (by kernel_rfl) rfl ?_
  intro N0 w0 R
  refine Cx.seq (fun K1 k1 => ?_)
  refine Cx.region ?_
  refine Lx.y (asg rfl) rfl ?_
  refine Lx.y (asg rfl) rfl ?_
  refine Lx.nil ?_
  refine Xx.tn (k1 _ _ _ _ ?_)
  refine Cx.seq (fun K2 k2 => ?_)
  refine Cx.region ?_
  refine Lx.y (mv rfl) rfl ?_
  refine Lx.y (lenV (ty' := 0) Tryz.underlying72 rfl) rfl ?_
  refine Lx.y (asg rfl) rfl ?_
  refine Lx.nil ?_
  refine Xx.tn (k2 _ _ _ _ ?_)
  refine Cx.seq (fun K3 k3 => ?_)
  refine Cx.region ?_
  refine Lx.y (mv rfl) rfl ?_
  refine Lx.y (asg rfl) rfl ?_
  refine Lx.y (asg rfl) rfl ?_
  refine Lx.nil ?_
  refine Xx.tn (k3 _ _ _ _ ?_)
  refine Cx.seq (fun K4 k4 => ?_)
  refine Cx.block ?_
  refine Cx.unroll (1) ?_
  refine Xx.rn ?_
  refine Cx.seq (fun K5 k5 => ?_)
  refine Cx.seq (fun K6 k6 => ?_)
  refine Cx.region ?_
  refine Lx.y (mv rfl) rfl ?_
  refine Lx.y (mv rfl) rfl ?_
  refine Lx.y (lss rfl rfl) rfl ?_
  refine Lx.nil ?_
  refine Xx.tn (k6 _ _ _ _ ?_)
  refine Cx.condD rfl (fun h7 => ?_) (fun h7 => ?_)
  · skip
    exact absurd h7 (by decide)
  · skip
    refine Cx.exit ?_
    refine Xx.te ?_
    refine Xx.te ?_
    refine Xx.bh ?_
    refine Xx.tn (k4 _ _ _ _ ?_)
    refine Cx.seq (fun K8 k8 => ?_)
    refine Cx.region ?_
    refine Lx.y (mv rfl) rfl ?_
    refine Lx.y (mv rfl) rfl ?_
    refine Lx.y (mv rfl) rfl ?_
    refine Lx.y (lss rfl rfl) rfl ?_
    refine Lx.y (mv rfl) rfl ?_
    refine Xx.ifD (t := 39) rfl (fun h9 => ?_) (fun h9 => ?_)
    · skip
      exact absurd h9 (by decide)
    · skip
      refine Lx.gF rfl rfl rfl rfl ?_
      refine Lx.gF rfl rfl rfl rfl ?_
      refine Lx.gF rfl rfl rfl rfl ?_
      refine Lx.gF rfl rfl rfl rfl ?_
      refine Lx.gF rfl rfl rfl rfl ?_
      refine Lx.gF rfl rfl rfl rfl ?_
      refine Lx.gF rfl rfl rfl rfl ?_
      refine Lx.gF rfl rfl rfl rfl ?_
      refine Lx.y (pickF rfl rfl) rfl ?_
      refine Lx.y (asg rfl) rfl ?_
      refine Lx.y (asg rfl) rfl ?_
      refine Lx.nil ?_
      refine Xx.tn (k8 _ _ _ _ ?_)
      refine Cx.ret ?_
      exact Xx.rB2 rfl rfl rfl ⟨rfl, rfl⟩ (Frag.le_refl _) rfl

set_option maxHeartbeats 2000000 in
theorem Struct1_ct (n : Int) (nb pb : Nat) (e1 e2 : TypeId) (f1 f2 : Nat × Nat) (B : Frag) (h1 : -9223372036854775808 ≤ n) (h2 : n ≤ 9223372036854775807) (hBn : B nb = some (.cells #[str [97]] e1 f1)) (hBp : B pb = some (.cells [i64 2, .bool false, i64 n, str [], .slice none 0 0, .slice none 0 0].toArray e2 f2)) : CtB Tryz.prog 7 [.slice (some ⟨nb, 0, none⟩) 1 1, .slice (some ⟨pb, 0, none⟩) 1 1] B (fun v B' => ∃ cs', v = .agg cs'.toArray ∧ ValR B' 2 (VA n) cs') := by
  refine CtB.of_body Tryz.func7 rfl (nt := 75) rfl (by kernel_rfl) rfl ?_
  intro N0 w0 R
  refine Cx.seq (fun K1 k1 => ?_)
  refine Cx.region ?_
  refine Lx.new (allocO ti25) rfl (fun b4 => ?_)
  refine Lx.nil ?_
  refine Xx.tn (k1 _ _ _ _ ?_)
  refine Cx.seq (fun K2 k2 => ?_)
  refine Cx.region ?_
  refine Lx.y (asg rfl) rfl ?_
  refine Lx.nil ?_
  refine Xx.tn (k2 _ _ _ _ ?_)
  refine Cx.seq (fun K3 k3 => ?_)
  refine Cx.seq (fun K4 k4 => ?_)
  refine Cx.region ?_
  refine Lx.y (mv rfl) rfl ?_
  refine Lx.y (Yx.val (lenV (ty' := 0) Tryz.underlying23 rfl) (show _ = i64 1 from rfl)) rfl ?_
  refine Lx.y (mv rfl) rfl ?_
  refine Lx.y (Yx.val (lenV (ty' := 0) Tryz.underlying22 rfl) (show _ = i64 1 from rfl)) rfl ?_
  refine Lx.y (Yx.val (minI rfl rfl) (show _ = i64 1 from rfl)) rfl ?_
  refine Lx.y (mv rfl) rfl ?_
  refine Lx.nil ?_
  refine Xx.tn (k4 _ _ _ _ ?_)
  refine Cx.block ?_
  refine Cx.unroll (2) ?_
  refine Xx.rn ?_
  refine Cx.seq (fun K5 k5 => ?_)
  refine Cx.region ?_
  refine Lx.y (Yx.tt (lss rfl rfl) (by decide)) rfl ?_
  refine Lx.nil ?_
  refine Xx.tn (k5 _ _ _ _ ?_)
  refine Cx.seq (fun K6 k6 => ?_)
  refine Cx.condT rfl ?_
  refine Cx.skip ?_
  refine Xx.tn (k6 _ _ _ _ ?_)
  refine Cx.seq (fun K7 k7 => ?_)
  refine Cx.block ?_
  refine Cx.seq (fun K8 k8 => ?_)
  refine Cx.region ?_
  refine Lx.y (mv rfl) rfl ?_
  refine Lx.y (asg rfl) rfl ?_
  refine Lx.nil ?_
  refine Xx.tn (k8 _ _ _ _ ?_)
  refine Cx.seq (fun K9 k9 => ?_)
  refine Cx.region ?_
  refine Lx.y (mv rfl) rfl ?_
  refine Lx.y (mv rfl) rfl ?_
  refine Lx.y (mv rfl) rfl ?_
  refine Lx.y (ia Tryz.underlying23 sz9 rfl rfl (show Int.toNat _ = 0 from rfl) (by decide) (by decide)) rfl ?_
  refine Lx.y (ldB Tryz.underlying9 rfl rfl hBn rfl) rfl ?_
  refine Lx.cp rfl rfl rfl (BSF0_ct [97] _) rfl ?_
  refine Lx.y (mv rfl) rfl ?_
  refine Lx.y (ext rfl rfl) rfl ?_
  refine Lx.y (ext rfl rfl) rfl ?_
  refine Lx.y (asg rfl) rfl ?_
  refine Lx.y (asg rfl) rfl ?_
  refine Lx.nil ?_
  refine Xx.tn (k9 _ _ _ _ ?_)
  refine Cx.seq (fun K10 k10 => ?_)
  refine Cx.seq (fun K11 k11 => ?_)
  refine Cx.region ?_
  refine Lx.y (mv rfl) rfl ?_
  refine Lx.nil ?_
  refine Xx.tn (k11 _ _ _ _ ?_)
  refine Cx.condF rfl ?_
  refine Cx.skip ?_
  refine Xx.tn (k10 _ _ _ _ ?_)
  refine Cx.drawn (by kernel_rfl) ?_
  refine Dx.p (i := 0) rfl (by kernel_rfl) (mv rfl) rfl ?_
  refine Dx.p (i := 1) rfl (by kernel_rfl) (mv rfl) rfl ?_
  refine Dx.p (i := 2) rfl (by kernel_rfl) (mv rfl) rfl ?_
  refine Dx.p (i := 3) rfl (by kernel_rfl) (mv rfl) rfl ?_
  refine Dx.p (i := 4) rfl (by kernel_rfl) (ia Tryz.underlying23 sz9 rfl rfl (show Int.toNat _ = 0 from rfl) (by decide) (by decide)) rfl ?_
  refine Dx.r (i := 5) rfl (by kernel_rfl) (ldB Tryz.underlying9 rfl rfl hBn rfl) rfl ?_
  refine Dx.p (i := 6) rfl (by kernel_rfl) (mv rfl) rfl ?_
  refine Dx.p (i := 7) rfl (by kernel_rfl) (mv rfl) rfl ?_
  refine Dx.p (i := 8) rfl (by kernel_rfl) (ia Tryz.underlying22 sz25 rfl rfl (show Int.toNat _ = 0 from rfl) (by decide) (by decide)) rfl ?_
  refine Dx.r (i := 9) rfl (by kernel_rfl) (ldA Tryz.underlying25 rfl sz25 rfl (Cells.base (n := 6) hBp rfl) rfl) rfl ?_
  refine Dx.p (i := 10) rfl (by kernel_rfl) (bld ti76 pl76 rfl rfl) rfl ?_
  refine Dx.one (i := 11) (by kernel_rfl) ?_
  refine Dstep.o (i := 11) rfl (bslA Tryz.underlying72 ti76 rfl rfl (by decide)) rfl (fun v B' H' hΦ hB => ?_)
  obtain ⟨b8, rfl, rfl, rfl⟩ := hΦ; clear hB
  refine ⟨JOk.yes (JOk.yes (JOk.top) (ldB Tryz.underlying9 rfl rfl hBn rfl)) (ldA Tryz.underlying25 rfl sz25 rfl (Cells.base (n := 6) hBp rfl) rfl), ?_⟩
  refine Dx.one (i := 12) (by kernel_rfl) ?_
  refine Dstep.o (i := 12) rfl (Ox.call rfl rfl rfl (InsF_ct none 0 0 0 [] b8 76 [str [97], i64 2, .bool false, i64 n, str [], .slice none 0 0, .slice none 0 0] _ (by decide) rfl rfl rfl rfl (by decide)) (by rw [sbuf_nil, one_star])) rfl (fun v B' H' hΦ hB => ?_)
  obtain ⟨_, rfl, hΦ⟩ := hΦ
  obtain ⟨A9, c9, rfl, hBB, rfl, ⟨bA, rfl⟩, hc9⟩ := hΦ
  subst hBB
  rename Frag => B
  clear hB
  refine ⟨JOk.yes (JOk.yes (JOk.top) (ldB Tryz.underlying9 rfl rfl hBn rfl)) (ldA Tryz.underlying25 rfl sz25 rfl (Cells.base (n := 6) hBp rfl) rfl), ?_⟩
  refine Dx.p (i := 13) rfl (by kernel_rfl) (asg rfl) rfl ?_
  refine Dx.done (by kernel_rfl) ?_
  refine Xx.bn ?_
  refine Xx.tn (k7 _ _ _ _ ?_)
  refine Cx.region ?_
  refine Lx.y (Yx.val (add rfl rfl (show IntKind.i64.wrap _ = _ from rfl)) (show _ = i64 1 from rfl)) rfl ?_
  refine Lx.y (mv rfl) rfl ?_
  refine Lx.nil ?_
  refine Xx.tn ?_
  refine Xx.rn ?_
  refine Cx.seq (fun K12 k12 => ?_)
  refine Cx.region ?_
  refine Lx.y (Yx.ff (lss rfl rfl) (by decide)) rfl ?_
  refine Lx.nil ?_
  refine Xx.tn (k12 _ _ _ _ ?_)
  refine Cx.seq (fun K13 k13 => ?_)
  refine Cx.condF rfl ?_
  refine Cx.exit ?_
  refine Xx.te ?_
  refine Xx.te ?_
  refine Xx.bh ?_
  refine Xx.tn (k3 _ _ _ _ ?_)
  refine Cx.seq (fun K14 k14 => ?_)
  refine Cx.region ?_
  refine Lx.y (bld ti25 pl25 rfl rfl) rfl ?_
  refine Lx.new (allocO ti25) rfl (fun b10 => ?_)
  refine Lx.st (stA (d := .bool) sz25 rfl rfl rfl rfl (by show 0 + 6 ≤ 6; omega) rfl) ?_
  refine Lx.nil ?_
  refine Xx.tn (k14 _ _ _ _ ?_)
  refine Cx.seq (fun K15 k15 => ?_)
  refine Cx.seq (fun K16 k16 => ?_)
  refine Xx.openT (some ⟨bA, 0, none⟩) (by decide) (fun bF sp hA hxl hnc hcl => ?_)
  have hbF : bA = bF := by injection hA with h; injection h
  subst hbF
  refine Xx.perm (H' := sbuf 9 1 none 0 0 [] * (sbuf 25 6 none 0 0 [] * _)) ?_ (by rw [sbuf_nil, sbuf_nil, one_star, one_star])
  refine Cx.region ?_
  refine Lx.y (mv rfl) rfl ?_
  refine Lx.y (Yx.val (lenV (ty' := 0) Tryz.underlying72 rfl) (show _ = i64 1 from rfl)) rfl ?_
  refine Lx.y (mv rfl) rfl ?_
  refine Lx.nil ?_
  refine Xx.tn (k16 _ _ _ _ ?_)
  refine Cx.block ?_
  refine Cx.unroll (2) ?_
  refine Xx.rn ?_
  refine Cx.seq (fun K17 k17 => ?_)
  refine Cx.region ?_
  refine Lx.y (Yx.tt (lss rfl rfl) (by decide)) rfl ?_
  refine Lx.nil ?_
  refine Xx.tn (k17 _ _ _ _ ?_)
  refine Cx.seq (fun K18 k18 => ?_)
  refine Cx.condT rfl ?_
  refine Cx.skip ?_
  refine Xx.tn (k18 _ _ _ _ ?_)
  refine Cx.cutK (ds' := []) (Sub.cons (s := 0) rfl (Sub.cons (s := 1) rfl (Sub.cons (s := 4) rfl (Sub.cons (s := 5) rfl (Sub.cons (s := 6) rfl (Sub.cons (s := 7) rfl (Sub.cons (s := 8) rfl (Sub.cons (s := 9) rfl (Sub.cons (s := 12) rfl (Sub.cons (s := 13) rfl (Sub.cons (s := 14) rfl (Sub.cons (s := 15) rfl (Sub.cons (s := 16) rfl (Sub.cons (s := 17) rfl (Sub.cons (s := 18) rfl (Sub.cons (s := 19) rfl (Sub.cons (s := 20) rfl (Sub.cons (s := 21) rfl (Sub.cons (s := 22) rfl (Sub.cons (s := 23) rfl (Sub.cons (s := 24) rfl (Sub.cons (s := 25) rfl (Sub.cons (s := 26) rfl (Sub.cons (s := 27) rfl (Sub.cons (s := 28) rfl (Sub.cons (s := 29) rfl (Sub.cons (s := 38) rfl (Sub.cons (s := 39) rfl (Sub.cons (s := 40) rfl (Sub.cons (s := 41) rfl (Sub.cons (s := 42) rfl (Sub.cons (s := 43) rfl (Sub.cons (s := 44) rfl (Sub.cons (s := 45) rfl (Sub.cons (s := 46) rfl (Sub.cons (s := 47) rfl (Sub.cons (s := 48) rfl (Sub.cons (s := 49) rfl (Sub.cons (s := 50) rfl (Sub.cons (s := 51) rfl (Sub.cons (s := 52) rfl (Sub.cons (s := 53) rfl (Sub.cons (s := 54) rfl (Sub.cons (s := 55) rfl (Sub.cons (s := 56) rfl (Sub.nil _)))))))))))))))))))))))))))))))))))))))))))))) (fun ρ' B' H' => ∃ An cn Ap cp, ρ' = [] ∧ B = B' ∧ 1 ≤ cn ∧ 1 ≤ cp ∧ sbuf 9 1 An 1 cn [str [97]] * (sbuf 25 6 Ap 1 cp [i64 2, .bool false, i64 n, str [], .slice none 0 0, .slice none 0 0] * (row b10 25 [i64 6, .bool false, i64 0, str [], .slice Ap 1 cp, .slice An 1 cn] * (row bA 76 ([str [97], i64 2, .bool false, i64 n, str [], .slice none 0 0, .slice none 0 0] ++ sp) * (row b4 25 [i64 0, .bool false, i64 0, str [], .slice none 0 0, .slice none 0 0] * R)))) = H') ?_ ?_
  · skip
    refine Cx.block ?_
    refine Cx.seq (fun K19 k19 => ?_)
    refine Cx.region ?_
    refine Lx.y (ia Tryz.underlying72 sz76 rfl rfl (show Int.toNat _ = 0 from rfl) (by decide) (by decide)) rfl ?_
    refine Lx.y (ldA Tryz.underlying76 rfl sz76 rfl (Cells.own (n := 7) PickB.eq rfl) rfl) rfl ?_
    refine Lx.new (allocO ti76) rfl (fun b13 => ?_)
    refine Lx.st (stA (d := .bool) sz76 rfl rfl rfl rfl (by show 0 + 7 ≤ 7; omega) rfl) ?_
    refine Lx.nil ?_
    refine Xx.tn (k19 _ _ _ _ ?_)
    refine Cx.drawn (by kernel_rfl) ?_
    refine Dx.p (i := 0) rfl (by kernel_rfl) (fa' fo25_5 rfl) rfl ?_
    refine Dx.r (i := 1) rfl (by kernel_rfl) (ld Tryz.underlying23 rfl rfl rfl) rfl ?_
    refine Dx.p (i := 2) rfl (by kernel_rfl) (fa' fo76_0 rfl) rfl ?_
    refine Dx.r (i := 3) rfl (by kernel_rfl) (ld Tryz.underlying9 rfl rfl rfl) rfl ?_
    refine Dx.p (i := 6) rfl (by kernel_rfl) (fa' fo25_4 rfl) rfl ?_
    refine Dx.r (i := 7) rfl (by kernel_rfl) (ld Tryz.underlying22 rfl rfl rfl) rfl ?_
    refine Dx.p (i := 8) rfl (by kernel_rfl) (fa' fo76_1 rfl) rfl ?_
    refine Dx.r (i := 9) rfl (by kernel_rfl) (ldA Tryz.underlying25 rfl sz25 rfl (Cells.own (n := 6) PickB.eq rfl) rfl) rfl ?_
    refine Dx.two (i := 4) (j := 10) (by kernel_rfl) ?_ ?_
    · skip
      refine Dstep.o (i := 4) rfl (bsl1 Tryz.underlying23 ti9 rfl rfl rfl (by decide)) rfl (fun v B' H' hΦ hB => ?_)
      obtain ⟨b144, rfl, rfl, rfl⟩ := hΦ; clear hB
      refine ⟨JOk.yes (JOk.yes (JOk.edge (JOk.yes (JOk.top) (ld Tryz.underlying23 rfl rfl rfl)) (by kernel_rfl)) (ld Tryz.underlying22 rfl rfl rfl)) (ldA Tryz.underlying25 rfl sz25 rfl (Cells.own (n := 6) PickB.eq rfl) rfl), ?_⟩
      refine Dx.two (i := 5) (j := 10) (by kernel_rfl) ?_ ?_
      · skip
        refine Dstep.o (i := 5) rfl (appN (et := 9) 1 [str [97]] [str [97]] Tryz.underlying23 Tryz.underlying23 ti9 rfl rfl rfl rfl rfl (by decide) (by decide) rfl rfl) rfl (fun v B' H' hΦ hB => ?_)
        obtain ⟨An1, An19, rfl, _, _, hcA, rfl, rfl⟩ := hΦ
        refine ⟨JOk.yes (JOk.yes (JOk.yes (JOk.edge (JOk.top) (by kernel_rfl)) (ld Tryz.underlying9 rfl rfl rfl)) (ld Tryz.underlying22 rfl rfl rfl)) (ldA Tryz.underlying25 rfl sz25 rfl (Cells.own (n := 6) PickB.eq rfl) rfl), ?_⟩
        refine Dx.p (i := 12) rfl (by kernel_rfl) (fa' fo25_5 rfl) rfl ?_
        refine Dx.one (i := 10) (by kernel_rfl) ?_
        refine Dstep.o (i := 10) rfl (bslA Tryz.underlying22 ti25 rfl rfl (by decide)) rfl (fun v B' H' hΦ hB => ?_)
        obtain ⟨b1410, rfl, rfl, rfl⟩ := hΦ; clear hB
        refine ⟨JOk.edge (JOk.yes (JOk.yes (JOk.yes (JOk.top) (ld Tryz.underlying23 rfl rfl rfl)) (ld Tryz.underlying9 rfl rfl rfl)) (ld Tryz.underlying22 rfl rfl rfl)) (by kernel_rfl), ?_⟩
        refine Dx.one (i := 11) (by kernel_rfl) ?_
        refine Dstep.o (i := 11) rfl (appN (et := 25) 1 [i64 2, .bool false, i64 n, str [], .slice none 0 0, .slice none 0 0] [i64 2, .bool false, i64 n, str [], .slice none 0 0, .slice none 0 0] Tryz.underlying22 Tryz.underlying22 ti25 rfl rfl rfl rfl rfl (by decide) (by decide) rfl rfl) rfl (fun v B' H' hΦ hB => ?_)
        obtain ⟨Ap1, Ap19, rfl, _, _, hcB, rfl, rfl⟩ := hΦ
        refine ⟨JOk.yes (JOk.edge (JOk.yes (JOk.yes (JOk.top) (ld Tryz.underlying23 rfl rfl rfl)) (ld Tryz.underlying9 rfl rfl rfl)) (by kernel_rfl)) (ldA Tryz.underlying25 rfl sz25 rfl (Cells.own (n := 6) PickB.eq rfl) rfl), ?_⟩
        refine Dx.one (i := 13) (by kernel_rfl) ?_
        refine Dstep.o0 (i := 13) rfl (stO Tryz.underlying23 sz23 rfl rfl rfl (by simp) rfl) (fun v B' H' hΦ hB => ?_)
        obtain ⟨rfl, rfl⟩ := hΦ; clear hB v
        refine ⟨JOk.yes (JOk.edge (JOk.edge (JOk.edge (JOk.top) (by kernel_rfl)) (by kernel_rfl)) (by kernel_rfl)) (ldA Tryz.underlying25 rfl sz25 rfl (Cells.own (n := 6) PickB.eq rfl) rfl), ?_⟩
        refine Dx.p (i := 14) rfl (by kernel_rfl) (fa' fo25_4 rfl) rfl ?_
        refine Dx.one (i := 15) (by kernel_rfl) ?_
        refine Dstep.o0 (i := 15) rfl (stO Tryz.underlying22 sz22 rfl rfl rfl (by simp) rfl) (fun v B' H' hΦ hB => ?_)
        obtain ⟨rfl, rfl⟩ := hΦ; clear hB v
        refine ⟨JOk.edge (JOk.edge (JOk.edge (JOk.edge (JOk.top) (by kernel_rfl)) (by kernel_rfl)) (by kernel_rfl)) (by kernel_rfl), ?_⟩
        refine Dx.done (by kernel_rfl) ?_
        refine Xx.bn ?_
        refine Xx.dropB b144 ?_
        refine Xx.dropB b1410 ?_
        refine Xx.dropB b13 ?_
        exact Xx.mkK (⟨_, _, _, _, rfl, rfl, hcA, hcB, by ac_rfl⟩) (Sub.cons (s := 0) rfl (Sub.cons (s := 1) rfl (Sub.cons (s := 4) rfl (Sub.cons (s := 5) rfl (Sub.cons (s := 6) rfl (Sub.cons (s := 7) rfl (Sub.cons (s := 8) rfl (Sub.cons (s := 9) rfl (Sub.cons (s := 12) rfl (Sub.cons (s := 13) rfl (Sub.cons (s := 14) rfl (Sub.cons (s := 15) rfl (Sub.cons (s := 16) rfl (Sub.cons (s := 17) rfl (Sub.cons (s := 18) rfl (Sub.cons (s := 19) rfl (Sub.cons (s := 20) rfl (Sub.cons (s := 21) rfl (Sub.cons (s := 22) rfl (Sub.cons (s := 23) rfl (Sub.cons (s := 24) rfl (Sub.cons (s := 25) rfl (Sub.cons (s := 26) rfl (Sub.cons (s := 27) rfl (Sub.cons (s := 28) rfl (Sub.cons (s := 29) rfl (Sub.cons (s := 38) rfl (Sub.cons (s := 39) rfl (Sub.cons (s := 40) rfl (Sub.cons (s := 41) rfl (Sub.cons (s := 42) rfl (Sub.cons (s := 43) rfl (Sub.cons (s := 44) rfl (Sub.cons (s := 45) rfl (Sub.cons (s := 46) rfl (Sub.cons (s := 47) rfl (Sub.cons (s := 48) rfl (Sub.cons (s := 49) rfl (Sub.cons (s := 50) rfl (Sub.cons (s := 51) rfl (Sub.cons (s := 52) rfl (Sub.cons (s := 53) rfl (Sub.cons (s := 54) rfl (Sub.cons (s := 55) rfl (Sub.cons (s := 56) rfl (Sub.nil _))))))))))))))))))))))))))))))))))))))))))))))
      refine Dstep.o (i := 10) rfl (bslA Tryz.underlying22 ti25 rfl rfl (by decide)) rfl (fun v B' H' hΦ hB => ?_)
      obtain ⟨b1410, rfl, rfl, rfl⟩ := hΦ; clear hB
      refine ⟨JOk.edge (JOk.yes (JOk.yes (JOk.yes (JOk.top) (ld Tryz.underlying23 rfl rfl rfl)) (ld Tryz.underlying9 rfl rfl rfl)) (ld Tryz.underlying22 rfl rfl rfl)) (by kernel_rfl), ?_⟩
      refine Dx.one (i := 5) (by kernel_rfl) ?_
      refine Dstep.o (i := 5) rfl (appN (et := 9) 1 [str [97]] [str [97]] Tryz.underlying23 Tryz.underlying23 ti9 rfl rfl rfl rfl rfl (by decide) (by decide) rfl rfl) rfl (fun v B' H' hΦ hB => ?_)
      obtain ⟨An1, An19, rfl, _, _, hcA, rfl, rfl⟩ := hΦ
      refine ⟨JOk.yes (JOk.yes (JOk.yes (JOk.edge (JOk.top) (by kernel_rfl)) (ld Tryz.underlying9 rfl rfl rfl)) (ld Tryz.underlying22 rfl rfl rfl)) (ldA Tryz.underlying25 rfl sz25 rfl (Cells.own (n := 6) PickB.eq rfl) rfl), ?_⟩
      refine Dx.p (i := 12) rfl (by kernel_rfl) (fa' fo25_5 rfl) rfl ?_
      refine Dx.one (i := 11) (by kernel_rfl) ?_
      refine Dstep.o (i := 11) rfl (appN (et := 25) 1 [i64 2, .bool false, i64 n, str [], .slice none 0 0, .slice none 0 0] [i64 2, .bool false, i64 n, str [], .slice none 0 0, .slice none 0 0] Tryz.underlying22 Tryz.underlying22 ti25 rfl rfl rfl rfl rfl (by decide) (by decide) rfl rfl) rfl (fun v B' H' hΦ hB => ?_)
      obtain ⟨Ap1, Ap19, rfl, _, _, hcB, rfl, rfl⟩ := hΦ
      refine ⟨JOk.yes (JOk.edge (JOk.yes (JOk.yes (JOk.top) (ld Tryz.underlying23 rfl rfl rfl)) (ld Tryz.underlying9 rfl rfl rfl)) (by kernel_rfl)) (ldA Tryz.underlying25 rfl sz25 rfl (Cells.own (n := 6) PickB.eq rfl) rfl), ?_⟩
      refine Dx.one (i := 13) (by kernel_rfl) ?_
      refine Dstep.o0 (i := 13) rfl (stO Tryz.underlying23 sz23 rfl rfl rfl (by simp) rfl) (fun v B' H' hΦ hB => ?_)
      obtain ⟨rfl, rfl⟩ := hΦ; clear hB v
      refine ⟨JOk.yes (JOk.edge (JOk.edge (JOk.edge (JOk.top) (by kernel_rfl)) (by kernel_rfl)) (by kernel_rfl)) (ldA Tryz.underlying25 rfl sz25 rfl (Cells.own (n := 6) PickB.eq rfl) rfl), ?_⟩
      refine Dx.p (i := 14) rfl (by kernel_rfl) (fa' fo25_4 rfl) rfl ?_
      refine Dx.one (i := 15) (by kernel_rfl) ?_
      refine Dstep.o0 (i := 15) rfl (stO Tryz.underlying22 sz22 rfl rfl rfl (by simp) rfl) (fun v B' H' hΦ hB => ?_)
      obtain ⟨rfl, rfl⟩ := hΦ; clear hB v
      refine ⟨JOk.edge (JOk.edge (JOk.edge (JOk.edge (JOk.top) (by kernel_rfl)) (by kernel_rfl)) (by kernel_rfl)) (by kernel_rfl), ?_⟩
      refine Dx.done (by kernel_rfl) ?_
      refine Xx.bn ?_
      refine Xx.dropB b144 ?_
      refine Xx.dropB b1410 ?_
      refine Xx.dropB b13 ?_
      exact Xx.mkK (⟨_, _, _, _, rfl, rfl, hcA, hcB, by ac_rfl⟩) (Sub.cons (s := 0) rfl (Sub.cons (s := 1) rfl (Sub.cons (s := 4) rfl (Sub.cons (s := 5) rfl (Sub.cons (s := 6) rfl (Sub.cons (s := 7) rfl (Sub.cons (s := 8) rfl (Sub.cons (s := 9) rfl (Sub.cons (s := 12) rfl (Sub.cons (s := 13) rfl (Sub.cons (s := 14) rfl (Sub.cons (s := 15) rfl (Sub.cons (s := 16) rfl (Sub.cons (s := 17) rfl (Sub.cons (s := 18) rfl (Sub.cons (s := 19) rfl (Sub.cons (s := 20) rfl (Sub.cons (s := 21) rfl (Sub.cons (s := 22) rfl (Sub.cons (s := 23) rfl (Sub.cons (s := 24) rfl (Sub.cons (s := 25) rfl (Sub.cons (s := 26) rfl (Sub.cons (s := 27) rfl (Sub.cons (s := 28) rfl (Sub.cons (s := 29) rfl (Sub.cons (s := 38) rfl (Sub.cons (s := 39) rfl (Sub.cons (s := 40) rfl (Sub.cons (s := 41) rfl (Sub.cons (s := 42) rfl (Sub.cons (s := 43) rfl (Sub.cons (s := 44) rfl (Sub.cons (s := 45) rfl (Sub.cons (s := 46) rfl (Sub.cons (s := 47) rfl (Sub.cons (s := 48) rfl (Sub.cons (s := 49) rfl (Sub.cons (s := 50) rfl (Sub.cons (s := 51) rfl (Sub.cons (s := 52) rfl (Sub.cons (s := 53) rfl (Sub.cons (s := 54) rfl (Sub.cons (s := 55) rfl (Sub.cons (s := 56) rfl (Sub.nil _))))))))))))))))))))))))))))))))))))))))))))))
    refine Dstep.o (i := 10) rfl (bslA Tryz.underlying22 ti25 rfl rfl (by decide)) rfl (fun v B' H' hΦ hB => ?_)
    obtain ⟨b1410, rfl, rfl, rfl⟩ := hΦ; clear hB
    refine ⟨JOk.edge (JOk.yes (JOk.yes (JOk.yes (JOk.top) (ld Tryz.underlying23 rfl rfl rfl)) (ld Tryz.underlying9 rfl rfl rfl)) (ld Tryz.underlying22 rfl rfl rfl)) (by kernel_rfl), ?_⟩
    refine Dx.one (i := 4) (by kernel_rfl) ?_
    refine Dstep.o (i := 4) rfl (bsl1 Tryz.underlying23 ti9 rfl rfl rfl (by decide)) rfl (fun v B' H' hΦ hB => ?_)
    obtain ⟨b144, rfl, rfl, rfl⟩ := hΦ; clear hB
    refine ⟨JOk.yes (JOk.yes (JOk.edge (JOk.yes (JOk.top) (ld Tryz.underlying23 rfl rfl rfl)) (by kernel_rfl)) (ld Tryz.underlying22 rfl rfl rfl)) (ldA Tryz.underlying25 rfl sz25 rfl (Cells.own (n := 6) PickB.eq rfl) rfl), ?_⟩
    refine Dx.one (i := 5) (by kernel_rfl) ?_
    refine Dstep.o (i := 5) rfl (appN (et := 9) 1 [str [97]] [str [97]] Tryz.underlying23 Tryz.underlying23 ti9 rfl rfl rfl rfl rfl (by decide) (by decide) rfl rfl) rfl (fun v B' H' hΦ hB => ?_)
    obtain ⟨An1, An19, rfl, _, _, hcA, rfl, rfl⟩ := hΦ
    refine ⟨JOk.yes (JOk.yes (JOk.yes (JOk.edge (JOk.top) (by kernel_rfl)) (ld Tryz.underlying9 rfl rfl rfl)) (ld Tryz.underlying22 rfl rfl rfl)) (ldA Tryz.underlying25 rfl sz25 rfl (Cells.own (n := 6) PickB.eq rfl) rfl), ?_⟩
    refine Dx.p (i := 12) rfl (by kernel_rfl) (fa' fo25_5 rfl) rfl ?_
    refine Dx.one (i := 11) (by kernel_rfl) ?_
    refine Dstep.o (i := 11) rfl (appN (et := 25) 1 [i64 2, .bool false, i64 n, str [], .slice none 0 0, .slice none 0 0] [i64 2, .bool false, i64 n, str [], .slice none 0 0, .slice none 0 0] Tryz.underlying22 Tryz.underlying22 ti25 rfl rfl rfl rfl rfl (by decide) (by decide) rfl rfl) rfl (fun v B' H' hΦ hB => ?_)
    obtain ⟨Ap1, Ap19, rfl, _, _, hcB, rfl, rfl⟩ := hΦ
    refine ⟨JOk.yes (JOk.edge (JOk.yes (JOk.yes (JOk.top) (ld Tryz.underlying23 rfl rfl rfl)) (ld Tryz.underlying9 rfl rfl rfl)) (by kernel_rfl)) (ldA Tryz.underlying25 rfl sz25 rfl (Cells.own (n := 6) PickB.eq rfl) rfl), ?_⟩
    refine Dx.one (i := 13) (by kernel_rfl) ?_
    refine Dstep.o0 (i := 13) rfl (stO Tryz.underlying23 sz23 rfl rfl rfl (by simp) rfl) (fun v B' H' hΦ hB => ?_)
    obtain ⟨rfl, rfl⟩ := hΦ; clear hB v
    refine ⟨JOk.yes (JOk.edge (JOk.edge (JOk.edge (JOk.top) (by kernel_rfl)) (by kernel_rfl)) (by kernel_rfl)) (ldA Tryz.underlying25 rfl sz25 rfl (Cells.own (n := 6) PickB.eq rfl) rfl), ?_⟩
    refine Dx.p (i := 14) rfl (by kernel_rfl) (fa' fo25_4 rfl) rfl ?_
    refine Dx.one (i := 15) (by kernel_rfl) ?_
    refine Dstep.o0 (i := 15) rfl (stO Tryz.underlying22 sz22 rfl rfl rfl (by simp) rfl) (fun v B' H' hΦ hB => ?_)
    obtain ⟨rfl, rfl⟩ := hΦ; clear hB v
    refine ⟨JOk.edge (JOk.edge (JOk.edge (JOk.edge (JOk.top) (by kernel_rfl)) (by kernel_rfl)) (by kernel_rfl)) (by kernel_rfl), ?_⟩
    refine Dx.done (by kernel_rfl) ?_
    refine Xx.bn ?_
    refine Xx.dropB b144 ?_
    refine Xx.dropB b1410 ?_
    refine Xx.dropB b13 ?_
    exact Xx.mkK (⟨_, _, _, _, rfl, rfl, hcA, hcB, by ac_rfl⟩) (Sub.cons (s := 0) rfl (Sub.cons (s := 1) rfl (Sub.cons (s := 4) rfl (Sub.cons (s := 5) rfl (Sub.cons (s := 6) rfl (Sub.cons (s := 7) rfl (Sub.cons (s := 8) rfl (Sub.cons (s := 9) rfl (Sub.cons (s := 12) rfl (Sub.cons (s := 13) rfl (Sub.cons (s := 14) rfl (Sub.cons (s := 15) rfl (Sub.cons (s := 16) rfl (Sub.cons (s := 17) rfl (Sub.cons (s := 18) rfl (Sub.cons (s := 19) rfl (Sub.cons (s := 20) rfl (Sub.cons (s := 21) rfl (Sub.cons (s := 22) rfl (Sub.cons (s := 23) rfl (Sub.cons (s := 24) rfl (Sub.cons (s := 25) rfl (Sub.cons (s := 26) rfl (Sub.cons (s := 27) rfl (Sub.cons (s := 28) rfl (Sub.cons (s := 29) rfl (Sub.cons (s := 38) rfl (Sub.cons (s := 39) rfl (Sub.cons (s := 40) rfl (Sub.cons (s := 41) rfl (Sub.cons (s := 42) rfl (Sub.cons (s := 43) rfl (Sub.cons (s := 44) rfl (Sub.cons (s := 45) rfl (Sub.cons (s := 46) rfl (Sub.cons (s := 47) rfl (Sub.cons (s := 48) rfl (Sub.cons (s := 49) rfl (Sub.cons (s := 50) rfl (Sub.cons (s := 51) rfl (Sub.cons (s := 52) rfl (Sub.cons (s := 53) rfl (Sub.cons (s := 54) rfl (Sub.cons (s := 55) rfl (Sub.cons (s := 56) rfl (Sub.nil _))))))))))))))))))))))))))))))))))))))))))))))
  · rintro ρ' B' H' ⟨An, cn, Ap, cp, rfl, rfl, hcn, hcp, rfl⟩
    refine Cx.region ?_
    refine Lx.y (Yx.val (add rfl rfl (show IntKind.i64.wrap _ = _ from rfl)) (show _ = i64 1 from rfl)) rfl ?_
    refine Lx.y (mv rfl) rfl ?_
    refine Lx.nil ?_
    refine Xx.tn ?_
    refine Xx.rn ?_
    refine Cx.seq (fun K20 k20 => ?_)
    refine Cx.region ?_
    refine Lx.y (Yx.ff (lss rfl rfl) (by decide)) rfl ?_
    refine Lx.nil ?_
    refine Xx.tn (k20 _ _ _ _ ?_)
    refine Cx.seq (fun K21 k21 => ?_)
    refine Cx.condF rfl ?_
    refine Cx.exit ?_
    refine Xx.te ?_
    refine Xx.te ?_
    refine Xx.bh ?_
    refine Xx.tn (k15 _ _ _ _ ?_)
    refine Cx.seq (fun K22 k22 => ?_)
    refine Cx.region ?_
    refine Lx.y (ldA Tryz.underlying25 rfl sz25 rfl (Cells.own (n := 6) PickB.eq rfl) rfl) rfl ?_
    refine Lx.st (stA (d := .bool) sz25 rfl rfl rfl rfl (by show 0 + 6 ≤ 6; omega) rfl) ?_
    refine Lx.nil ?_
    refine Xx.tn (k22 _ _ _ _ ?_)
    refine Cx.ret ?_
    refine Xx.freezeT Ap fun B3 hB3 hRo hnc3 _ => ?_
    refine Xx.freezeT An fun B4 hB4 hRo4 hnc4 _ => ?_
    refine Xx.dropB b10 ?_
    refine Xx.dropB bA ?_
    exact Xx.rBa rfl Tryz.underlying25 rfl sz25 rfl rfl ⟨_, rfl, VA_R h1 h2 hRo hRo4 hB4 hcn hcp⟩ (Frag.le_trans hB3 hB4)
end RgB
end Go.Proofs.YtdidpocakipinaaGreatDoor

/-
  Iterators whose things are told with what is there when they come.
-/
namespace Go.SL
open Go.RowKit
set_option linter.unusedVariables false
set_option linter.unusedSimpArgs false
/-- An iterator's contract: what it hands to yield is told as it comes: Adm: what may have come so far; Fn: all that came. -/
def ItG (P : Program) (gf : FuncId) (caps : List Value) {α : Type} (enc : α → List Value) (Adm : List α → Frag → Prop) (Fn : List α → Prop) (B : Frag) (own : HP) : Prop :=
  (∀ args w, (callFunc gf args).run P w = .ok (.enter gf args) w) ∧
  ∀ (l : Nat) (J Jx : List α → Frag → HP → Prop),
    (∀ pre x B0 B1 H1, Adm (pre ++ [x]) B1 → B.le B0 → B0.le B1 → J pre B0 H1 → Yd P l (enc x) B1 H1 fun t B' H' => (t = true ∧ J (pre ++ [x]) B' H') ∨ (t = false ∧ Jx (pre ++ [x]) B' H')) →
    ∀ B1 H1, B.le B1 → J [] B1 H1 → Ct P gf (.func (.yield l) #[] #[] :: caps) B1 (own * H1) fun v B' H' => ∃ H2, H' = own * H2 ∧ ((∃ xs, Fn xs ∧ J xs B' H2) ∨ ∃ pre, Jx pre B' H2)

section
variable {e : Env} {ds : List Deferred} {Q : Exit → Act → World → Prop} {ρ ρ' : Sl} {B B' B0 B1 : Frag} {H H' R : HP} {K : Act → World → Prop} {P : Program} {α : Type}
/-- A range over a function, outside of every other one. -/
theorem Cx.rangeGF {g : Operand} {ps : Array Tmp} {assign body : Code} {gf : FuncId} {caps : List Value} {enc : α → List Value} {Adm : List α → Frag → Prop} {Fn : List α → Prop} {own H1 R : HP}
    (hr : e.r = none) (hg : ev ρ g = some (.func (.func gf) #[] caps.toArray)) (hIt : ItG e.P gf caps enc Adm Fn B own) (hH : H = own * (H1 * R)) (hnt : ps.toList.all (fun p => Nat.blt p e.nt) = true) (hps : ∀ x, (enc x).length = ps.size)
    (J : List α → Frag → HP → Prop) (Jx : Code → List α → Frag → HP → Prop) (AS : List α → α → Frag → Sl → Frag → HP → Prop) (h0 : J [] B H1)
    (hassign : ∀ (l N0 : Nat) (w0 : World) pre x B0 B1 H1 (F : HP) (K : Act → World → Prop), Adm (pre ++ [x]) B1 → B.le B0 → B0.le B1 → J pre B0 H1 →
      (∀ ρ' B' H', AS pre x B1 ρ' B' H' → B1.le B' → Xx ⟨e.P, some l, N0, w0, e.nt⟩ [] K ρ' B' (H' * F)) →
      Cx ⟨e.P, some l, N0, w0, e.nt⟩ [] assign (Exit.then K (fun _ _ _ => False)) (asgn ps.toList (enc x) ρ) B1 (H1 * F))
    (hbody : ∀ (l N0 : Nat) (w0 : World) pre x B1 (F : HP) ρ' B' H', Adm (pre ++ [x]) B1 → B.le B1 → B1.le B' → AS pre x B1 ρ' B' H' → Cx ⟨e.P, some l, N0, w0, e.nt⟩ [] body (RQ N0 w0 B1 J Jx (pre ++ [x]) F) ρ' B' (H' * F))
    (hdone : ∀ D xs B' H', Fn xs → B.le B' → J xs B' H' → Xx e (mark D :: ds) (Q .normal) ρ B' (H' * (blk D dfr * (own * R))))
    (hstop : ∀ D c pre B' H', B.le B' → Jx c pre B' H' → Cx e (mark D :: ds) c Q ρ B' (H' * (blk D dfr * (own * R)))) :
    Cx e ds (.rangeFunc g ps assign body) Q ρ B H := by
  intro a w f b s
  refine wpIn_rangeFunc ?_
  intro fn _
  have hgv := f.ev _ _ hg
  have s1 := (s.alloc dfr).alloc (.loop (mkRec fn a.tmps ps assign body w.heap.size .ready none))
  have b1 : Below e.N0 e.w0 ((w.alloc dfr).alloc (.loop (mkRec fn a.tmps ps assign body w.heap.size .ready none))) := (b.alloc s.sz _).alloc (s.alloc dfr).sz _
  rw [World.size_alloc, hH] at s1
  -- the loop's record l, the block D
  generalize hl : w.heap.size + 1 = l at *
  generalize hD : w.heap.size = D at *
  generalize hw1 : (w.alloc dfr).alloc (.loop (mkRec fn a.tmps ps assign body D .ready none)) = w1 at *
  have s2 : St e.N0 B ((own * (H1 * (blk l (.loop (mkRec fn a.tmps ps assign body D .ready none)) * blk D dfr))) * R) w1 := by
    exact s1.of_eq (by ac_rfl)
  have heg := hIt.1 #[.func (.yield l) #[] #[], ] w1
  let J' : List α → Frag → HP → Prop := fun pre B' H' => ∃ H1, H' = H1 * (blk l (.loop (mkRec fn a.tmps ps assign body D .ready none)) * blk D dfr) ∧ J pre B' H1
  let Jx' : List α → Frag → HP → Prop := fun pre B' H' => ∃ c H1, H' = H1 * (blk l (.loop (mkRec fn a.tmps ps assign body D .done (some c))) * blk D dfr) ∧ Jx c pre B' H1
  have hct := hIt.2 l J' Jx' ?round B _ (Frag.le_refl _) ⟨H1, rfl, h0⟩
  case round =>
    rintro pre x B0 B1 _ hxs hB0 hB01 ⟨H2, rfl, hJ⟩ N0 wy Rf sy
    have hB1 := Frag.le_trans hB0 hB01
    have hrl : wy.heap[l]? = some (.loop (mkRec fn a.tmps ps assign body D .ready none)) := by
      have : St N0 B1 (blk l (.loop (mkRec fn a.tmps ps assign body D .ready none)) * (H2 * (blk D dfr * Rf))) wy := sy.of_eq (by ac_rfl)
      exact this.blk.1
    have hy := run_yield (P := e.P) (args := (enc x).toArray) hrl (by simpa using hps x)
    refine ⟨fn, _, assign, body, hy, roundIn_of_wpIn trivial ?_⟩
    have hfr := asgn_fr (nt := e.nt) ps.toList (enc x) ρ a.tmps hnt ⟨f.size, f.get, rfl⟩
    have hzip : (ps.zip (enc x).toArray).foldl (fun tmps (t, a) => tmps.setIfInBounds t a) a.tmps = (ps.toList.zip (enc x)).foldl (fun t (y : Tmp × Value) => t.setIfInBounds y.1 y.2) a.tmps := by
      rw [← Array.foldl_toList, Array.toList_zip]
    show Code.wpIn (FW (some l)) 0 e.P assign _ { tmps := (ps.zip (enc x).toArray).foldl (fun tmps (t, a) => tmps.setIfInBounds t a) a.tmps, defers := [] } wy
    rw [hzip]
    refine hassign l N0 wy pre x B0 B1 H2 ((blk l (.loop (mkRec fn a.tmps ps assign body D .ready none)) * blk D dfr) * Rf) _ hxs hB0 hB01 hJ ?_ _ wy hfr (Below.refl _ _) (by rw [← star_assoc]; exact sy)
    intro ρ' B' H' hAS hB' a1 wa fa ba sa
    have sa' : St N0 B' (blk l (.loop (mkRec fn a.tmps ps assign body D .ready none)) * (H' * (blk D dfr * Rf))) wa := sa.of_eq (by ac_rfl)
    have hbr := run_beginRound (P := e.P) sa'.blk.1 rfl
    refine ⟨_, hbr, ?_⟩
    have sb := sa'.putObj (o' := .loop { mkRec fn a.tmps ps assign body D .ready none with state := .busy })
    have sb2 : St N0 B' (H' * ((blk l (.loop { mkRec fn a.tmps ps assign body D .ready none with state := .busy }) * blk D dfr) * Rf)) (wa.putObj l (.loop { mkRec fn a.tmps ps assign body D .ready none with state := .busy })) := sb.1.of_eq (by ac_rfl)
    refine wpIn_mono (hbody l N0 wy pre x B1 _ ρ' B' H' hxs hB1 hB' hAS a1 _ fa (ba.trans sb.2) sb2) ?_
    have fin : ∀ (jump : Option Code) (w3 : World) B3 H3, St N0 B3 (H3 * ((blk l (.loop { mkRec fn a.tmps ps assign body D .ready none with state := .busy }) * blk D dfr) * Rf)) w3 →
        (Instr.endRound l jump).run e.P w3 = .ok (.bool jump.isNone) (w3.putObj l (.loop (mkRec fn a.tmps ps assign body D (if jump.isNone then .ready else .done) jump))) ∧ Below N0 w3 (w3.putObj l (.loop (mkRec fn a.tmps ps assign body D (if jump.isNone then .ready else .done) jump))) ∧
        St N0 B3 ((H3 * (blk l (.loop (mkRec fn a.tmps ps assign body D (if jump.isNone then .ready else .done) jump)) * blk D dfr)) * Rf) (w3.putObj l (.loop (mkRec fn a.tmps ps assign body D (if jump.isNone then .ready else .done) jump))) := by
      intro jump w3 B3 H3 s3
      have s3' : St N0 B3 (blk l (.loop { mkRec fn a.tmps ps assign body D .ready none with state := .busy }) * (H3 * (blk D dfr * Rf))) w3 := s3.of_eq (by ac_rfl)
      have h1 := run_endRound (P := e.P) jump s3'.blk.1
      have h2 := s3'.putObj (o' := .loop (mkRec fn a.tmps ps assign body D (if jump.isNone then .ready else .done) jump))
      refine ⟨h1, h2.2, h2.1.of_eq (by ac_rfl)⟩
    rintro x3 a3 w3 hp
    cases x3 with
    | normal =>
      obtain ⟨B3, H3, hJ3, hB3, b3, s3⟩ := hp
      obtain ⟨h1, h2, h3⟩ := fin none w3 B3 H3 s3
      exact ⟨_, _, h1, true, B3, _, rfl, .inl ⟨rfl, H3, rfl, hJ3⟩, hB3, b3.trans h2, h3⟩
    | ret =>
      obtain ⟨B3, H3, hJ3, hB3, b3, s3⟩ := hp
      obtain ⟨h1, h2, h3⟩ := fin (some .ret) w3 B3 H3 s3
      exact ⟨_, _, h1, false, B3, _, rfl, .inr ⟨rfl, _, H3, rfl, hJ3⟩, hB3, b3.trans h2, h3⟩
    | exit id =>
      obtain ⟨B3, H3, hJ3, hB3, b3, s3⟩ := hp
      obtain ⟨h1, h2, h3⟩ := fin (some (.exit id)) w3 B3 H3 s3
      exact ⟨_, _, h1, false, B3, _, rfl, .inr ⟨rfl, _, H3, rfl, hJ3⟩, hB3, b3.trans h2, h3⟩
    | goto t => exact hp.elim
    | panic ch => exact hp.elim
    | outgrown => exact hp.elim
  refine ⟨l, [mark D], w1, { target := .fn (.func gf) caps.toArray, args := #[.func (.yield l) #[] #[]] }, w1, gf, (.func (.yield l) #[] #[] :: caps).toArray, w1, ?_, ?_, fun _ _ => trivial, ?_, fun h => by simp [FW] at h, ?_⟩
  · have : (FW e.r).round = none := hr
    rw [this, ← hw1, ← hl]
    have := run_enterLoop_outer (P := e.P) (w := w) fn a.tmps ps assign body
    rw [hD] at this
    exact this
  · simp only [resolve, hgv, Deferred.ofValue]
    simp [Act.eval]
  · simp only [invoke]
    have := hIt.1 (#[.func (.yield l) #[] #[]] ++ caps.toArray) w1
    simpa using this
  · refine callsIn_FW.2 ((hct.2 e.N0 w1 R s2).mono ?_)
    rintro y w2 ⟨v, B', _, rfl, ⟨H2, rfl, (⟨xs, hxs, H3, rfl, hJ⟩ | ⟨pre, c, H3, rfl, hJ⟩)⟩, hB', b2, s3⟩
    · have s3' : St e.N0 B' (blk l (.loop (mkRec fn a.tmps ps assign body D .ready none)) * (H3 * (blk D dfr * (own * R)))) w2 := s3.of_eq (by ac_rfl)
      have h1 := run_endLoop (P := e.P) s3'.blk.1 (by simp)
      have h2 := s3'.putObj (o' := .loop { mkRec fn a.tmps ps assign body D .ready none with state := .exhausted })
      refine ⟨none, _, h1, ?_⟩
      exact hdone D xs B' H3 hxs hB' hJ _ _ ⟨f.size, f.get, by simp [f.defers]⟩ ((b1.trans b2).trans h2.2) h2.1.drop
    · have s3' : St e.N0 B' (blk l (.loop (mkRec fn a.tmps ps assign body D .done (some c))) * (H3 * (blk D dfr * (own * R)))) w2 := s3.of_eq (by ac_rfl)
      have h1 := run_endLoop (P := e.P) s3'.blk.1 (by simp)
      have h2 := s3'.putObj (o' := .loop { mkRec fn a.tmps ps assign body D .done (some c) with state := .exhausted })
      refine ⟨some c, _, h1, ?_⟩
      exact hstop D c pre B' H3 hB' hJ _ _ ⟨f.size, f.get, by simp [f.defers]⟩ ((b1.trans b2).trans h2.2) h2.1.drop

/-- The same; σ: slots that the rounds may look at. -/
theorem Cx.rangeG {g : Operand} {ps : Array Tmp} {assign body : Code} {gf : FuncId} {caps : List Value} {enc : α → List Value} {Adm : List α → Frag → Prop} {Fn : List α → Prop} {own H1 R : HP} {σ : Sl} (hσ : Sub ρ σ)
    (hr : e.r = none) (hg : ev ρ g = some (.func (.func gf) #[] caps.toArray)) (hIt : ItG e.P gf caps enc Adm Fn B own) (hH : H = own * (H1 * R)) (hnt : ps.toList.all (fun p => Nat.blt p e.nt) = true) (hps : ∀ x, (enc x).length = ps.size)
    (J : List α → Frag → HP → Prop) (Jx : Code → List α → Frag → HP → Prop) (AS : List α → α → Frag → Sl → Frag → HP → Prop) (h0 : J [] B H1)
    (hassign : ∀ (l N0 : Nat) (w0 : World) pre x B0 B1 H1 (F : HP) (K : Act → World → Prop), Adm (pre ++ [x]) B1 → B.le B0 → B0.le B1 → J pre B0 H1 →
      (∀ ρ' B' H', AS pre x B1 ρ' B' H' → B1.le B' → Xx ⟨e.P, some l, N0, w0, e.nt⟩ [] K (ρ' ++ σ) B' (H' * F)) →
      Cx ⟨e.P, some l, N0, w0, e.nt⟩ [] assign (Exit.then K (fun _ _ _ => False)) (asgn ps.toList (enc x) ρ) B1 (H1 * F))
    (hbody : ∀ (l N0 : Nat) (w0 : World) pre x B1 (F : HP) ρ' B' H', Adm (pre ++ [x]) B1 → B.le B1 → B1.le B' → AS pre x B1 ρ' B' H' → Cx ⟨e.P, some l, N0, w0, e.nt⟩ [] body (RQ N0 w0 B1 J Jx (pre ++ [x]) F) (ρ' ++ σ) B' (H' * F))
    (hdone : ∀ D xs B' H', Fn xs → B.le B' → J xs B' H' → Xx e (mark D :: ds) (Q .normal) ρ B' (H' * (blk D dfr * (own * R))))
    (hstop : ∀ D c pre B' H', B.le B' → Jx c pre B' H' → Cx e (mark D :: ds) c Q ρ B' (H' * (blk D dfr * (own * R)))) :
    Cx e ds (.rangeFunc g ps assign body) Q ρ B H :=
  Cx.rangeGF hr hg hIt hH hnt hps J Jx (fun pre x B1 ρ' B' H' => ∃ ρ'', ρ' = ρ'' ++ σ ∧ AS pre x B1 ρ'' B' H') h0
    (fun l N0 w0 pre x B0 B1 H1 F K hxs hB0 hB01 hJ hK => hassign l N0 w0 pre x B0 B1 H1 F K hxs hB0 hB01 hJ fun ρ' B' H' hAS hB' => hK _ B' H' ⟨ρ', rfl, hAS⟩ hB')
    (fun l N0 w0 pre x B1 F ρ' B' H' hxs hB1 hB' ⟨ρ'', h1, hAS⟩ => by subst h1; exact hbody l N0 w0 pre x B1 F ρ'' B' H' hxs hB1 hB' hAS) hdone hstop

end
end Go.SL

/-
  A value of its own.
-/
namespace Go.Proofs.YtdidpocakipinaaGreatDoor
open Go.SL Go.RowKit
set_option linter.unusedVariables false
set_option linter.unusedSimpArgs false
set_option maxRecDepth 100000
open Ke1 Ke3 Ke4 Ke5 Ke6 Ke7 Ke8 Ke9 KeA KeB KeC KeD KeE KeF KeG KeI RgA RgB
namespace RwA
theorem sz22 : (Tryz.prog.info? 22).map (·.size) = some 1 := by kernel_rfl
theorem sz23 : (Tryz.prog.info? 23).map (·.size) = some 1 := by kernel_rfl
theorem sz25 : (Tryz.prog.info? 25).map (·.size) = some 6 := by kernel_rfl
theorem ti9 : TI Tryz.prog 9 [str []] 1 16 := TI.of (by kernel_rfl) rfl rfl
theorem ti25 : TI Tryz.prog 25 [.int .i64 0, .bool false, .int .i64 0, str [], .slice none 0 0, .slice none 0 0] 6 88 := TI.of (by kernel_rfl) rfl rfl
theorem fo25_4 : FO Tryz.prog 25 4 4 1 false := FO.of Tryz.underlying25 rfl rfl (by kernel_rfl) Tryz.underlying22 rfl rfl
theorem fo25_5 : FO Tryz.prog 25 5 5 1 false := FO.of Tryz.underlying25 rfl rfl (by kernel_rfl) Tryz.underlying23 rfl rfl

set_option maxHeartbeats 1000000 in
theorem CloneST_ct (A : Option Addr) (n c : Nat) (news : List Value) (B : Frag) (hR : n = 0 ∧ news = [] ∨ RoS B 1 A n news) (h1 : news.all (·.oneCell') = true) (hbd : n ≤ 1000000) : Ct Tryz.prog 59 [.slice A n c] B 1 (fun v B' H' => B' = B ∧ ∃ A' c', v = .slice A' n c' ∧ H' = sbuf 9 1 A' n c' news ∧ n ≤ c') := by
  refine Ct.of_body Tryz.func59 rfl (nt := 8) rfl (by kernel_rfl) rfl ?_
  intro N0 w0 R
  rw [one_star]
  refine Cx.seq (fun K1 k1 => ?_)
  refine Cx.region ?_
  refine Lx.y (asg rfl) rfl ?_
  refine Lx.nil ?_
  refine Xx.tn (k1 _ _ _ _ ?_)
  refine Cx.seq (fun K2 k2 => ?_)
  refine Cx.seq (fun K3 k3 => ?_)
  refine Cx.region ?_
  refine Lx.y (mv rfl) rfl ?_
  refine Lx.y (eqNilV Tryz.underlying23 rfl rfl) rfl ?_
  refine Lx.nil ?_
  refine Xx.tn (k3 _ _ _ _ ?_)
  refine Cx.condB rfl (fun h4 => ?_) (fun h4 => ?_)
  · skip
    have hA : A = none := by simpa using h4
    obtain ⟨rfl, rfl⟩ : n = 0 ∧ news = [] := by
      rcases hR with hz | ⟨hl, ⟨_, hz⟩ | ⟨b, o, _, _, _, hb, _⟩⟩
      · exact hz
      · subst hz; exact ⟨rfl, by simpa using hl⟩
      · rw [hA] at hb; cases hb
    refine Cx.seq (fun K5 k5 => ?_)
    refine Cx.region ?_
    refine Lx.y (asg rfl) rfl ?_
    refine Lx.nil ?_
    refine Xx.tn (k5 _ _ _ _ ?_)
    refine Cx.ret ?_
    refine Xx.tr ?_
    exact Xx.ret1 rfl rfl ⟨rfl, none, 0, rfl, rfl, Nat.le_refl _⟩ (Frag.le_refl _) (by rw [sbuf_nil, one_star])
  · skip
    skip
    refine Cx.skip ?_
    refine Xx.tn (k2 _ _ _ _ ?_)
    refine Cx.seq (fun K6 k6 => ?_)
    refine Cx.region ?_
    refine Lx.o (bslZ Tryz.underlying23 ti9) rfl (fun v B' H' hΦ hB => ?_)
    obtain ⟨b0, rfl, hBB, rfl⟩ := hΦ
    subst hBB
    rename Frag => B
    clear hB
    refine Lx.y (mv rfl) rfl ?_
    refine Lx.o (appC (et := 9) Tryz.underlying23 Tryz.underlying23 ti9 rfl rfl hR h1 (by omega) (by omega)) rfl (fun v B' H' hΦ hB => ?_)
    obtain ⟨A3, c3, rfl, hc3, hBB, rfl⟩ := hΦ
    subst hBB
    rename Frag => B
    clear hB
    refine Lx.y (asg rfl) rfl ?_
    refine Lx.nil ?_
    refine Xx.tn (k6 _ _ _ _ ?_)
    refine Cx.ret ?_
    exact Xx.ret1 rfl rfl ⟨rfl, A3, c3, rfl, rfl, hc3⟩ (Frag.le_refl _) rfl

set_option maxHeartbeats 1000000 in
theorem CloneV_ct (A : Option Addr) (n c : Nat) (news : List Value) (B : Frag) (hR : n = 0 ∧ news = [] ∨ RoS B 6 A n news) (h1 : news.all (·.oneCell') = true) (hbd : n ≤ 1000000) : Ct Tryz.prog 60 [.slice A n c] B 1 (fun v B' H' => B' = B ∧ ∃ A' c', v = .slice A' n c' ∧ H' = sbuf 25 6 A' n c' news ∧ n ≤ c') := by
  refine Ct.of_body Tryz.func60 rfl (nt := 8) rfl (by kernel_rfl) rfl ?_
  intro N0 w0 R
  rw [one_star]
  refine Cx.seq (fun K1 k1 => ?_)
  refine Cx.region ?_
  refine Lx.y (asg rfl) rfl ?_
  refine Lx.nil ?_
  refine Xx.tn (k1 _ _ _ _ ?_)
  refine Cx.seq (fun K2 k2 => ?_)
  refine Cx.seq (fun K3 k3 => ?_)
  refine Cx.region ?_
  refine Lx.y (mv rfl) rfl ?_
  refine Lx.y (eqNilV Tryz.underlying22 rfl rfl) rfl ?_
  refine Lx.nil ?_
  refine Xx.tn (k3 _ _ _ _ ?_)
  refine Cx.condB rfl (fun h4 => ?_) (fun h4 => ?_)
  · skip
    have hA : A = none := by simpa using h4
    obtain ⟨rfl, rfl⟩ : n = 0 ∧ news = [] := by
      rcases hR with hz | ⟨hl, ⟨_, hz⟩ | ⟨b, o, _, _, _, hb, _⟩⟩
      · exact hz
      · subst hz; exact ⟨rfl, by simpa using hl⟩
      · rw [hA] at hb; cases hb
    refine Cx.seq (fun K5 k5 => ?_)
    refine Cx.region ?_
    refine Lx.y (asg rfl) rfl ?_
    refine Lx.nil ?_
    refine Xx.tn (k5 _ _ _ _ ?_)
    refine Cx.ret ?_
    refine Xx.tr ?_
    exact Xx.ret1 rfl rfl ⟨rfl, none, 0, rfl, rfl, Nat.le_refl _⟩ (Frag.le_refl _) (by rw [sbuf_nil, one_star])
  · skip
    skip
    refine Cx.skip ?_
    refine Xx.tn (k2 _ _ _ _ ?_)
    refine Cx.seq (fun K6 k6 => ?_)
    refine Cx.region ?_
    refine Lx.o (bslZ Tryz.underlying22 ti25) rfl (fun v B' H' hΦ hB => ?_)
    obtain ⟨b0, rfl, hBB, rfl⟩ := hΦ
    subst hBB
    rename Frag => B
    clear hB
    refine Lx.y (mv rfl) rfl ?_
    refine Lx.o (appC (et := 25) Tryz.underlying22 Tryz.underlying22 ti25 rfl rfl hR h1 (by omega) (by omega)) rfl (fun v B' H' hΦ hB => ?_)
    obtain ⟨A3, c3, rfl, hc3, hBB, rfl⟩ := hΦ
    subst hBB
    rename Frag => B
    clear hB
    refine Lx.y (asg rfl) rfl ?_
    refine Lx.nil ?_
    refine Xx.tn (k6 _ _ _ _ ?_)
    refine Cx.ret ?_
    exact Xx.ret1 rfl rfl ⟨rfl, A3, c3, rfl, rfl, hc3⟩ (Frag.le_refl _) rfl

theorem strs_all2 (l : List (List UInt8)) : (l.map str).all (·.oneCell') = true := by
  rw [List.all_eq_true]; intro v hv; obtain ⟨x, _, rfl⟩ := List.mem_map.1 hv; rfl
theorem frzS {N0 : Nat} {B : Frag} {et : TypeId} {size n c : Nat} {A : Option Addr} {xs : List Value} {R : HP} {w : World} (s : St N0 B (sbuf et size A n c xs * R) w) : ∃ B', B.le B' ∧ RoS B' size A n xs ∧ St N0 B' R w := by
  rcases s.cases_sbuf with ⟨e1, e2, e3, e4, s'⟩ | ⟨b, sp, e1, e2, e3, e4, s'⟩
  · subst e1 e2 e4; exact ⟨B, Frag.le_refl _, RoS.nil _ _, s'⟩
  · have hb := s'.blk
    have hf := s'.freeze
    refine ⟨_, hf.2, ⟨e2, .inr ⟨b, 0, xs ++ sp, et, (0, 0), e1, by simp [Frag.un, Frag.one, hb.2.1], ?_⟩⟩, hf.1⟩
    rw [List.drop_zero, ← e2, List.take_left]
theorem roe_ros {B : Frag} {A : Option Addr} {n : Nat} {xs : List Value} (h : RoE B A n xs) : n = 0 ∧ xs = [] ∨ RoS B 1 A n xs := by
  obtain ⟨hl, he⟩ := h
  by_cases h0 : n = 0
  · subst h0; exact .inl ⟨rfl, by simpa using hl⟩
  · obtain ⟨b, o, cs, et, fz, hA, hB, _⟩ := he 0 (by omega)
    refine .inr ⟨by simp [hl], .inr ⟨b, o, cs, et, fz, hA, hB, ?_⟩⟩
    apply List.ext_getElem?
    intro j
    rw [List.getElem?_take, List.getElem?_drop]
    by_cases hj : j < n
    · rw [if_pos (by omega)]
      obtain ⟨b', o', cs', et', fz', hA', hB', hv⟩ := he j hj
      rw [hA] at hA'
      cases hA'
      rw [hB] at hB'
      injection hB' with hB'
      injection hB' with e1
      have e2 : cs = cs' := by have := congrArg Array.toList e1; simpa using this
      rw [e2, ← hv, Nat.mul_one]
    · rw [if_neg (by omega), List.getElem?_eq_none (by omega)]
theorem vcs_one (v : V) (Ap : Option Addr) (cp : Nat) (An : Option Addr) (cn : Nat) : (vcs v Ap cp An cn).all (·.oneCell') = true := rfl
theorem blocks_one {ys : List Value} {n : Nat} (hl : ys.length = n * 6) (h : ∀ k, k < n → ((ys.drop (k * 6)).take 6).all (·.oneCell') = true) : ys.all (·.oneCell') = true := by
  rw [List.all_eq_true]
  intro x hx
  obtain ⟨j, hj, rfl⟩ := List.getElem_of_mem hx
  have h1 := h (j / 6) (by omega)
  rw [List.all_eq_true] at h1
  refine h1 _ (List.mem_of_getElem? (i := j % 6) ?_)
  rw [List.getElem?_take, if_pos (by omega), List.getElem?_drop, show j / 6 * 6 + j % 6 = j by omega, List.getElem?_eq_getElem]
theorem parts_ros {B : Frag} {d : Nat} {v : V} {Ap : Option Addr} (h : ∀ i (h : i < v.parts.length), ∃ b o l et fz xs, Ap = some ⟨b, o, none⟩ ∧ B b = some (.cells (List.toArray l) et fz) ∧ (l.drop (o + i * 6)).take 6 = xs ∧ ValR B d v.parts[i] xs) :
    ∃ ys : List Value, ys.length = v.parts.length * 6 ∧ (v.parts.length = 0 ∧ ys = [] ∨ RoS B 6 Ap v.parts.length ys) ∧ ys.all (·.oneCell') = true ∧ ∀ k (hk : k < v.parts.length), ValR B d v.parts[k] ((ys.drop (k * 6)).take 6) := by
  by_cases h0 : v.parts.length = 0
  · exact ⟨[], by simp [h0], .inl ⟨h0, rfl⟩, rfl, fun k hk => absurd hk (by omega)⟩
  · obtain ⟨b, o, l, et, fz, xs, hA, hB, _, _⟩ := h 0 (by omega)
    have hat : ∀ k (hk : k < v.parts.length), ValR B d v.parts[k] ((l.drop (o + k * 6)).take 6) := by
      intro k hk
      obtain ⟨b', o', l', et', fz', xs', hA', hB', hx', hv'⟩ := h k hk
      rw [hA] at hA'
      cases hA'
      rw [hB] at hB'
      injection hB' with hB'
      injection hB' with e1
      have e2 : l = l' := by have := congrArg Array.toList e1; simpa using this
      rw [e2, hx']; exact hv'
    have hlen : ∀ k, k < v.parts.length → ((l.drop (o + k * 6)).take 6).length = 6 := fun k hk => by
      obtain ⟨_, _, _, _, e⟩ := ValR.shape (hat k hk)
      rw [e]; rfl
    have hl : o + v.parts.length * 6 ≤ l.length := by
      have := hlen (v.parts.length - 1) (by omega)
      rw [List.length_take, List.length_drop] at this
      omega
    have hy : ((l.drop o).take (v.parts.length * 6)).length = v.parts.length * 6 := by rw [List.length_take, List.length_drop]; omega
    have hyk : ∀ k, k < v.parts.length → ((((l.drop o).take (v.parts.length * 6)).drop (k * 6)).take 6) = (l.drop (o + k * 6)).take 6 := fun k hk => by
      rw [List.drop_take, List.take_take, List.drop_drop, Nat.min_eq_left (by omega)]
    refine ⟨(l.drop o).take (v.parts.length * 6), hy, .inr ⟨hy, .inr ⟨b, o, l, et, fz, hA, hB, rfl⟩⟩, blocks_one hy (fun k hk => ?_), fun k hk => ?_⟩
    · rw [hyk k hk]
      obtain ⟨_, _, _, _, e⟩ := ValR.shape (hat k hk)
      rw [e]; rfl
    · rw [hyk k hk]; exact hat k hk
/-- a value whose list of parts is one's own -/
def ClR (B : Frag) (d : Nat) (v : V) (cp : Nat) (An : Option Addr) (cn : Nat) (ys : List Value) : Prop :=
  (v.s.length ≤ 4611686018427387904 ∧ -9223372036854775808 ≤ v.n ∧ v.n ≤ 9223372036854775807 ∧ v.names.length ≤ cn ∧ v.parts.length ≤ cp) ∧ v.parts.length ≤ 4611686018427387904 ∧ v.names.length ≤ 4611686018427387904 ∧ RoE B An v.names.length (v.names.map str) ∧ (∀ x ∈ v.names, x.length ≤ 4611686018427387904) ∧
    ys.length = v.parts.length * 6 ∧ ∀ k (hk : k < v.parts.length), ValR B d v.parts[k] ((ys.drop (k * 6)).take 6)
theorem ClR.val {B B' : Frag} {d : Nat} {v : V} {cp : Nat} {An Ap : Option Addr} {cn : Nat} {ys : List Value} (h : ClR B d v cp An cn ys) (hB : B.le B') (hro : RoS B' 6 Ap v.parts.length ys) : ValR B' (d + 1) v (vcs v Ap cp An cn) := by
  obtain ⟨h1, h2, h3, h4, h5, h6, h7⟩ := h
  exact ValR.mk h1 h2 h3 (h4.mono hB) h5 hro fun k hk => (h7 k hk).mono hB
/-- one part laid anew -/
theorem part_set {ys zs sp : List Value} {n i : Nat} (hl : ys.length = n * 6) (hz : zs.length = 6) (hi : i < n) :
    (ys ++ sp).take (0 + i * 6) ++ zs ++ (ys ++ sp).drop (0 + i * 6 + zs.length) = (ys.take (i * 6) ++ zs ++ ys.drop (i * 6 + 6)) ++ sp := by
  rw [hz, Nat.zero_add, List.take_append_of_le_length (by omega), List.drop_append_of_le_length (by omega)]; simp
theorem part_len {ys zs : List Value} {n i : Nat} (hl : ys.length = n * 6) (hz : zs.length = 6) (hi : i < n) : (ys.take (i * 6) ++ zs ++ ys.drop (i * 6 + 6)).length = n * 6 := by
  simp [hz]; omega
theorem part_at {ys zs : List Value} {n i k : Nat} (hl : ys.length = n * 6) (hz : zs.length = 6) (hi : i < n) (hk : k < n) :
    ((ys.take (i * 6) ++ zs ++ ys.drop (i * 6 + 6)).drop (k * 6)).take 6 = if k = i then zs else (ys.drop (k * 6)).take 6 := by
  have h1 : (ys.take (i * 6)).length = i * 6 := by rw [List.length_take]; omega
  split
  · rename_i e
    subst e
    rw [List.append_assoc, List.drop_left' h1, List.take_left' hz]
  · rename_i e
    apply List.ext_getElem?
    intro j
    rw [List.getElem?_take, List.getElem?_take, List.getElem?_drop, List.getElem?_drop]
    by_cases hj : j < 6
    · rw [if_pos hj, if_pos hj]
      rcases Nat.lt_or_gt_of_ne e with h | h
      · rw [List.append_assoc, List.getElem?_append_left (by omega), List.getElem?_take, if_pos (by omega)]
      · rw [List.getElem?_append_right (by simp [hz]; omega), List.getElem?_drop]
        congr 1
        simp [hz]; omega
    · rw [if_neg hj, if_neg hj]

set_option maxHeartbeats 4000000 in
theorem Clone_step (d : Nat) (ih : ∀ (v : V) (cs : List Value) (deep : Int) (B : Frag), ValR B d v cs → checkF d v deep = 0 → CtB Tryz.prog 35 [.agg cs.toArray] B (fun r B' => ∃ cs', r = .agg cs'.toArray ∧ ValR B' d v cs')) (v : V) (cs : List Value) (deep : Int) (B : Frag) (h : ValR B (d + 1) v cs) (hok : checkF (d + 1) v deep = 0) : Ct Tryz.prog 35 [.agg cs.toArray] B 1 (fun r B' H' => ∃ Ap cp An cn ys, r = .agg (vcs v Ap cp An cn).toArray ∧ ClR B' d v cp An cn ys ∧ H' = sbuf 25 6 Ap v.parts.length cp ys) := by
  obtain ⟨hnm6, hnm0⟩ := names_many hok
  obtain ⟨_, _, _, _, hal, _, hap⟩ := chk_ok hok
  obtain ⟨Ap, cp, An, cn, rfl, ⟨hsl, hn1, hn2, hcn, hcp⟩, hpl, hnl, hns, hnx, hps⟩ := h
  obtain ⟨ys0, hyl0, hyR0, hy10, hyv0⟩ := parts_ros hps
  have hnm : v.names.length ≤ 32 := by
    by_cases k6 : v.kind = 6
    · have := hnm6 k6; omega
    · have := hnm0 k6; omega
  refine Ct.of_body Tryz.func35 rfl (nt := 29) rfl (by kernel_rfl) rfl ?_
  intro N0 w0 R
  rw [one_star]
  refine Cx.seq (fun K1 k1 => ?_)
  refine Cx.region ?_
  refine Lx.new (boxA rfl) rfl (fun b1 => ?_)
  refine Lx.new (allocO ti25) rfl (fun b2 => ?_)
  refine Lx.nil ?_
  refine Xx.tn (k1 _ _ _ _ ?_)
  refine Cx.seq (fun K2 k2 => ?_)
  refine Cx.drawn (by kernel_rfl) ?_
  refine Dx.p (i := 0) rfl (by kernel_rfl) (fa' fo25_5 rfl) rfl ?_
  refine Dx.r (i := 1) rfl (by kernel_rfl) (ld Tryz.underlying23 rfl rfl rfl) rfl ?_
  refine Dx.p (i := 3) rfl (by kernel_rfl) (fa' fo25_4 rfl) rfl ?_
  refine Dx.r (i := 4) rfl (by kernel_rfl) (ld Tryz.underlying22 rfl rfl rfl) rfl ?_
  refine Dx.one (i := 2) (by kernel_rfl) ?_
  refine Dstep.o (i := 2) rfl (Ox.call rfl rfl rfl (CloneST_ct An v.names.length cn (v.names.map str) _ (roe_ros hns) (strs_all2 _) (by omega)) ((one_star _).symm)) rfl (fun v B' H' hΦ hB => ?_)
  obtain ⟨_, rfl, hΦ⟩ := hΦ
  obtain ⟨hBB, An2, cn2, rfl, rfl, hcn2⟩ := hΦ
  subst hBB
  rename Frag => B
  clear hB
  refine ⟨JOk.yes (JOk.edge (JOk.top) (by kernel_rfl)) (ld Tryz.underlying22 rfl rfl rfl), ?_⟩
  refine Dx.p (i := 6) rfl (by kernel_rfl) (fa' fo25_5 rfl) rfl ?_
  refine Dx.one (i := 5) (by kernel_rfl) ?_
  refine Dstep.o (i := 5) rfl (Ox.call rfl rfl rfl (CloneV_ct Ap v.parts.length cp ys0 _ hyR0 hy10 (by omega)) ((one_star _).symm)) rfl (fun v B' H' hΦ hB => ?_)
  obtain ⟨_, rfl, hΦ⟩ := hΦ
  obtain ⟨hBB, Ap2, cp2, rfl, rfl, hcp2⟩ := hΦ
  subst hBB
  rename Frag => B
  clear hB
  refine ⟨JOk.edge (JOk.yes (JOk.top) (ld Tryz.underlying23 rfl rfl rfl)) (by kernel_rfl), ?_⟩
  refine Dx.one (i := 7) (by kernel_rfl) ?_
  refine Dstep.o0 (i := 7) rfl (stO (cs' := vcs v Ap cp An2 cn2) Tryz.underlying23 sz23 rfl rfl rfl (by show 5 < 6; omega) rfl) (fun v B' H' hΦ hB => ?_)
  obtain ⟨hBB, rfl⟩ := hΦ; have hBB2 := hBB.symm; subst hBB2; clear hB v
  refine ⟨JOk.edge (JOk.edge (JOk.top) (by kernel_rfl)) (by kernel_rfl), ?_⟩
  refine Dx.p (i := 8) rfl (by kernel_rfl) (fa' fo25_4 rfl) rfl ?_
  refine Dx.one (i := 9) (by kernel_rfl) ?_
  refine Dstep.o0 (i := 9) rfl (stO (cs' := vcs v Ap2 cp2 An2 cn2) Tryz.underlying22 sz22 rfl rfl rfl (by show 4 < 6; omega) rfl) (fun v B' H' hΦ hB => ?_)
  obtain ⟨hBB, rfl⟩ := hΦ; have hBB2 := hBB.symm; subst hBB2; clear hB v
  refine ⟨JOk.edge (JOk.edge (JOk.top) (by kernel_rfl)) (by kernel_rfl), ?_⟩
  refine Dx.done (by kernel_rfl) ?_
  refine Xx.tn (k2 _ _ _ _ ?_)
  refine Cx.seq (fun K3 k3 => ?_)
  refine Cx.seq (fun K4 k4 => ?_)
  refine Xx.freezeT An2 fun B3 hB3 hRn hnc3 _ => ?_
  have hcl0 : ClR B3 d v cp2 An2 cn2 ys0 := ⟨⟨hsl, hn1, hn2, hcn2, hcp2⟩, hpl, hnl, RoS.roe hRn, hnx, hyl0, fun k hk => (hyv0 k hk).mono hB3⟩
  obtain ⟨Bz, rfl⟩ : ∃ Bz, Bz = B3 := ⟨_, rfl⟩
  refine Cx.region ?_
  refine Lx.y (fa' fo25_4 rfl) rfl ?_
  refine Lx.y (ld Tryz.underlying22 rfl rfl rfl) rfl ?_
  refine Lx.y (lenV (ty' := 0) Tryz.underlying22 rfl) rfl ?_
  refine Lx.y (mv rfl) rfl ?_
  refine Lx.nil ?_
  refine Xx.tn (k4 _ _ _ _ ?_)
  refine Cx.block ?_
  refine Cx.loopK (Sub.cons (s := 0) rfl (Sub.cons (s := 1) rfl (Sub.cons (s := 2) rfl (Sub.cons (s := 5) rfl (Sub.cons (s := 6) rfl (Sub.cons (s := 7) rfl (Sub.cons (s := 8) rfl (Sub.cons (s := 9) rfl (Sub.cons (s := 10) rfl (Sub.cons (s := 11) rfl (Sub.cons (s := 12) rfl (Sub.cons (s := 13) rfl (Sub.cons (s := 14) rfl (Sub.cons (s := 15) rfl (Sub.nil _))))))))))))))) (fun m ρ' B' H' => ∃ (i : Nat) (ys : List Value) (B2 : Frag), (i ≤ v.parts.length ∧ ClR B2 d v cp2 An2 cn2 ys ∧ Bz.le B2) ∧ m = v.parts.length - i ∧ ρ' = [(16, i64 i)] ∧ B2 = B' ∧ sbuf 25 6 Ap2 v.parts.length cp2 ys * (row b1 25 (vcs v Ap2 cp2 An2 cn2) * (row b2 25 [i64 0, .bool false, i64 0, str [], .slice none 0 0, .slice none 0 0] * R)) = H') ⟨0, _, _, ⟨Nat.zero_le _, hcl0, Frag.le_refl _⟩, rfl, rfl, rfl, star_left _ _ _⟩ (Sub.cons (s := 16) rfl (Sub.cons (s := 0) rfl (Sub.cons (s := 1) rfl (Sub.cons (s := 2) rfl (Sub.cons (s := 5) rfl (Sub.cons (s := 6) rfl (Sub.cons (s := 7) rfl (Sub.cons (s := 8) rfl (Sub.cons (s := 9) rfl (Sub.cons (s := 10) rfl (Sub.cons (s := 11) rfl (Sub.cons (s := 12) rfl (Sub.cons (s := 13) rfl (Sub.cons (s := 14) rfl (Sub.cons (s := 15) rfl (Sub.nil _)))))))))))))))) ?_
  rintro m ρ' B' H' ⟨i, ys, B2, ⟨hi, hcl, hB2⟩, rfl, rfl, rfl, rfl⟩
  refine Cx.seq (fun K5 k5 => ?_)
  refine Cx.region ?_
  refine Lx.y (lss rfl rfl) rfl ?_
  refine Lx.nil ?_
  refine Xx.tn (k5 _ _ _ _ ?_)
  refine Cx.seq (fun K6 k6 => ?_)
  refine Cx.condD rfl (fun h7 => ?_) (fun h7 => ?_)
  · skip
    have hlt := h7
    have hlt : i < v.parts.length := by omega
    obtain ⟨g1, g2, g3, g4, g5, hyl, hyv⟩ := hcl
    have hvi := hyv i hlt
    obtain ⟨Ap3, cp3, An3, cn3, hsh⟩ := ValR.shape hvi
    rw [hsh] at hvi
    refine Xx.openT Ap2 (by omega) (fun bp sp hAp hyl2 hyc hycl => ?_)
    subst hAp
    have hat : ((ys ++ sp).drop (0 + i * 6)).take 6 = vcs v.parts[i] Ap3 cp3 An3 cn3 := by rw [Nat.zero_add, List.drop_append_of_le_length (by omega), List.take_append_of_le_length (by rw [List.length_drop]; omega)]; exact hsh
    refine Cx.skip ?_
    refine Xx.tn (k6 _ _ _ _ ?_)
    refine Cx.seq (fun K8 k8 => ?_)
    refine Cx.block ?_
    refine Cx.seq (fun K9 k9 => ?_)
    refine Cx.region ?_
    refine Lx.y (mv rfl) rfl ?_
    refine Lx.y (ia Tryz.underlying22 sz25 rfl rfl (Int.toNat_natCast _) (by omega) (by omega)) rfl ?_
    refine Lx.y (ldA Tryz.underlying25 rfl sz25 rfl (Cells.own (n := 6) PickB.eq hat) rfl) rfl ?_
    refine Lx.new (allocO ti25) rfl (fun b4 => ?_)
    refine Lx.y (asg rfl) rfl ?_
    refine Lx.st (stA (d := .bool) sz25 rfl rfl rfl rfl (by show 0 + 6 ≤ 6; omega) rfl) ?_
    refine Lx.nil ?_
    refine Xx.tn (k9 _ _ _ _ ?_)
    refine Cx.drawn (by kernel_rfl) ?_
    refine Dx.p (i := 0) rfl (by kernel_rfl) (fa' fo25_4 rfl) rfl ?_
    refine Dx.r (i := 1) rfl (by kernel_rfl) (ld Tryz.underlying22 rfl rfl rfl) rfl ?_
    refine Dx.p (i := 2) rfl (by kernel_rfl) (mv rfl) rfl ?_
    refine Dx.r (i := 3) rfl (by kernel_rfl) (ldA Tryz.underlying25 rfl sz25 rfl (Cells.own (n := 6) PickB.eq rfl) rfl) rfl ?_
    refine Dx.one (i := 4) (by kernel_rfl) ?_
    refine Dstep.o (i := 4) rfl (Ox.cb rfl rfl rfl (ih v.parts[i] _ _ _ hvi (hap i hlt))) rfl (fun v B' H' hΦ hB => ?_)
    obtain ⟨rfl, hΦ⟩ := hΦ
    obtain ⟨cs9, rfl, hv9⟩ := hΦ
    obtain ⟨Ap4, cp4, An4, cn4, rfl⟩ := ValR.shape hv9
    obtain ⟨B9, he9⟩ : ∃ B9, B9 = B' := ⟨_, rfl⟩
    subst he9
    have hB9 := hB
    refine ⟨JOk.edge (JOk.yes (JOk.top) (ld Tryz.underlying22 rfl rfl rfl)) (by kernel_rfl), ?_⟩
    refine Dx.p (i := 5) rfl (by kernel_rfl) (ia Tryz.underlying22 sz25 rfl rfl (Int.toNat_natCast _) (by omega) (by omega)) rfl ?_
    refine Dx.one (i := 6) (by kernel_rfl) ?_
    refine Dstep.o0 (i := 6) rfl (stA (d := .bool) (cs' := (ys.take (i * 6) ++ vcs v.parts[i] Ap4 cp4 An4 cn4 ++ ys.drop (i * 6 + 6)) ++ sp) sz25 rfl rfl rfl rfl (by rw [List.length_append]; show 0 + i * 6 + 6 ≤ _; omega) (by rw [frc_gen]; exact congrArg some (part_set hyl rfl hlt))) (fun v B' H' hΦ hB => ?_)
    obtain ⟨hBB, rfl⟩ := hΦ; have hBB2 := hBB.symm; subst hBB2; clear hB v
    refine ⟨JOk.edge (JOk.edge (JOk.top) (by kernel_rfl)) (by kernel_rfl), ?_⟩
    refine Dx.done (by kernel_rfl) ?_
    refine Xx.bn ?_
    refine Xx.tn (k8 _ _ _ _ ?_)
    refine Xx.dropB b4 ?_
    refine Xx.closeT bp (ys.take (i * 6) ++ vcs v.parts[i] Ap4 cp4 An4 cn4 ++ ys.drop (i * 6 + 6)) sp 6 v.parts.length cp2 rfl (part_len hyl rfl hlt) hyc (by rw [List.length_append, part_len hyl rfl hlt]; rw [List.length_append] at hycl; omega) ?_
    have hcl9 : ClR B9 d v cp2 An2 cn2 (ys.take (i * 6) ++ vcs v.parts[i] Ap4 cp4 An4 cn4 ++ ys.drop (i * 6 + 6)) := ⟨g1, g2, g3, g4.mono hB9, g5, part_len hyl rfl hlt, fun k hk => by
      rw [part_at hyl rfl hlt hk]
      split
      · rename_i e; subst e; exact hv9
      · exact (hyv k hk).mono hB9⟩
    refine Cx.region ?_
    refine Lx.y (Yx.val (add rfl rfl (by first | exact wrap64 (by omega) (by omega) | rfl)) (show _ = i64 ((i + 1 : Nat) : Int) from rfl)) rfl ?_
    refine Lx.y (mv rfl) rfl ?_
    refine Lx.nil ?_
    exact Xx.againK ⟨i + 1, _, _, ⟨by omega, hcl9, Frag.le_trans hB2 hB9⟩, rfl, rfl, rfl, rfl⟩ (by omega) (Sub.cons (s := 16) rfl (Sub.cons (s := 0) rfl (Sub.cons (s := 1) rfl (Sub.cons (s := 2) rfl (Sub.cons (s := 5) rfl (Sub.cons (s := 6) rfl (Sub.cons (s := 7) rfl (Sub.cons (s := 8) rfl (Sub.cons (s := 9) rfl (Sub.cons (s := 10) rfl (Sub.cons (s := 11) rfl (Sub.cons (s := 12) rfl (Sub.cons (s := 13) rfl (Sub.cons (s := 14) rfl (Sub.cons (s := 15) rfl (Sub.nil _))))))))))))))))
  · skip
    have hge := h7
    refine Cx.exit ?_
    refine Xx.te ?_
    refine Xx.te ?_
    refine Xx.bh ?_
    refine Xx.tn (k3 _ _ _ _ ?_)
    refine Cx.seq (fun K10 k10 => ?_)
    refine Cx.region ?_
    refine Lx.y (ldA Tryz.underlying25 rfl sz25 rfl (Cells.own (n := 6) PickB.eq rfl) rfl) rfl ?_
    refine Lx.st (stA (d := .bool) sz25 rfl rfl rfl rfl (by show 0 + 6 ≤ 6; omega) rfl) ?_
    refine Lx.nil ?_
    refine Xx.tn (k10 _ _ _ _ ?_)
    refine Cx.ret ?_
    refine Xx.dropB b1 ?_
    exact Xx.retA rfl Tryz.underlying25 rfl sz25 rfl rfl ⟨_, _, _, _, _, rfl, hcl, rfl⟩ (Frag.le_trans hB3 hB2) rfl

theorem Clone_ct : ∀ (d : Nat) (v : V) (cs : List Value) (deep : Int) (B : Frag), ValR B d v cs → checkF d v deep = 0 → CtB Tryz.prog 35 [.agg cs.toArray] B (fun r B' => ∃ cs', r = .agg cs'.toArray ∧ ValR B' d v cs') := by
  intro d
  induction d with
  | zero => intro v cs deep B h; exact h.elim
  | succ d ih =>
    intro v cs deep B h hok
    have h1 := Clone_step d ih v cs deep B h hok
    refine ⟨h1.1, fun N0 w R s => (h1.2 N0 w R (by rw [one_star]; exact s)).mono ?_⟩
    rintro x w' ⟨_, B', _, rfl, ⟨Ap, cp, An, cn, ys, rfl, hcl, rfl⟩, hB, hb, s2⟩
    obtain ⟨B2, hB2, hro, s3⟩ := frzS s2
    exact ⟨_, B2, rfl, ⟨_, rfl, hcl.val hB2 hro⟩, Frag.le_trans hB hB2, hb, s3⟩
end RwA
end Go.Proofs.YtdidpocakipinaaGreatDoor

/-
  A table of documents: what lies there, and how it must be.
-/
namespace Go.Proofs.YtdidpocakipinaaGreatDoor
open Go.SL Go.RowKit
set_option linter.unusedVariables false
set_option linter.unusedSimpArgs false
set_option maxRecDepth 100000
open Ke1 Ke3 Ke4 Ke5 Ke6 Ke7 Ke8 Ke9 KeA KeB KeC KeD KeE KeF KeG KeI RgA RgB BtB BtC BtD BtE BtG BtX BtH BtI BtF BtJ BtK BtL BtM BtN BtO BtR BtY BtZ DrA DrB DrC DrD DrE DrF RwA
namespace RwB


/-- a document as it lies there -/
structure Dc where
  n : BitVec 64
  ver : BitVec 64
  v : V
  cs : List Value
def Dc.cells (d : Dc) : List Value := u64 d.n :: u64 d.ver :: d.cs
def dkv (d : Dc) : BitVec 64 × Value := (d.n, .agg d.cells.toArray)
/-- an index -/
structure Ix where
  f : List UInt8
  tb : Nat
  d : Nat
  c : C
def ikv (x : Ix) : List UInt8 × Value := (x.f, .pointer (some ⟨x.tb, 0, none⟩))
/-- a tree, not looked into -/
def tre (tb d : Nat) (c : C) : HP := tree tb d c
def ixs : List Ix → HP
  | [] => 1
  | x :: l => tre x.tb x.d x.c * ixs l
theorem ixs_app : ∀ (a b : List Ix), ixs (a ++ b) = ixs a * ixs b := by
  intro a
  induction a with
  | nil => intro b; exact (one_star _).symm
  | cons x a ih => intro b; show tre x.tb x.d x.c * ixs (a ++ b) = (tre x.tb x.d x.c * ixs a) * ixs b; rw [ih]; exact (star_assoc _ _ _).symm
theorem ixs_mid (a b : List Ix) (x : Ix) : ixs (a ++ x :: b) = tre x.tb x.d x.c * (ixs a * ixs b) := by
  rw [ixs_app]; show ixs a * (tre x.tb x.d x.c * ixs b) = _; exact star_left _ _ _
/-- a table -/
structure Tb where
  b : Nat
  db : Nat
  xb : Nat
  ob : Nat
  od : Nat
  oc : C
  ds : List Dc
  xs : List Ix
abbrev rowT (T : Tb) : HP := row T.b 87 [.map (some T.db), .pointer (some ⟨T.ob, 0, none⟩), .map (some T.xb)]
def tab (T : Tb) : HP := rowT T * (gmap T.db (T.ds.map dkv) * (tre T.ob T.od T.oc * (gmap T.xb (T.xs.map ikv) * ixs T.xs)))
/-- these keys, and no others -/
def KS (l : List (List UInt8 × List UInt8)) (S : List UInt8 → Prop) : Prop := (∀ p ∈ l, p.2 = []) ∧ ∀ k, k ∈ l.map (·.1) ↔ S k
def TK (d : Nat) (c : C) (S : List UInt8 → Prop) : Prop := Tr90 d c ∧ KS (io (d + 1) c) S
noncomputable def keyD (f : List UInt8) (d : Dc) : List UInt8 := keyF 3 (getV d.v f) ++ numL d.n
def DOk (B : Frag) (d : Dc) : Prop := ValR B 4 d.v d.cs ∧ checkF 4 d.v 1 = 0 ∧ (bytesF 4 d.v).length ≤ 1024
theorem DOk.mono {B B' : Frag} {d : Dc} (h : DOk B d) (hB : B.le B') : DOk B' d := ⟨h.1.mono hB, h.2⟩
structure TabOk (B : Frag) (T : Tb) : Prop where
  docs : ∀ d ∈ T.ds, DOk B d
  nd : (T.ds.map (·.n)).Nodup
  ord : TK T.od T.oc (fun k => ∃ d ∈ T.ds, k = numL d.n)
  nf : (T.xs.map (·.f)).Nodup
  idx : ∀ x ∈ T.xs, TK x.d x.c (fun k => ∃ d ∈ T.ds, k = keyD x.f d)
theorem TabOk.mono {B B' : Frag} {T : Tb} (h : TabOk B T) (hB : B.le B') : TabOk B' T := ⟨fun d hd => (h.docs d hd).mono hB, h.nd, h.ord, h.nf, h.idx⟩
/-! ### keys -/
theorem insP_keys {k v : List UInt8} : ∀ {l : List (List UInt8 × List UInt8)} (k' : List UInt8), k' ∈ (insP k v l).map (·.1) ↔ k' = k ∨ k' ∈ l.map (·.1) := by
  intro l
  induction l with
  | nil => intro k'; simp [insP]
  | cons p l ih =>
    intro k'
    unfold insP
    split
    · rw [List.map_cons, List.mem_cons, ih, List.map_cons, List.mem_cons]
      constructor
      · rintro (h | h | h)
        · exact .inr (.inl h)
        · exact .inl h
        · exact .inr (.inr h)
      · rintro (h | h | h)
        · exact .inr (.inl h)
        · exact .inl h
        · exact .inr (.inr h)
    · split
      · rename_i e
        rw [List.map_cons, List.mem_cons, List.map_cons, List.mem_cons]
        constructor
        · rintro (h | h)
          · exact .inl h
          · exact .inr (.inr h)
        · rintro (h | h | h)
          · exact .inl h
          · exact .inl (h.trans e)
          · exact .inr h
      · rw [List.map_cons, List.mem_cons]
theorem delP_keys {k : List UInt8} {l : List (List UInt8 × List UInt8)} (k' : List UInt8) : k' ∈ (delP k l).map (·.1) ↔ k' ≠ k ∧ k' ∈ l.map (·.1) := by
  unfold delP
  constructor
  · intro h
    obtain ⟨p, hp, rfl⟩ := List.mem_map.1 h
    obtain ⟨h1, h2⟩ := List.mem_filter.1 hp
    exact ⟨by simpa using h2, List.mem_map.2 ⟨p, h1, rfl⟩⟩
  · rintro ⟨h1, h2⟩
    obtain ⟨p, hp, rfl⟩ := List.mem_map.1 h2
    exact List.mem_map.2 ⟨p, List.mem_filter.2 ⟨hp, by simpa using h1⟩, rfl⟩
theorem TK.congr {d : Nat} {c : C} {S S' : List UInt8 → Prop} (h : TK d c S) (e : ∀ k, S k ↔ S' k) : TK d c S' := ⟨h.1, h.2.1, fun k => (h.2.2 k).trans (e k)⟩
theorem TK.put {d d' : Nat} {c c' : C} {S : List UInt8 → Prop} {k : List UInt8} (h : TK d c S) (hok : Ok 90 (d' + 1) c') (hio : io (d' + 1) c' = insP k [] (io (d + 1) c)) (hm : Mn (d + 1) c → Mn (d' + 1) c') (hr : d = 0 ∨ 1 ≤ c.ks.length → d' = 0 ∨ 1 ≤ c'.ks.length) : TK d' c' (fun k' => k' = k ∨ S k') := by
  obtain ⟨⟨_, h2, h3, h4⟩, h5, h6⟩ := h
  refine ⟨⟨hok, hm h2, by rw [hio]; exact insP_ord h3, hr h4⟩, fun p hp => ?_, fun k' => ?_⟩
  · rw [hio] at hp
    rcases insP_mem hp with rfl | hp
    · rfl
    · exact h5 p hp
  · rw [hio, insP_keys, h6]
theorem TK.drop {d d' : Nat} {c c' : C} {S : List UInt8 → Prop} {k : List UInt8} (h : TK d c S) (ht : Tr90 d' c') (hio : io (d' + 1) c' = delP k (io (d + 1) c)) : TK d' c' (fun k' => k' ≠ k ∧ S k') := by
  refine ⟨ht, fun p hp => ?_, fun k' => ?_⟩
  · rw [hio] at hp
    exact h.2.1 p (List.mem_filter.1 hp).1
  · rw [hio, delP_keys, h.2.2]
theorem PutT_ct {S : List UInt8 → Prop} (d : Nat) (c : C) (tb : Nat) (k : List UInt8) (B : Frag) (h : TK d c S) (hlen : (io (d + 1) c).length ≤ 80) :
    Ct Tryz.prog 36 [.pointer (some ⟨tb, 0, none⟩), str k, str []] B (tre tb d c) (fun r B' H' => B' = B ∧ ∃ d' c' t, r = .bool t ∧ H' = tre tb d' c' ∧ TK d' c' (fun k' => k' = k ∨ S k')) := by
  refine ctTo (Put_ct d c tb k [] B h.1.1 h.1.2.2.1 hlen) rfl ?_
  rintro v B' H' ⟨rfl, d', c', rfl, rfl, h1, h2, _, h4, h5⟩
  exact ⟨rfl, d', c', _, rfl, rfl, h.put h1 h2 h4 h5⟩
theorem DropT_ct {S : List UInt8 → Prop} (d : Nat) (c : C) (tb : Nat) (k : List UInt8) (B : Frag) (h : TK d c S) (hlen : (io (d + 1) c).length ≤ 80) :
    Ct Tryz.prog 41 [.pointer (some ⟨tb, 0, none⟩), str k] B (tre tb d c) (fun r B' H' => B' = B ∧ ∃ d' c' t, r = .bool t ∧ H' = tre tb d' c' ∧ TK d' c' (fun k' => k' ≠ k ∧ S k')) := by
  refine ctTo (Drop_ct d c tb k B h.1 hlen) rfl ?_
  rintro v B' H' ⟨rfl, d', c', rfl, rfl, h1, h2⟩
  exact ⟨rfl, d', c', _, rfl, rfl, h.drop h1 h2⟩
theorem ord_nodup {l : List (List UInt8 × List UInt8)} (h : Ord l) : (l.map (·.1)).Nodup := by
  have h2 : (l.map (·.1)).Pairwise (fun a b => bless a b = true) := List.pairwise_map.2 h
  exact h2.imp fun hab e => by rw [e, bless_irrefl] at hab; cases hab
theorem TK.len {d : Nat} {c : C} {ds : List Dc} {g : Dc → List UInt8} (h : TK d c (fun k => ∃ x ∈ ds, k = g x)) : (io (d + 1) c).length ≤ ds.length := by
  have h1 := nodup_len _ (ds.map g) (ord_nodup h.1.2.2.1) fun k hk => by
    obtain ⟨x, hx, rfl⟩ := (h.2.2 k).1 hk
    exact List.mem_map.2 ⟨x, hx, rfl⟩
  simpa using h1
theorem num_tri (a b : BitVec 64) : Tri (cmpN a.toNat b.toNat) (numL a) (numL b) := by
  rw [numL_be, numL_be]
  exact beN_tri 8 _ _ (by have := a.isLt; omega) (by have := b.isLt; omega)
theorem numC_inj {a b : BitVec 64} (h : numL a = numL b) : a = b := by
  have h2 := tri_eq (num_tri a b)
  rw [decide_eq_true h] at h2
  have h1 : cmpN a.toNat b.toNat = .eq := by simpa using h2.symm
  exact BitVec.eq_of_toNat_eq (by
    rcases Nat.lt_trichotomy a.toNat b.toNat with hl | hl | hl
    · rw [cmpN_lt hl] at h1; cases h1
    · exact hl
    · rw [cmpN_gt hl] at h1; cases h1)
theorem keyD_n {f g : List UInt8} {d e : Dc} (h : keyD f d = keyD g e) : d.n = e.n := by
  unfold keyD at h
  have h1 := congrArg (fun l => l.drop (l.length - 8)) h
  simp only [List.length_append, numL_len, Nat.add_sub_cancel, List.drop_left] at h1
  exact numC_inj h1
/-! ### documents in a map -/
theorem map_inj {α β : Type} (f : α → β) : ∀ {l : List α}, (l.map f).Nodup → ∀ {a b : α}, a ∈ l → b ∈ l → f a = f b → a = b := by
  intro l
  induction l with
  | nil => intro _ a b ha; cases ha
  | cons t T ih =>
    intro hn a b ha hb e
    rw [List.map_cons, List.nodup_cons] at hn
    rcases List.mem_cons.1 ha with h1 | ha
    · rcases List.mem_cons.1 hb with h2 | hb
      · rw [h1, h2]
      · exact absurd (List.mem_map.2 ⟨b, hb, by rw [← e, h1]⟩) hn.1
    · rcases List.mem_cons.1 hb with h2 | hb
      · exact absurd (List.mem_map.2 ⟨a, ha, by rw [e, h2]⟩) hn.1
      · exact ih hn.2 ha hb e
section
variable {α κ : Type} [DecidableEq κ] {kv : α → κ × Value} {ky : α → κ}
theorem gset_new (hk : ∀ x, (kv x).1 = ky x) {x : α} : ∀ {l : List α}, (∀ y ∈ l, ky y ≠ ky x) → gset (ky x) (kv x).2 (l.map kv) = (l ++ [x]).map kv := by
  intro l
  induction l with
  | nil => intro _; show [(ky x, (kv x).2)] = [kv x]; rw [← hk]
  | cons y l ih =>
    intro h
    show (if ky x = (kv y).1 then _ else (kv y) :: gset (ky x) (kv x).2 (l.map kv)) = _
    rw [if_neg (fun e => h y (by simp) (by rw [← hk, ← e])), ih fun z hz => h z (by simp [hz])]
    rfl
theorem gdel_filter (hk : ∀ x, (kv x).1 = ky x) {k : κ} : ∀ {l : List α}, (l.map ky).Nodup → gdel k (l.map kv) = (l.filter (fun x => decide (ky x ≠ k))).map kv := by
  intro l
  induction l with
  | nil => intro _; rfl
  | cons y l ih =>
    intro hn
    rw [List.map_cons, List.nodup_cons] at hn
    show (if k = (kv y).1 then l.map kv else (kv y) :: gdel k (l.map kv)) = _
    by_cases e : ky y = k
    · rw [if_pos (by rw [hk, e]), List.filter_cons_of_neg (by simp [e]), List.filter_eq_self.2]
      intro z hz
      have : ky z ≠ k := fun e2 => hn.1 (List.mem_map.2 ⟨z, hz, by rw [e2, e]⟩)
      simp [this]
    · rw [if_neg (fun e2 => e (by rw [← hk, ← e2])), List.filter_cons_of_pos (by simp [e]), ih hn.2]
      rfl
end
theorem dkv_k (d : Dc) : (dkv d).1 = d.n := rfl
theorem ikv_k (x : Ix) : (ikv x).1 = x.f := rfl
/-- without a number -/
def dropD (n : BitVec 64) (ds : List Dc) : List Dc := ds.filter (fun x => decide (x.n ≠ n))
theorem dropD_mem {n : BitVec 64} {ds : List Dc} {d : Dc} : d ∈ dropD n ds ↔ d ∈ ds ∧ d.n ≠ n := by
  unfold dropD; rw [List.mem_filter]; simp
theorem dropD_nd {n : BitVec 64} {ds : List Dc} (h : (ds.map (·.n)).Nodup) : ((dropD n ds).map (·.n)).Nodup := h.sublist (List.filter_sublist.map _)
theorem dropD_len {n : BitVec 64} {ds : List Dc} : (dropD n ds).length ≤ ds.length := List.length_filter_le _ _
theorem dropD_none {n : BitVec 64} {ds : List Dc} (h : ∀ d ∈ ds, d.n ≠ n) : dropD n ds = ds := List.filter_eq_self.2 fun d hd => by simpa using h d hd
end RwB
end Go.Proofs.YtdidpocakipinaaGreatDoor

/-
  A table made; a nil table; a document goes.
-/
namespace Go.Proofs.YtdidpocakipinaaGreatDoor
open Go.SL Go.RowKit
set_option linter.unusedVariables false
set_option linter.unusedSimpArgs false
set_option maxRecDepth 100000
open Ke1 Ke3 Ke4 Ke5 Ke6 Ke7 Ke8 Ke9 KeA KeB KeC KeD KeE KeF KeG KeI RgA RgB BtB BtC BtD BtE BtG BtX BtH BtI BtF BtJ BtK BtL BtM BtN BtO BtR BtY BtZ DrA DrB DrC DrD DrE DrF RwA RwB
namespace RwC
theorem sz25 : (Tryz.prog.info? 25).map (·.size) = some 6 := by kernel_rfl
theorem sz36 : (Tryz.prog.info? 36).map (·.size) = some 8 := by kernel_rfl
theorem ti36 : TI Tryz.prog 36 [.int .u64 0, .int .u64 0, .int .i64 0, .bool false, .int .i64 0, str [], .slice none 0 0, .slice none 0 0] 8 104 := TI.of (by kernel_rfl) rfl rfl
theorem ti87 : TI Tryz.prog 87 [.map none, .pointer none, .map none] 3 24 := TI.of (by kernel_rfl) rfl rfl
theorem fo36_2 : FO Tryz.prog 36 2 2 6 true := FO.of Tryz.underlying36 rfl rfl (by kernel_rfl) Tryz.underlying25 rfl rfl
theorem fo87_0 : FO Tryz.prog 87 0 0 1 false := FO.of Tryz.underlying87 rfl rfl (by kernel_rfl) Tryz.underlying82 rfl rfl
theorem fo87_1 : FO Tryz.prog 87 1 1 1 false := FO.of Tryz.underlying87 rfl rfl (by kernel_rfl) Tryz.underlying83 rfl rfl
theorem fo87_2 : FO Tryz.prog 87 2 2 1 false := FO.of Tryz.underlying87 rfl rfl (by kernel_rfl) Tryz.underlying85 rfl rfl
theorem pl36 : PL Tryz.prog 36 [(0, 1), (1, 1), (2, 6)] := PL.of Tryz.underlying36 (by kernel_rfl)
theorem pl87 : PL Tryz.prog 87 [(0, 1), (1, 1), (2, 1)] := PL.of Tryz.underlying87 (by kernel_rfl)

theorem tr90_new {c : C} (h : Ok 90 1 c) (e : io 1 c = []) : Tr90 0 c := by
  have h0 : c.cs = [] := by
    cases hc : c.cs with
    | nil => rfl
    | cons p l => exact (h.2.2.2 p (by rw [hc]; simp)).elim
  exact ⟨h, ⟨⟨fun _ => rfl, fun _ => h0⟩, fun p hp => (by rw [h0] at hp; cases hp)⟩, by rw [e]; exact List.Pairwise.nil, .inl rfl⟩
theorem tk_new {c : C} (h : Ok 90 1 c) (e : io 1 c = []) {S : List UInt8 → Prop} (hS : ∀ k, ¬ S k) : TK 0 c S :=
  ⟨tr90_new h e, fun p hp => (by rw [e] at hp; cases hp), fun k => (by rw [e]; exact ⟨fun h => (by cases h), fun h => (hS k h).elim⟩)⟩
/-- what stands at a number -/
def lookD (n : BitVec 64) (ds : List Dc) : List Value := match ds.find? (fun d => decide (d.n = n)) with
  | some d => d.cells
  | none => [.int .u64 0, .int .u64 0, i64 0, .bool false, i64 0, str [], .slice none 0 0, .slice none 0 0]
theorem look_get (n : BitVec 64) (ds : List Dc) : (gget n (ds.map dkv)).getD (.agg ([.int .u64 0, .int .u64 0, i64 0, .bool false, i64 0, str [], .slice none 0 0, .slice none 0 0]).toArray) = .agg (lookD n ds).toArray ∧ (gget n (ds.map dkv)).isSome = decide (∃ d ∈ ds, d.n = n) := by
  induction ds with
  | nil => exact ⟨rfl, by simp [gget]⟩
  | cons d ds ih =>
    have e : gget n ((d :: ds).map dkv) = if n = d.n then some (.agg d.cells.toArray) else gget n (ds.map dkv) := rfl
    rw [e]
    unfold lookD
    by_cases h : d.n = n
    · rw [if_pos h.symm, List.find?_cons_of_pos (by simp [h])]
      exact ⟨rfl, by simp [h]⟩
    · rw [if_neg (fun z => h z.symm), List.find?_cons_of_neg (by simp [h])]
      refine ⟨ih.1, ih.2.trans ?_⟩
      simp [h]
theorem look_some {n : BitVec 64} {ds : List Dc} (h : ∃ d ∈ ds, d.n = n) : ∃ d ∈ ds, d.n = n ∧ lookD n ds = d.cells := by
  obtain ⟨d, hd, hn⟩ := h
  unfold lookD
  cases hf : ds.find? (fun d => decide (d.n = n)) with
  | none => have := List.find?_eq_none.1 hf d hd; simp [hn] at this
  | some x => exact ⟨x, List.mem_of_find?_eq_some hf, by have := List.find?_some hf; simpa using this, rfl⟩
theorem look_none {n : BitVec 64} {ds : List Dc} (h : ¬ ∃ d ∈ ds, d.n = n) : lookD n ds = [.int .u64 0, .int .u64 0, i64 0, .bool false, i64 0, str [], .slice none 0 0, .slice none 0 0] := by
  unfold lookD
  rw [List.find?_eq_none.2 (fun d hd => by simpa using fun e => h ⟨d, hd, e⟩)]
theorem cells_shape {B : Frag} {d : Dc} (h : DOk B d) : ∃ Ap cp An cn, d.cells = u64 d.n :: u64 d.ver :: vcs d.v Ap cp An cn := by
  obtain ⟨Ap, cp, An, cn, e⟩ := ValR.shape h.1
  exact ⟨Ap, cp, An, cn, by unfold Dc.cells; rw [e]⟩
theorem look_len {B : Frag} {n : BitVec 64} {ds : List Dc} (h : ∀ d ∈ ds, DOk B d) : (lookD n ds).length = 8 ∧ (lookD n ds).all (·.oneCell') = true := by
  by_cases hx : ∃ d ∈ ds, d.n = n
  · obtain ⟨d, hd, _, e⟩ := look_some hx
    obtain ⟨Ap, cp, An, cn, e2⟩ := cells_shape (h d hd)
    rw [e, e2]; exact ⟨rfl, rfl⟩
  · rw [look_none hx]; exact ⟨rfl, rfl⟩
theorem st_all {zs vs : List Value} (h1 : zs.length = 8) (h2 : vs.length = 8) : frc (zs.take 0 ++ vs ++ zs.drop (0 + vs.length)) some = some vs := by
  rw [frc_gen]; simp; omega
/-- an index's field and where its tree lies -/
def fk (x : Ix) : List UInt8 × Nat := (x.f, x.tb)
theorem fk_ikv {a b : List Ix} (h : a.map fk = b.map fk) : a.map ikv = b.map ikv := by
  have h1 := congrArg (List.map fun p : List UInt8 × Nat => (p.1, Value.pointer (some ⟨p.2, 0, none⟩))) h
  rw [List.map_map, List.map_map] at h1
  exact h1
theorem fk_f {a b : List Ix} (h : a.map fk = b.map fk) : a.map (·.f) = b.map (·.f) := by
  have h1 := congrArg (List.map Prod.fst) h
  rw [List.map_map, List.map_map] at h1
  exact h1
/-- one of the indexes, by what its map has -/
theorem fk_find {a b : List Ix} (h : a.map fk = b.map fk) {z : Ix} (hz : z ∈ b) : ∃ l x r, a = l ++ x :: r ∧ x.f = z.f ∧ x.tb = z.tb := by
  have h1 : fk z ∈ a.map fk := by rw [h]; exact List.mem_map.2 ⟨z, hz, rfl⟩
  obtain ⟨x, hx, e⟩ := List.mem_map.1 h1
  obtain ⟨l, r, rfl⟩ := List.append_of_mem hx
  exact ⟨l, x, r, rfl, congrArg Prod.fst e, congrArg Prod.snd e⟩
/-- some indexes are as they must be behind, the others as they were -/
def Half (S S' : List UInt8 → List UInt8 → Prop) (fs : List (List UInt8)) (cur : List Ix) : Prop := ∀ x ∈ cur, TK x.d x.c (if x.f ∈ fs then S' x.f else S x.f)
theorem Half.step {S S' : List UInt8 → List UInt8 → Prop} {fs : List (List UInt8)} {l r : List Ix} {x : Ix} {d : Nat} {c : C} (h : Half S S' fs (l ++ x :: r)) (hn : ((l ++ x :: r).map (·.f)).Nodup) (hx : TK d c (S' x.f)) :
    Half S S' (fs ++ [x.f]) (l ++ { x with d := d, c := c } :: r) := by
  rw [List.map_append, List.map_cons, List.nodup_append] at hn
  obtain ⟨_, hr, hd⟩ := hn
  rw [List.nodup_cons] at hr
  intro y hy
  have hne : y ∈ l ∨ y ∈ r → y.f ≠ x.f ∧ y ∈ l ++ x :: r := by
    rintro (h1 | h1)
    · exact ⟨fun e => hd y.f (List.mem_map.2 ⟨y, h1, rfl⟩) x.f (by simp) e, by simp [h1]⟩
    · exact ⟨fun e => hr.1 (by rw [← e]; exact List.mem_map.2 ⟨y, h1, rfl⟩), by simp [h1]⟩
  have hold : y ∈ l ∨ y ∈ r → TK y.d y.c (if y.f ∈ fs ++ [x.f] then S' y.f else S y.f) := fun h1 => by
    obtain ⟨e, hm⟩ := hne h1
    have h2 := h y hm
    by_cases hf : y.f ∈ fs
    · rw [if_pos hf] at h2; rw [if_pos (by simp [hf])]; exact h2
    · rw [if_neg hf] at h2; rw [if_neg (by simp [hf, e])]; exact h2
  rcases List.mem_append.1 hy with h1 | h1
  · exact hold (.inl h1)
  · rcases List.mem_cons.1 h1 with rfl | h1
    · show TK d c (if x.f ∈ fs ++ [x.f] then _ else _)
      rw [if_pos (by simp)]; exact hx
    · exact hold (.inr h1)
theorem keys_drop {B : Frag} {T : Tb} (hT : TabOk B T) {g : Dc → List UInt8} (hg : ∀ a b, g a = g b → a.n = b.n) {d : Dc} (hd : d ∈ T.ds) (k : List UInt8) : (k ≠ g d ∧ ∃ x ∈ T.ds, k = g x) ↔ ∃ x ∈ dropD d.n T.ds, k = g x := by
  constructor
  · rintro ⟨h1, x, hx, rfl⟩
    refine ⟨x, dropD_mem.2 ⟨hx, fun e => h1 ?_⟩, rfl⟩
    rw [map_inj (·.n) hT.nd hx hd e]
  · rintro ⟨x, hx, rfl⟩
    obtain ⟨h1, h2⟩ := dropD_mem.1 hx
    exact ⟨fun e => h2 (hg _ _ e), x, h1, rfl⟩

set_option maxHeartbeats 1000000 in
theorem RNew_ct (B : Frag) : Ct Tryz.prog 11 [] B 1 (fun v B' H' => B' = B ∧ ∃ T, v = .pointer (some ⟨T.b, 0, none⟩) ∧ H' = tab T ∧ T.ds = [] ∧ T.xs = [] ∧ TabOk B' T) := by
  refine Ct.of_body Tryz.func11 rfl (nt := 6) rfl (by kernel_rfl) rfl ?_
  intro N0 w0 R
  rw [one_star]
  refine Cx.seq (fun K1 k1 => ?_)
  refine Cx.region ?_
  refine Lx.y (asg rfl) rfl ?_
  refine Lx.nil ?_
  refine Xx.tn (k1 _ _ _ _ ?_)
  refine Cx.seq (fun K2 k2 => ?_)
  refine Cx.region ?_
  refine Lx.o (mkG (BitVec 64)) rfl (fun v B' H' hΦ hB => ?_)
  obtain ⟨db, rfl, hBB, rfl⟩ := hΦ
  subst hBB
  rename Frag => B
  clear hB
  refine Lx.c rfl rfl rfl (New_ct _) ((one_star _).symm) rfl ?_
  rintro v B1 H1 ⟨hBB, ob, oc, rfl, rfl, ok0, e0⟩ hB1
  subst hBB
  rename Frag => B
  clear hB1
  refine Lx.o (mkG (List UInt8)) rfl (fun v B' H' hΦ hB => ?_)
  obtain ⟨xb, rfl, hBB, rfl⟩ := hΦ
  subst hBB
  rename Frag => B
  clear hB
  refine Lx.y (bld ti87 pl87 rfl rfl) rfl ?_
  refine Lx.new (boxA rfl) rfl (fun b5 => ?_)
  refine Lx.y (asg rfl) rfl ?_
  refine Lx.nil ?_
  refine Xx.tn (k2 _ _ _ _ ?_)
  refine Cx.ret ?_
  exact Xx.ret1 rfl rfl ⟨rfl, ⟨b5, db, xb, ob, 0, oc, [], []⟩, rfl, rfl, rfl, rfl, ⟨fun d hd => (by cases hd), List.nodup_nil, tk_new ok0 e0 (fun k h => (by obtain ⟨_, h, _⟩ := h; cases h)), List.nodup_nil, fun x hx => (by cases hx)⟩⟩ (Frag.le_refl _) (by unfold tab tre; simp only [rowT, List.map_nil, ixs, star_one]; ac_rfl)

set_option maxHeartbeats 4000000 in
theorem RDrop_ct (T : Tb) (n : BitVec 64) (B : Frag) (hT : TabOk B T) (hM : MaxLenIn B) (hlen : T.ds.length ≤ 80) : Ct Tryz.prog 18 [.pointer (some ⟨T.b, 0, none⟩), u64 n] B (tab T) (fun r B' H' => B' = B ∧ ∃ T', r = .bool (decide (∃ d ∈ T.ds, d.n = n)) ∧ H' = tab T' ∧ TabOk B' T' ∧ T'.b = T.b ∧ T'.ds = dropD n T.ds ∧ T'.xs.map (·.f) = T.xs.map (·.f)) := by
  obtain ⟨hl8, hla⟩ := look_len (n := n) hT.docs
  obtain ⟨hlk1, hlk2⟩ := look_get n T.ds
  have hol := hT.ord.len
  have hg1 : ∀ a b : Dc, numL a.n = numL b.n → a.n = b.n := fun a b => numC_inj
  refine Ct.of_body Tryz.func18 rfl (nt := 52) rfl (by kernel_rfl) rfl ?_
  intro N0 w0 R
  unfold tab
  simp only [star_assoc]
  refine Cx.seq (fun K1 k1 => ?_)
  refine Cx.region ?_
  refine Lx.y (asg rfl) rfl ?_
  refine Lx.nil ?_
  refine Xx.tn (k1 _ _ _ _ ?_)
  refine Cx.seq (fun K2 k2 => ?_)
  refine Cx.seq (fun K3 k3 => ?_)
  refine Cx.region ?_
  refine Lx.y (mv rfl) rfl ?_
  refine Lx.y (Yx.ff (eqNilP Tryz.underlying31 rfl rfl) rfl) rfl ?_
  refine Lx.nil ?_
  refine Xx.tn (k3 _ _ _ _ ?_)
  refine Cx.condF rfl ?_
  refine Cx.skip ?_
  refine Xx.tn (k2 _ _ _ _ ?_)
  refine Cx.seq (fun K4 k4 => ?_)
  refine Cx.region ?_
  refine Lx.y (mv rfl) rfl ?_
  refine Lx.y (nilc rfl) rfl ?_
  refine Lx.y (fa' fo87_0 rfl) rfl ?_
  refine Lx.y (ld Tryz.underlying82 rfl rfl rfl) rfl ?_
  refine Lx.y (mv rfl) rfl ?_
  refine Lx.y (lkL2 (κ := BitVec 64) (k := n) MapL.own Tryz.underlying82 Tryz.underlying34 Tryz.zeroValue36 rfl rfl hlk1 hlk2) rfl ?_
  refine Lx.y (mv rfl) rfl ?_
  refine Lx.y (ext rfl rfl) rfl ?_
  refine Lx.y (ext rfl rfl) rfl ?_
  refine Lx.new (allocO ti36) rfl (fun b5 => ?_)
  refine Lx.st (stA (d := .bool) (cs' := lookD n T.ds) sz36 rfl rfl hl8 hla (by rw [hl8]; show 0 + 8 ≤ 8; omega) (st_all rfl hl8)) ?_
  refine Lx.y (asg rfl) rfl ?_
  refine Lx.nil ?_
  refine Xx.tn (k4 _ _ _ _ ?_)
  refine Cx.seq (fun K5 k5 => ?_)
  refine Cx.seq (fun K6 k6 => ?_)
  refine Cx.region ?_
  refine Lx.y (mv rfl) rfl ?_
  refine Lx.y (not' rfl) rfl ?_
  refine Lx.nil ?_
  refine Xx.tn (k6 _ _ _ _ ?_)
  refine Cx.condB rfl (fun h7 => ?_) (fun h7 => ?_)
  · skip
    have hno : decide (∃ d ∈ T.ds, d.n = n) = false := by simpa using h7
    refine Cx.seq (fun K8 k8 => ?_)
    refine Cx.region ?_
    refine Lx.y (asg rfl) rfl ?_
    refine Lx.nil ?_
    refine Xx.tn (k8 _ _ _ _ ?_)
    refine Cx.ret ?_
    refine Xx.tr ?_
    refine Xx.dropB b5 ?_
    exact Xx.ret1 rfl rfl ⟨rfl, T, by rw [hno], rfl, hT, rfl, (dropD_none fun d hd e => (of_decide_eq_false hno) ⟨d, hd, e⟩).symm, rfl⟩ (Frag.le_refl _) (by ac_rfl)
  · skip
    have hyes : decide (∃ d ∈ T.ds, d.n = n) = true := by simpa using h7
    obtain ⟨dc, hdc, hdn, hlc⟩ := look_some (of_decide_eq_true hyes)
    obtain ⟨Ap, cp, An, cn, hsh⟩ := cells_shape (hT.docs dc hdc)
    have hval : ValR B 4 dc.v (vcs dc.v Ap cp An cn) := by
      have h9 := (hT.docs dc hdc).1
      have e9 : dc.cs = vcs dc.v Ap cp An cn := by unfold Dc.cells at hsh; injection hsh with _ h8; injection h8
      rw [e9] at h9; exact h9
    obtain ⟨_, hchk, hbyt⟩ := hT.docs dc hdc
    refine Cx.skip ?_
    refine Xx.tn (k5 _ _ _ _ ?_)
    refine Cx.seq (fun K9 k9 => ?_)
    refine Cx.region ?_
    refine Lx.y (mv rfl) rfl ?_
    refine Lx.y (nilc rfl) rfl ?_
    refine Lx.y (fa' fo87_0 rfl) rfl ?_
    refine Lx.y (ld Tryz.underlying82 rfl rfl rfl) rfl ?_
    refine Lx.y (mv rfl) rfl ?_
    refine Lx.o0 (delG (κ := BitVec 64) (k := n) Tryz.underlying82 Tryz.underlying34 rfl rfl) (fun v B' H' hΦ hB => ?_)
    obtain ⟨rfl, hBB, rfl⟩ := hΦ
    have hBB2 := hBB.symm
    subst hBB2
    clear hB
    rw [gdel_filter dkv_k hT.nd]
    refine Lx.nil ?_
    refine Xx.tn (k9 _ _ _ _ ?_)
    refine Cx.seq (fun K10 k10 => ?_)
    refine Cx.drawn (by kernel_rfl) ?_
    refine Dx.p (i := 0) rfl (by kernel_rfl) (mv rfl) rfl ?_
    refine Dx.p (i := 1) rfl (by kernel_rfl) (nilc rfl) rfl ?_
    refine Dx.p (i := 2) rfl (by kernel_rfl) (fa' fo87_1 rfl) rfl ?_
    refine Dx.r (i := 3) rfl (by kernel_rfl) (ld Tryz.underlying83 rfl rfl rfl) rfl ?_
    refine Dx.p (i := 4) rfl (by kernel_rfl) (mv rfl) rfl ?_
    refine Dx.one (i := 5) (by kernel_rfl) ?_
    refine Dstep.o (i := 5) rfl (Ox.cb rfl rfl rfl (Number_ct n _)) rfl (fun v B' H' hΦ hB => ?_)
    obtain ⟨rfl, rfl, hBB⟩ := hΦ; have hBB2 := hBB.symm; subst hBB2; clear hB
    refine ⟨JOk.yes (JOk.top) (ld Tryz.underlying83 rfl rfl rfl), ?_⟩
    refine Dx.one (i := 6) (by kernel_rfl) ?_
    refine Dstep.o (i := 6) rfl (Ox.call rfl rfl rfl (DropT_ct T.od T.oc T.ob (numL n) _ hT.ord (by omega)) (Pick.eq)) rfl (fun v B' H' hΦ hB => ?_)
    obtain ⟨_, rfl, hΦ⟩ := hΦ
    obtain ⟨hBB, od2, oc2, t2, rfl, rfl, hord2⟩ := hΦ
    have hBB2 := hBB.symm
    subst hBB2
    clear hB
    refine ⟨JOk.edge (JOk.top) (by kernel_rfl), ?_⟩
    refine Dx.done (by kernel_rfl) ?_
    refine Xx.tn (k10 _ _ _ _ ?_)
    refine Cx.seq (fun K11 k11 => ?_)
    refine Cx.seq (fun K12 k12 => ?_)
    refine Cx.region ?_
    refine Lx.y (mv rfl) rfl ?_
    refine Lx.y (nilc rfl) rfl ?_
    refine Lx.y (fa' fo87_2 rfl) rfl ?_
    refine Lx.y (ld Tryz.underlying85 rfl rfl rfl) rfl ?_
    refine Xx.openGF (κ := List UInt8) (kv := ikv) T.xb fun Z c9 hs hZ => ?_
    refine Lx.o (rgG (κ := List UInt8) Tryz.underlying85 rfl) rfl (fun v B' H' hΦ hB => ?_)
    obtain ⟨it, rfl, hBB, rfl⟩ := hΦ
    have hBB2 := hBB.symm
    subst hBB2
    clear hB
    refine Lx.nil ?_
    refine Xx.tn (k12 _ _ _ _ ?_)
    refine Cx.block ?_
    refine Cx.loopK (Sub.cons (s := 0) rfl (Sub.cons (s := 1) rfl (Sub.cons (s := 4) rfl (Sub.cons (s := 5) rfl (Sub.cons (s := 6) rfl (Sub.cons (s := 9) rfl (Sub.cons (s := 10) rfl (Sub.cons (s := 11) rfl (Sub.cons (s := 12) rfl (Sub.cons (s := 13) rfl (Sub.cons (s := 14) rfl (Sub.cons (s := 15) rfl (Sub.cons (s := 16) rfl (Sub.cons (s := 17) rfl (Sub.cons (s := 18) rfl (Sub.cons (s := 19) rfl (Sub.cons (s := 20) rfl (Sub.cons (s := 21) rfl (Sub.cons (s := 22) rfl (Sub.cons (s := 23) rfl (Sub.cons (s := 24) rfl (Sub.cons (s := 25) rfl (Sub.cons (s := 26) rfl (Sub.cons (s := 27) rfl (Sub.cons (s := 28) rfl (Sub.cons (s := 29) rfl (Sub.cons (s := 30) rfl (Sub.cons (s := 31) rfl (Sub.cons (s := 32) rfl (Sub.cons (s := 34) rfl (Sub.cons (s := 35) rfl (Sub.cons (s := 36) rfl (Sub.cons (s := 37) rfl (Sub.cons (s := 38) rfl (Sub.nil _))))))))))))))))))))))))))))))))))) (fun m ρ' B' H' => ∃ (dz : List (Ix × Nat)) (cur : List Ix), (GVisF Z dz ∧ cur.map fk = T.xs.map fk ∧ Half (fun f k => ∃ x ∈ T.ds, k = keyD f x) (fun f k => ∃ x ∈ dropD n T.ds, k = keyD f x) (dz.map (·.1.f)) cur) ∧ m = Z.length - dz.length ∧ ρ' = [] ∧ B = B' ∧ blk it (gitObj T.xb c9 (dz.map (gz ikv))) * (blk T.xb (gObj (Z.map (gz ikv)) c9) * (ixs cur * (tre T.ob od2 oc2 * (gmap T.db ((dropD n T.ds).map dkv) * (row b5 36 (lookD n T.ds) * (rowT T * R)))))) = H') ⟨[], T.xs, ⟨GVisF.nil Z, rfl, fun x hx => by show TK x.d x.c (if x.f ∈ [] then _ else _); rw [if_neg List.not_mem_nil]; exact hT.idx x hx⟩, rfl, rfl, rfl, by ac_rfl⟩ (Sub.cons (s := 0) rfl (Sub.cons (s := 1) rfl (Sub.cons (s := 4) rfl (Sub.cons (s := 5) rfl (Sub.cons (s := 6) rfl (Sub.cons (s := 9) rfl (Sub.cons (s := 10) rfl (Sub.cons (s := 11) rfl (Sub.cons (s := 12) rfl (Sub.cons (s := 13) rfl (Sub.cons (s := 14) rfl (Sub.cons (s := 15) rfl (Sub.cons (s := 16) rfl (Sub.cons (s := 17) rfl (Sub.cons (s := 18) rfl (Sub.cons (s := 19) rfl (Sub.cons (s := 20) rfl (Sub.cons (s := 21) rfl (Sub.cons (s := 22) rfl (Sub.cons (s := 23) rfl (Sub.cons (s := 24) rfl (Sub.cons (s := 25) rfl (Sub.cons (s := 26) rfl (Sub.cons (s := 27) rfl (Sub.cons (s := 28) rfl (Sub.cons (s := 29) rfl (Sub.cons (s := 30) rfl (Sub.cons (s := 31) rfl (Sub.cons (s := 32) rfl (Sub.cons (s := 34) rfl (Sub.cons (s := 35) rfl (Sub.cons (s := 36) rfl (Sub.cons (s := 37) rfl (Sub.cons (s := 38) rfl (Sub.nil _))))))))))))))))))))))))))))))))))) ?_
    rintro m ρ' B' H' ⟨dz, cur, ⟨hv, hfk, hhalf⟩, rfl, rfl, rfl, rfl⟩
    refine Cx.seq (fun K13 k13 => ?_)
    refine Cx.region ?_
    refine Lx.o (nxGF hs hv rfl) rfl (fun v B' H' hΦ hB => ?_)
    obtain ⟨o, dz2, rfl, ha, hBB, rfl⟩ := hΦ
    have hBB2 := hBB.symm
    subst hBB2
    clear hB
    refine Lx.y (ext rfl (gnx0 _)) rfl ?_
    refine Lx.nil ?_
    refine Xx.tn (k13 _ _ _ _ ?_)
    refine Cx.seq (fun K14 k14 => ?_)
    refine Cx.condB rfl (fun h15 => ?_) (fun h15 => ?_)
    · skip
      obtain ⟨z, rfl⟩ : ∃ z, o = some z := by
        cases o with
        | none => exact absurd h15 (by simp)
        | some z => exact ⟨z, rfl⟩
      obtain ⟨rfl, hzZ, hzn⟩ := ha
      have hv2 := hv.step hzZ hzn
      have hvl := hv2.len
      rw [List.length_append, List.length_singleton] at hvl
      have hzx : z.1 ∈ T.xs := by rw [← hZ]; exact List.mem_map.2 ⟨z, hzZ, rfl⟩
      obtain ⟨l, x, r, rfl, hxf, hxt⟩ := fk_find hfk hzx
      obtain ⟨xf, xt, xd, xc⟩ := x
      obtain rfl : xf = z.1.f := hxf
      obtain rfl : xt = z.1.tb := hxt
      rw [ixs_mid]
      simp only [star_assoc]
      have hnf : ((l ++ (⟨z.1.f, z.1.tb, xd, xc⟩ : Ix) :: r).map (·.f)).Nodup := by rw [fk_f hfk]; exact hT.nf
      have hxd : z.1.f ∉ dz.map (·.1.f) := by
        intro hm
        obtain ⟨z2, hz2, e2⟩ := List.mem_map.1 hm
        have hZf : (Z.map (fun z : Ix × Nat => z.1.f)).Nodup := by have := hT.nf; rw [← hZ, List.map_map] at this; exact this
        have e3 := map_inj (fun z : Ix × Nat => z.1.f) hZf (hv.1 _ hz2) hzZ e2
        exact hzn (List.mem_map.2 ⟨z2, hz2, by rw [e3]⟩)
      have htk : TK xd xc (fun k => ∃ d ∈ T.ds, k = keyD z.1.f d) := by
        have h9 := hhalf ⟨z.1.f, z.1.tb, xd, xc⟩ (by simp)
        simp only at h9
        rw [if_neg hxd] at h9; exact h9
      have hlx := htk.len
      refine Cx.skip ?_
      refine Xx.tn (k14 _ _ _ _ ?_)
      refine Cx.block ?_
      refine Cx.seq (fun K16 k16 => ?_)
      refine Cx.region ?_
      refine Lx.y (entGF hs hzZ rfl) rfl ?_
      refine Lx.y (ext rfl rfl) rfl ?_
      refine Lx.y (ext rfl rfl) rfl ?_
      refine Lx.y (asg rfl) rfl ?_
      refine Lx.y (asg rfl) rfl ?_
      refine Lx.nil ?_
      refine Xx.tn (k16 _ _ _ _ ?_)
      refine Cx.region ?_
      refine Lx.y (mv rfl) rfl ?_
      refine Lx.y (fa' fo36_2 rfl) rfl ?_
      refine Lx.y (ldA Tryz.underlying25 rfl sz25 rfl (Cells.own (n := 6) PickB.eq (show ((lookD n T.ds).drop 2).take 6 = vcs dc.v Ap cp An cn by rw [hlc, hsh]; rfl)) rfl) rfl ?_
      refine Lx.y (mv rfl) rfl ?_
      refine Lx.cb rfl rfl rfl (Get_ct 2 dc.v z.1.f 1 _ _ hval hchk) rfl ?_
      rintro r4 B9 ⟨hBB, cs9, rfl, hg9⟩ hB9
      have hBB2 := hBB.symm
      subst hBB2
      clear hB9
      refine Lx.y (mv rfl) rfl ?_
      refine Lx.cp rfl rfl rfl (Pair_ct 3 (getV dc.v z.1.f) n _ _ hg9 hM (by have h9 : (bytesF 3 (getV dc.v z.1.f)).length ≤ (bytesF 4 dc.v).length + 1 := getV_bytes (d := 2) z.1.f hchk; omega)) rfl ?_
      refine Lx.c rfl rfl rfl (DropT_ct xd xc z.1.tb (keyF 3 (getV dc.v z.1.f) ++ numL n) _ htk (by omega)) (Pick.eq) rfl ?_
      rintro r6 B9 H9 ⟨hBB, d3, c3, t3, rfl, rfl, ht3⟩ hB9
      have hBB2 := hBB.symm
      subst hBB2
      clear hB9
      have hkd : keyF 3 (getV dc.v z.1.f) ++ numL n = keyD z.1.f dc := by unfold keyD; rw [hdn]
      rw [hkd] at ht3
      have htk3 : TK d3 c3 (fun k => ∃ d ∈ dropD n T.ds, k = keyD z.1.f d) := ht3.congr (fun k => by rw [← hdn]; exact keys_drop hT (fun a b => keyD_n) hdc k)
      have hhalf2 := hhalf.step hnf htk3
      have hfk2 : (l ++ (⟨z.1.f, z.1.tb, d3, c3⟩ : Ix) :: r).map fk = T.xs.map fk := by rw [← hfk]; simp [fk]
      refine Lx.nil ?_
      refine Xx.bn ?_
      exact Xx.againK ⟨dz ++ [z], l ++ (⟨z.1.f, z.1.tb, d3, c3⟩ : Ix) :: r, ⟨hv2, hfk2, by rw [List.map_append]; exact hhalf2⟩, rfl, rfl, rfl, (by rw [ixs_mid]; ac_rfl)⟩ (by rw [List.length_append, List.length_singleton]; omega) (Sub.cons (s := 0) rfl (Sub.cons (s := 1) rfl (Sub.cons (s := 4) rfl (Sub.cons (s := 5) rfl (Sub.cons (s := 6) rfl (Sub.cons (s := 9) rfl (Sub.cons (s := 10) rfl (Sub.cons (s := 11) rfl (Sub.cons (s := 12) rfl (Sub.cons (s := 13) rfl (Sub.cons (s := 14) rfl (Sub.cons (s := 15) rfl (Sub.cons (s := 16) rfl (Sub.cons (s := 17) rfl (Sub.cons (s := 18) rfl (Sub.cons (s := 19) rfl (Sub.cons (s := 20) rfl (Sub.cons (s := 21) rfl (Sub.cons (s := 22) rfl (Sub.cons (s := 23) rfl (Sub.cons (s := 24) rfl (Sub.cons (s := 25) rfl (Sub.cons (s := 26) rfl (Sub.cons (s := 27) rfl (Sub.cons (s := 28) rfl (Sub.cons (s := 29) rfl (Sub.cons (s := 30) rfl (Sub.cons (s := 31) rfl (Sub.cons (s := 32) rfl (Sub.cons (s := 34) rfl (Sub.cons (s := 35) rfl (Sub.cons (s := 36) rfl (Sub.cons (s := 37) rfl (Sub.cons (s := 38) rfl (Sub.nil _)))))))))))))))))))))))))))))))))))
    · skip
      obtain rfl : o = none := by
        cases o with
        | none => rfl
        | some z => exact absurd h15 (by simp)
      obtain ⟨rfl, hall⟩ := ha
      have hp := hv.all hs hall
      rw [hZ] at hp
      refine Cx.exit ?_
      refine Xx.te ?_
      refine Xx.te ?_
      refine Xx.bh ?_
      refine Xx.tn (k11 _ _ _ _ ?_)
      refine Cx.seq (fun K18 k18 => ?_)
      refine Cx.region ?_
      refine Lx.y (asg rfl) rfl ?_
      refine Lx.nil ?_
      refine Xx.tn (k18 _ _ _ _ ?_)
      refine Cx.ret ?_
      refine Xx.dropB it (Xx.closeGF (κ := List UInt8) T.xb hs hZ (Xx.dropB b5 ?_))
      have hfin : ∀ y ∈ cur, TK y.d y.c (fun k => ∃ d ∈ dropD n T.ds, k = keyD y.f d) := fun y hy => by
        have h9 := hhalf y hy
        rw [if_pos] at h9
        · exact h9
        · have h8 : y.f ∈ T.xs.map (·.f) := by rw [← fk_f hfk]; exact List.mem_map.2 ⟨y, hy, rfl⟩
          have h7 := (hp.map (·.f)).mem_iff.2 h8
          rw [List.map_map] at h7; exact h7
      exact Xx.ret1 rfl rfl ⟨rfl, ⟨T.b, T.db, T.xb, T.ob, od2, oc2, dropD n T.ds, cur⟩, by rw [hyes], rfl, ⟨fun d hd => hT.docs d (dropD_mem.1 hd).1, dropD_nd hT.nd, hord2.congr (fun k => by rw [← hdn]; exact keys_drop hT hg1 hdc k), by rw [fk_f hfk]; exact hT.nf, hfin⟩, rfl, rfl, fk_f hfk⟩ (Frag.le_refl _) (by rw [← fk_ikv hfk]; ac_rfl)
end RwC
end Go.Proofs.YtdidpocakipinaaGreatDoor

/-
  A document is laid; an index is made.
-/
namespace Go.Proofs.YtdidpocakipinaaGreatDoor
open Go.SL Go.RowKit
set_option linter.unusedVariables false
set_option linter.unusedSimpArgs false
set_option maxRecDepth 100000
open Ke1 Ke3 Ke4 Ke5 Ke6 Ke7 Ke8 Ke9 KeA KeB KeC KeD KeE KeF KeG KeI RgA RgB BtB BtC BtD BtE BtG BtX BtH BtI BtF BtJ BtK BtL BtM BtN BtO BtR BtY BtZ DrA DrB DrC DrD DrE DrF RwA RwB RwC
namespace RwD
theorem sz25 : (Tryz.prog.info? 25).map (·.size) = some 6 := by kernel_rfl
theorem sz36 : (Tryz.prog.info? 36).map (·.size) = some 8 := by kernel_rfl
theorem fo36_0 : FO Tryz.prog 36 0 0 1 false := FO.of Tryz.underlying36 rfl rfl (by kernel_rfl) Tryz.underlying34 rfl rfl
theorem fo36_2 : FO Tryz.prog 36 2 2 6 true := FO.of Tryz.underlying36 rfl rfl (by kernel_rfl) Tryz.underlying25 rfl rfl
theorem fo87_0 : FO Tryz.prog 87 0 0 1 false := FO.of Tryz.underlying87 rfl rfl (by kernel_rfl) Tryz.underlying82 rfl rfl
theorem fo87_1 : FO Tryz.prog 87 1 1 1 false := FO.of Tryz.underlying87 rfl rfl (by kernel_rfl) Tryz.underlying83 rfl rfl
theorem fo87_2 : FO Tryz.prog 87 2 2 1 false := FO.of Tryz.underlying87 rfl rfl (by kernel_rfl) Tryz.underlying85 rfl rfl

theorem Half.one {S S' : List UInt8 → List UInt8 → Prop} {fs : List (List UInt8)} {T : Tb} {B : Frag} (hT : TabOk B T) {Z dz : List (Ix × Nat)} {z : Ix × Nat} (hZ : Z.map (·.1) = T.xs) (hv : GVisF Z dz) (hzZ : z ∈ Z) (hzn : ¬ z.2 ∈ dz.map (fun z => z.2)) : z.1.f ∉ dz.map (·.1.f) := by
  intro hm
  obtain ⟨z2, hz2, e2⟩ := List.mem_map.1 hm
  have hZf : (Z.map (fun z : Ix × Nat => z.1.f)).Nodup := by have := hT.nf; rw [← hZ, List.map_map] at this; exact this
  have e3 := map_inj (fun z : Ix × Nat => z.1.f) hZf (hv.1 _ hz2) hzZ e2
  exact hzn (List.mem_map.2 ⟨z2, hz2, by rw [e3]⟩)
theorem half_fin {S S' : List UInt8 → List UInt8 → Prop} {cur xs : List Ix} {dz : List (Ix × Nat)} (hfk : cur.map fk = xs.map fk) (h : Half S S' (dz.map (·.1.f)) cur) (hp : (dz.map (·.1)).Perm xs) : ∀ y ∈ cur, TK y.d y.c (S' y.f) := fun y hy => by
  have h9 := h y hy
  rw [if_pos] at h9
  · exact h9
  · have h8 : y.f ∈ xs.map (·.f) := by rw [← fk_f hfk]; exact List.mem_map.2 ⟨y, hy, rfl⟩
    have h7 := (hp.map (·.f)).mem_iff.2 h8
    rw [List.map_map] at h7; exact h7
/-- documents, without where they lie -/
def Dc.abs (d : Dc) : BitVec 64 × BitVec 64 × V := (d.n, d.ver, d.v)

set_option maxHeartbeats 4000000 in
theorem RPut_ct (T : Tb) (n ver : BitVec 64) (vv : V) (cs : List Value) (B : Frag) (hT : TabOk B T) (hM : MaxLenIn B) (hlen : T.ds.length ≤ 60) (hval : ValR B 4 vv cs) (hchk : checkF 4 vv 1 = 0) (hbyt : (bytesF 4 vv).length ≤ 1024) : Ct Tryz.prog 12 [.pointer (some ⟨T.b, 0, none⟩), .agg (u64 n :: u64 ver :: cs).toArray] B (tab T) (fun r B' H' => r = .tuple #[] ∧ ∃ T', H' = tab T' ∧ TabOk B' T' ∧ T'.b = T.b ∧ T'.ds.map Dc.abs = (dropD n T.ds).map Dc.abs ++ [(n, ver, vv)] ∧ T'.xs.map (·.f) = T.xs.map (·.f)) := by
  obtain ⟨Ap, cp, An, cn, rfl⟩ := ValR.shape hval
  refine Ct.of_body Tryz.func12 rfl (nt := 50) rfl (by kernel_rfl) rfl ?_
  intro N0 w0 R
  refine Cx.seq (fun K1 k1 => ?_)
  refine Cx.region ?_
  refine Lx.new (boxA rfl) rfl (fun b3 => ?_)
  refine Lx.nil ?_
  refine Xx.tn (k1 _ _ _ _ ?_)
  refine Cx.seq (fun K2 k2 => ?_)
  refine Cx.seq (fun K3 k3 => ?_)
  refine Cx.region ?_
  refine Lx.y (mv rfl) rfl ?_
  refine Lx.y (Yx.ff (eqNilP Tryz.underlying31 rfl rfl) rfl) rfl ?_
  refine Lx.nil ?_
  refine Xx.tn (k3 _ _ _ _ ?_)
  refine Cx.condF rfl ?_
  refine Cx.skip ?_
  refine Xx.tn (k2 _ _ _ _ ?_)
  refine Cx.seq (fun K4 k4 => ?_)
  refine Cx.region ?_
  refine Lx.y (mv rfl) rfl ?_
  refine Lx.y (fa' fo36_0 rfl) rfl ?_
  refine Lx.y (ld Tryz.underlying34 rfl rfl rfl) rfl ?_
  refine Lx.c rfl rfl rfl (RDrop_ct T n _ hT hM (by omega)) (Pick.eq) rfl ?_
  rintro r1 B4 H4 ⟨hBB, T1, rfl, rfl, hT1, hb1, hds1, hxf1⟩ hB4
  have hBB2 := hBB.symm
  subst hBB2
  clear hB4
  rw [← hb1]
  refine Lx.nil ?_
  refine Xx.tn (k4 _ _ _ _ ?_)
  refine Cx.seq (fun K5 k5 => ?_)
  refine Cx.region ?_
  refine Lx.y (fa' fo36_2 rfl) rfl ?_
  refine Lx.y (ldA Tryz.underlying25 rfl sz25 rfl (Cells.own (n := 6) PickB.eq (show ((u64 n :: u64 ver :: vcs vv Ap cp An cn).drop 2).take 6 = vcs vv Ap cp An cn from rfl)) rfl) rfl ?_
  refine Lx.cb rfl rfl rfl (Clone_ct 4 vv _ 1 _ hval hchk) rfl ?_
  rintro r2 B5 ⟨cs2, rfl, hval2⟩ hB5
  obtain ⟨Ap2, cp2, An2, cn2, rfl⟩ := ValR.shape hval2
  refine Lx.y (fa' fo36_2 rfl) rfl ?_
  refine Lx.st (stA (d := .bool) (cs' := u64 n :: u64 ver :: vcs vv Ap2 cp2 An2 cn2) sz25 rfl rfl rfl rfl (by show 2 + 6 ≤ 8; omega) rfl) ?_
  refine Lx.nil ?_
  refine Xx.tn (k5 _ _ _ _ ?_)
  refine Cx.seq (fun K7 k7 => ?_)
  unfold tab
  simp only [star_assoc]
  have hT5 := hT1.mono hB5
  have hol := hT1.ord.len
  generalize hds9 : T1.ds = ds1 at *
  have hdl : ds1.length ≤ T.ds.length := by rw [hds1]; exact dropD_len
  obtain ⟨dn, hdn⟩ : ∃ dn : Dc, dn = ⟨n, ver, vv, vcs vv Ap2 cp2 An2 cn2⟩ := ⟨_, rfl⟩
  have hnew : ∀ y ∈ ds1, y.n ≠ dn.n := fun y hy => by rw [hds1] at hy; rw [hdn]; exact (dropD_mem.1 hy).2
  refine Cx.drawn (by kernel_rfl) ?_
  refine Dx.p (i := 0) rfl (by kernel_rfl) (mv rfl) rfl ?_
  refine Dx.p (i := 1) rfl (by kernel_rfl) (nilc rfl) rfl ?_
  refine Dx.p (i := 2) rfl (by kernel_rfl) (fa' fo87_0 rfl) rfl ?_
  refine Dx.r (i := 3) rfl (by kernel_rfl) (ld Tryz.underlying82 rfl rfl rfl) rfl ?_
  refine Dx.p (i := 4) rfl (by kernel_rfl) (fa' fo36_0 rfl) rfl ?_
  refine Dx.r (i := 5) rfl (by kernel_rfl) (ld Tryz.underlying34 rfl rfl rfl) rfl ?_
  refine Dx.r (i := 6) rfl (by kernel_rfl) (ldA Tryz.underlying36 rfl sz36 rfl (Cells.own (n := 8) PickB.eq (show ((u64 n :: u64 ver :: vcs vv Ap2 cp2 An2 cn2).drop 0).take 8 = dn.cells from by rw [hdn]; rfl)) (by rw [hdn]; rfl)) rfl ?_
  refine Dx.one (i := 7) (by kernel_rfl) ?_
  refine Dstep.o0 (i := 7) rfl (stG (κ := BitVec 64) (k := n) (v := .agg dn.cells.toArray) Tryz.underlying82 Tryz.underlying34 rfl rfl rfl) (fun v B' H' hΦ hB => ?_)
  obtain ⟨hBB, rfl⟩ := hΦ
  have hBB2 := hBB.symm
  subst hBB2
  clear hB
  rw [show gset n (Value.agg dn.cells.toArray) (ds1.map dkv) = (ds1 ++ [dn]).map dkv from by have h9 := gset_new (kv := dkv) dkv_k hnew; rw [← h9, hdn]; rfl]
  refine ⟨JOk.edge (JOk.edge (JOk.edge (JOk.top) (by kernel_rfl)) (by kernel_rfl)) (by kernel_rfl), ?_⟩
  refine Dx.done (by kernel_rfl) ?_
  refine Xx.tn (k7 _ _ _ _ ?_)
  refine Cx.seq (fun K8 k8 => ?_)
  refine Cx.drawn (by kernel_rfl) ?_
  refine Dx.p (i := 0) rfl (by kernel_rfl) (mv rfl) rfl ?_
  refine Dx.p (i := 1) rfl (by kernel_rfl) (nilc rfl) rfl ?_
  refine Dx.p (i := 2) rfl (by kernel_rfl) (fa' fo87_1 rfl) rfl ?_
  refine Dx.r (i := 3) rfl (by kernel_rfl) (ld Tryz.underlying83 rfl rfl rfl) rfl ?_
  refine Dx.p (i := 4) rfl (by kernel_rfl) (fa' fo36_0 rfl) rfl ?_
  refine Dx.r (i := 5) rfl (by kernel_rfl) (ld Tryz.underlying34 rfl rfl rfl) rfl ?_
  refine Dx.one (i := 6) (by kernel_rfl) ?_
  refine Dstep.o (i := 6) rfl (Ox.cb rfl rfl rfl (Number_ct n _)) rfl (fun v B' H' hΦ hB => ?_)
  obtain ⟨rfl, rfl, hBB⟩ := hΦ; have hBB2 := hBB.symm; subst hBB2; clear hB
  refine ⟨JOk.edge (JOk.yes (JOk.top) (ld Tryz.underlying83 rfl rfl rfl)) (by kernel_rfl), ?_⟩
  refine Dx.one (i := 7) (by kernel_rfl) ?_
  refine Dstep.o (i := 7) rfl (Ox.call rfl rfl rfl (PutT_ct T1.od T1.oc T1.ob (numL n) _ hT1.ord (by omega)) (Pick.eq)) rfl (fun v B' H' hΦ hB => ?_)
  obtain ⟨_, rfl, hΦ⟩ := hΦ
  obtain ⟨hBB, od2, oc2, t2, rfl, rfl, hord2⟩ := hΦ
  have hBB2 := hBB.symm
  subst hBB2
  clear hB
  rw [hds9] at hord2
  refine ⟨JOk.yes (JOk.edge (JOk.top) (by kernel_rfl)) (ld Tryz.underlying34 rfl rfl rfl), ?_⟩
  refine Dx.done (by kernel_rfl) ?_
  refine Xx.tn (k8 _ _ _ _ ?_)
  refine Cx.seq (fun K9 k9 => ?_)
  refine Cx.region ?_
  refine Lx.y (mv rfl) rfl ?_
  refine Lx.y (nilc rfl) rfl ?_
  refine Lx.y (fa' fo87_2 rfl) rfl ?_
  refine Lx.y (ld Tryz.underlying85 rfl rfl rfl) rfl ?_
  refine Xx.openGF (κ := List UInt8) (kv := ikv) T1.xb fun Z c9 hs hZ => ?_
  refine Lx.o (rgG (κ := List UInt8) Tryz.underlying85 rfl) rfl (fun v B' H' hΦ hB => ?_)
  obtain ⟨it, rfl, hBB, rfl⟩ := hΦ
  have hBB2 := hBB.symm
  subst hBB2
  clear hB
  refine Lx.nil ?_
  refine Xx.tn (k9 _ _ _ _ ?_)
  refine Cx.block ?_
  refine Cx.loopK (Sub.cons (s := 0) rfl (Sub.cons (s := 1) rfl (Sub.cons (s := 3) rfl (Sub.cons (s := 6) rfl (Sub.cons (s := 7) rfl (Sub.cons (s := 8) rfl (Sub.cons (s := 9) rfl (Sub.cons (s := 10) rfl (Sub.cons (s := 12) rfl (Sub.cons (s := 13) rfl (Sub.cons (s := 14) rfl (Sub.cons (s := 15) rfl (Sub.cons (s := 16) rfl (Sub.cons (s := 17) rfl (Sub.cons (s := 18) rfl (Sub.cons (s := 19) rfl (Sub.cons (s := 20) rfl (Sub.cons (s := 21) rfl (Sub.cons (s := 22) rfl (Sub.cons (s := 23) rfl (Sub.cons (s := 24) rfl (Sub.cons (s := 25) rfl (Sub.cons (s := 26) rfl (Sub.cons (s := 27) rfl (Sub.cons (s := 28) rfl (Sub.cons (s := 29) rfl (Sub.cons (s := 31) rfl (Sub.cons (s := 32) rfl (Sub.cons (s := 33) rfl (Sub.cons (s := 34) rfl (Sub.cons (s := 35) rfl (Sub.nil _)))))))))))))))))))))))))))))))) (fun m ρ' B' H' => ∃ (dz : List (Ix × Nat)) (cur : List Ix), (GVisF Z dz ∧ cur.map fk = T1.xs.map fk ∧ Half (fun f k => ∃ x ∈ ds1, k = keyD f x) (fun f k => k = keyD f dn ∨ ∃ x ∈ ds1, k = keyD f x) (dz.map (·.1.f)) cur) ∧ m = Z.length - dz.length ∧ ρ' = [] ∧ B5 = B' ∧ blk it (gitObj T1.xb c9 (dz.map (gz ikv))) * (blk T1.xb (gObj (Z.map (gz ikv)) c9) * (ixs cur * (tre T1.ob od2 oc2 * (gmap T1.db ((ds1 ++ [dn]).map dkv) * (row b3 36 (u64 n :: u64 ver :: vcs vv Ap2 cp2 An2 cn2) * (rowT T1 * R)))))) = H') ⟨[], T1.xs, ⟨GVisF.nil Z, rfl, fun x hx => by show TK x.d x.c (if x.f ∈ [] then _ else _); rw [if_neg List.not_mem_nil, ← hds9]; exact hT1.idx x hx⟩, rfl, rfl, rfl, by ac_rfl⟩ (Sub.cons (s := 0) rfl (Sub.cons (s := 1) rfl (Sub.cons (s := 3) rfl (Sub.cons (s := 6) rfl (Sub.cons (s := 7) rfl (Sub.cons (s := 8) rfl (Sub.cons (s := 9) rfl (Sub.cons (s := 10) rfl (Sub.cons (s := 12) rfl (Sub.cons (s := 13) rfl (Sub.cons (s := 14) rfl (Sub.cons (s := 15) rfl (Sub.cons (s := 16) rfl (Sub.cons (s := 17) rfl (Sub.cons (s := 18) rfl (Sub.cons (s := 19) rfl (Sub.cons (s := 20) rfl (Sub.cons (s := 21) rfl (Sub.cons (s := 22) rfl (Sub.cons (s := 23) rfl (Sub.cons (s := 24) rfl (Sub.cons (s := 25) rfl (Sub.cons (s := 26) rfl (Sub.cons (s := 27) rfl (Sub.cons (s := 28) rfl (Sub.cons (s := 29) rfl (Sub.cons (s := 31) rfl (Sub.cons (s := 32) rfl (Sub.cons (s := 33) rfl (Sub.cons (s := 34) rfl (Sub.cons (s := 35) rfl (Sub.nil _)))))))))))))))))))))))))))))))) ?_
  rintro m ρ' B' H' ⟨dz, cur, ⟨hv, hfk, hhalf⟩, rfl, rfl, rfl, rfl⟩
  refine Cx.seq (fun K10 k10 => ?_)
  refine Cx.region ?_
  refine Lx.o (nxGF hs hv rfl) rfl (fun v B' H' hΦ hB => ?_)
  obtain ⟨o, dz2, rfl, ha, hBB, rfl⟩ := hΦ
  have hBB2 := hBB.symm
  subst hBB2
  clear hB
  refine Lx.y (ext rfl (gnx0 _)) rfl ?_
  refine Lx.nil ?_
  refine Xx.tn (k10 _ _ _ _ ?_)
  refine Cx.seq (fun K11 k11 => ?_)
  refine Cx.condB rfl (fun h12 => ?_) (fun h12 => ?_)
  · skip
    obtain ⟨z, rfl⟩ : ∃ z, o = some z := by
      cases o with
      | none => exact absurd h12 (by simp)
      | some z => exact ⟨z, rfl⟩
    obtain ⟨rfl, hzZ, hzn⟩ := ha
    have hv2 := hv.step hzZ hzn
    have hvl := hv2.len
    rw [List.length_append, List.length_singleton] at hvl
    have hzx : z.1 ∈ T1.xs := by rw [← hZ]; exact List.mem_map.2 ⟨z, hzZ, rfl⟩
    obtain ⟨l, x, r, rfl, hxf, hxt⟩ := fk_find hfk hzx
    obtain ⟨xf, xt, xd, xc⟩ := x
    obtain rfl : xf = z.1.f := hxf
    obtain rfl : xt = z.1.tb := hxt
    rw [ixs_mid]
    simp only [star_assoc]
    have hnf : ((l ++ (⟨z.1.f, z.1.tb, xd, xc⟩ : Ix) :: r).map (·.f)).Nodup := by rw [fk_f hfk]; exact hT1.nf
    have hxd := Half.one (S := fun _ _ => True) (S' := fun _ _ => True) (fs := []) hT1 hZ hv hzZ hzn
    have htk : TK xd xc (fun k => ∃ d ∈ ds1, k = keyD z.1.f d) := by
      have h9 := hhalf ⟨z.1.f, z.1.tb, xd, xc⟩ (by simp)
      simp only at h9
      rw [if_neg hxd] at h9; exact h9
    have hlx := htk.len
    refine Cx.skip ?_
    refine Xx.tn (k11 _ _ _ _ ?_)
    refine Cx.block ?_
    refine Cx.seq (fun K13 k13 => ?_)
    refine Cx.region ?_
    refine Lx.y (entGF hs hzZ rfl) rfl ?_
    refine Lx.y (ext rfl rfl) rfl ?_
    refine Lx.y (ext rfl rfl) rfl ?_
    refine Lx.y (asg rfl) rfl ?_
    refine Lx.y (asg rfl) rfl ?_
    refine Lx.nil ?_
    refine Xx.tn (k13 _ _ _ _ ?_)
    refine Cx.drawn (by kernel_rfl) ?_
    refine Dx.p (i := 0) rfl (by kernel_rfl) (mv rfl) rfl ?_
    refine Dx.p (i := 1) rfl (by kernel_rfl) (fa' fo36_2 rfl) rfl ?_
    refine Dx.r (i := 2) rfl (by kernel_rfl) (ldA Tryz.underlying25 rfl sz25 rfl (Cells.own (n := 6) PickB.eq (show ((u64 n :: u64 ver :: vcs vv Ap2 cp2 An2 cn2).drop 2).take 6 = vcs vv Ap2 cp2 An2 cn2 from rfl)) rfl) rfl ?_
    refine Dx.p (i := 3) rfl (by kernel_rfl) (mv rfl) rfl ?_
    refine Dx.p (i := 5) rfl (by kernel_rfl) (fa' fo36_0 rfl) rfl ?_
    refine Dx.r (i := 6) rfl (by kernel_rfl) (ld Tryz.underlying34 rfl rfl rfl) rfl ?_
    refine Dx.one (i := 4) (by kernel_rfl) ?_
    refine Dstep.o (i := 4) rfl (Ox.cb rfl rfl rfl (RgA.Get_ct 2 vv z.1.f 1 _ _ hval2 hchk)) rfl (fun v B' H' hΦ hB => ?_)
    obtain ⟨rfl, hΦ⟩ := hΦ
    obtain ⟨hBB, cs9, rfl, hg9⟩ := hΦ
    have hBB2 := hBB.symm
    subst hBB2
    clear hB
    refine ⟨JOk.yes (JOk.edge (JOk.top) (by kernel_rfl)) (ld Tryz.underlying34 rfl rfl rfl), ?_⟩
    refine Dx.one (i := 7) (by kernel_rfl) ?_
    refine Dstep.o (i := 7) rfl (Ox.cb rfl rfl rfl (Pair_ct 3 (getV vv z.1.f) n _ _ hg9 (hM.mono hB5) (by have h9 : (bytesF 3 (getV vv z.1.f)).length ≤ (bytesF 4 vv).length + 1 := getV_bytes (d := 2) z.1.f hchk; omega))) rfl (fun v B' H' hΦ hB => ?_)
    obtain ⟨rfl, rfl, hBB⟩ := hΦ; have hBB2 := hBB.symm; subst hBB2; clear hB
    refine ⟨JOk.edge (JOk.yes (JOk.top) (ldA Tryz.underlying25 rfl sz25 rfl (Cells.own (n := 6) PickB.eq (show ((u64 n :: u64 ver :: vcs vv Ap2 cp2 An2 cn2).drop 2).take 6 = vcs vv Ap2 cp2 An2 cn2 from rfl)) rfl)) (by kernel_rfl), ?_⟩
    refine Dx.one (i := 8) (by kernel_rfl) ?_
    refine Dstep.o (i := 8) rfl (Ox.call rfl rfl rfl (PutT_ct xd xc z.1.tb (keyF 3 (getV vv z.1.f) ++ numL n) _ htk (by omega)) (Pick.eq)) rfl (fun v B' H' hΦ hB => ?_)
    obtain ⟨_, rfl, hΦ⟩ := hΦ
    obtain ⟨hBB, d3, c3, t3, rfl, rfl, ht3⟩ := hΦ
    have hBB2 := hBB.symm
    subst hBB2
    clear hB
    have hkd : keyF 3 (getV vv z.1.f) ++ numL n = keyD z.1.f dn := by rw [hdn]; rfl
    rw [hkd] at ht3
    have hhalf2 := hhalf.step hnf ht3
    have hfk2 : (l ++ (⟨z.1.f, z.1.tb, d3, c3⟩ : Ix) :: r).map fk = T1.xs.map fk := by rw [← hfk]; simp [fk]
    refine ⟨JOk.yes (JOk.yes (JOk.top) (ldA Tryz.underlying25 rfl sz25 rfl (Cells.own (n := 6) PickB.eq (show ((u64 n :: u64 ver :: vcs vv Ap2 cp2 An2 cn2).drop 2).take 6 = vcs vv Ap2 cp2 An2 cn2 from rfl)) rfl)) (ld Tryz.underlying34 rfl rfl rfl), ?_⟩
    refine Dx.done (by kernel_rfl) ?_
    refine Xx.bn ?_
    exact Xx.againK ⟨dz ++ [z], l ++ (⟨z.1.f, z.1.tb, d3, c3⟩ : Ix) :: r, ⟨hv2, hfk2, by rw [List.map_append]; exact hhalf2⟩, rfl, rfl, rfl, (by rw [ixs_mid]; ac_rfl)⟩ (by rw [List.length_append, List.length_singleton]; omega) (Sub.cons (s := 0) rfl (Sub.cons (s := 1) rfl (Sub.cons (s := 3) rfl (Sub.cons (s := 6) rfl (Sub.cons (s := 7) rfl (Sub.cons (s := 8) rfl (Sub.cons (s := 9) rfl (Sub.cons (s := 10) rfl (Sub.cons (s := 12) rfl (Sub.cons (s := 13) rfl (Sub.cons (s := 14) rfl (Sub.cons (s := 15) rfl (Sub.cons (s := 16) rfl (Sub.cons (s := 17) rfl (Sub.cons (s := 18) rfl (Sub.cons (s := 19) rfl (Sub.cons (s := 20) rfl (Sub.cons (s := 21) rfl (Sub.cons (s := 22) rfl (Sub.cons (s := 23) rfl (Sub.cons (s := 24) rfl (Sub.cons (s := 25) rfl (Sub.cons (s := 26) rfl (Sub.cons (s := 27) rfl (Sub.cons (s := 28) rfl (Sub.cons (s := 29) rfl (Sub.cons (s := 31) rfl (Sub.cons (s := 32) rfl (Sub.cons (s := 33) rfl (Sub.cons (s := 34) rfl (Sub.cons (s := 35) rfl (Sub.nil _))))))))))))))))))))))))))))))))
  · skip
    obtain rfl : o = none := by
      cases o with
      | none => rfl
      | some z => exact absurd h12 (by simp)
    obtain ⟨rfl, hall⟩ := ha
    have hp := hv.all hs hall
    rw [hZ] at hp
    refine Cx.exit ?_
    refine Xx.te ?_
    refine Xx.te ?_
    refine Xx.bh ?_
    refine Xx.dropB it (Xx.closeGF (κ := List UInt8) T1.xb hs hZ (Xx.dropB b3 ?_))
    have hfin := half_fin hfk hhalf hp
    have hmem : ∀ (g : Dc → List UInt8) (k : List UInt8), (k = g dn ∨ ∃ x ∈ ds1, k = g x) ↔ ∃ x ∈ ds1 ++ [dn], k = g x := fun g k => by
      constructor
      · rintro (h | ⟨x, hx, h⟩)
        · exact ⟨dn, by simp, h⟩
        · exact ⟨x, by simp [hx], h⟩
      · rintro ⟨x, hx, h⟩
        rcases List.mem_append.1 hx with hx | hx
        · exact .inr ⟨x, hx, h⟩
        · rw [List.mem_singleton.1 hx] at h; exact .inl h
    have hdnok : DOk B5 dn := by rw [hdn]; exact ⟨hval2, hchk, hbyt⟩
    exact Xx.end0 rfl ⟨rfl, ⟨T1.b, T1.db, T1.xb, T1.ob, od2, oc2, ds1 ++ [dn], cur⟩, rfl, ⟨fun d hd => by rcases List.mem_append.1 hd with h9 | h9; exact hT5.docs d (by rw [hds9]; exact h9); rw [List.mem_singleton.1 h9]; exact hdnok, by rw [List.map_append, List.nodup_append]; exact ⟨by rw [← hds9]; exact hT1.nd, by simp, fun a ha b hb e => by obtain ⟨y, hy, rfl⟩ := List.mem_map.1 ha; rw [List.map_singleton, List.mem_singleton] at hb; exact hnew y hy (e.trans hb)⟩, hord2.congr (fun k => by rw [show numL n = numL dn.n by rw [hdn]]; exact hmem (fun d => numL d.n) k), by rw [fk_f hfk]; exact hT1.nf, fun y hy => (hfin y hy).congr (hmem (keyD y.f))⟩, hb1, by rw [List.map_append, hds1]; rw [hdn]; rfl, by rw [fk_f hfk]; exact hxf1⟩ (hB5) (by unfold tab; rw [← fk_ikv hfk]; ac_rfl)
end RwD
end Go.Proofs.YtdidpocakipinaaGreatDoor
