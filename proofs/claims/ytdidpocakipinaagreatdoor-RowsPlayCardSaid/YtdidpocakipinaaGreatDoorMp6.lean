/-
  Texts of this seat, one behind the other: RgB, SlC, RwA, RwB, RwC, RwD, RwE, Slw, Slx, Slz, RwF, BtS, RwG, RwH, RwI, RwJ, RwK.
-/
import Derived.Test.YtdidpocakipinaaGreatDoorProg
import Derived.Deep.AppendSrc
import Derived.Lib.UnsafeStr
import Derived.Test.YtdidpocakipinaaGreatDoorMp5
set_option linter.unusedSimpArgs false
set_option linter.unusedVariables false
namespace Go.Proofs.YtdidpocakipinaaGreatDoor
open Go.SL Go.RowKit
set_option maxRecDepth 100000
open Ke1 Ke3 Ke4 Ke5 Ke6 Ke7 Ke8 Ke9 KeA KeB KeC KeD KeE KeF KeG KeI RgA
namespace RgB
theorem sz9 : (Tryz.prog.info? 9).map (·.size) = some 1 := by kernel_rfl
theorem sz22 : (Tryz.prog.info? 22).map (·.size) = some 1 := by kernel_rfl
theorem sz23 : (Tryz.prog.info? 23).map (·.size) = some 1 := by kernel_rfl
theorem sz25 : (Tryz.prog.info? 25).map (·.size) = some 6 := by kernel_rfl
theorem sz76 : (Tryz.prog.info? 76).map (·.size) = some 7 := by kernel_rfl
theorem ti9 : TI Tryz.prog 9 [str []] 1 16 := TI.of (by kernel_rfl) rfl rfl
theorem ti25 : TI Tryz.prog 25 [.int .i64 0, .bool false, .int .i64 0, str [], .slice none 0 0, .slice none 0 0] 6 88 := TI.of (by kernel_rfl) rfl rfl
theorem ti76 : TI Tryz.prog 76 [str [], .int .i64 0, .bool false, .int .i64 0, str [], .slice none 0 0, .slice none 0 0] 7 104 := TI.of (by kernel_rfl) rfl rfl
theorem fo25_4 : FO Tryz.prog 25 4 4 1 false := FO.of U25 rfl rfl (by kernel_rfl) U22 rfl rfl
theorem fo25_5 : FO Tryz.prog 25 5 5 1 false := FO.of U25 rfl rfl (by kernel_rfl) U23 rfl rfl
theorem fo76_0 : FO Tryz.prog 76 0 0 1 false := FO.of U76 rfl rfl (by kernel_rfl) U9 rfl rfl
theorem fo76_1 : FO Tryz.prog 76 1 1 6 true := FO.of U76 rfl rfl (by kernel_rfl) U25 rfl rfl
theorem pl25 : PL Tryz.prog 25 [(0, 1), (1, 1), (2, 1), (3, 1), (4, 1), (5, 1)] := PL.of U25 (by kernel_rfl)
theorem pl76 : PL Tryz.prog 76 [(0, 1), (1, 6)] := PL.of U76 (by kernel_rfl)
set_option maxHeartbeats 1000000 in
theorem InsF_end (A : Option Addr) (n c : Nat) (xs : List Value) (vb : Nat) (etv : TypeId) (news : List Value) (B : Frag) (hns : news.length = 7) (hn1 : news.all (·.oneCell') = true) (hbd : (n + 1) * 104 ≤ 140737488355328) : Ct Tryz.prog 31 [.slice A n c, i64 (n : Nat), .slice (some ⟨vb, 0, none⟩) 1 1] B (sbuf 76 7 A n c xs * row vb etv news) (fun v B' H' => ∃ A' c', v = .slice A' (n + 1) c' ∧ B' = B ∧ H' = sbuf 76 7 A' (n + 1) c' (xs ++ news) ∧ (∃ b, A' = some ⟨b, 0, none⟩) ∧ n + 1 ≤ c') := by
 refine Ct.of_body Tryz.func31 rfl (nt := 95) rfl (by kernel_rfl) rfl ?_
 intro N0 w0 R
 rw [star_assoc]
 refine Cx.seq (fun K1 k1 => ?_)
 refine Cx.region <| Lx.y (asg rfl) rfl <| Lx.nil <| ?_
 refine Xx.tn (k1 _ _ _ _ ?_)
 refine Cx.seq (fun K2 k2 => ?_)
 refine Cx.region <| Lx.y (mv rfl) rfl <| Lx.y (mv rfl) rfl <| Lx.y (sl1V U72 sz76 rfl rfl (Int.toNat_natCast _) (by omega) (by omega)) rfl <| Lx.nil <| ?_
 refine Xx.tn (k2 _ _ _ _ ?_)
 refine Cx.seq (fun K3 k3 => ?_)
 refine Cx.region <| Lx.y (mv rfl) rfl <| Lx.y (lenV (ty' := 0) U72 rfl) rfl <| Lx.y (asg rfl) rfl <| Lx.nil <| ?_
 refine Xx.tn (k3 _ _ _ _ ?_)
 refine Cx.seq (fun K4 k4 => ?_)
 refine Cx.seq (fun K5 k5 => ?_)
 refine Cx.region <| Lx.y (mv rfl) rfl <| Lx.y (eqI rfl rfl) rfl <| Lx.nil <| ?_
 refine Xx.tn (k5 _ _ _ _ ?_)
 refine Cx.condD rfl (fun h6 => ?_) (fun h6 => ?_)
 ·
  exact absurd h6 (by decide)
 ·
  refine Cx.skip ?_
  refine Xx.tn (k4 _ _ _ _ ?_)
  refine Cx.seq (fun K7 k7 => ?_)
  refine Cx.region <| Lx.y (mv rfl) rfl <| Lx.y (lenV (ty' := 0) U72 rfl) rfl <| Lx.y (asg rfl) rfl <| Lx.nil <| ?_
  refine Xx.tn (k7 _ _ _ _ ?_)
  refine Cx.seq (fun K8 k8 => ?_)
  refine Cx.seq (fun K9 k9 => ?_)
  refine Cx.region <| Lx.y (mv rfl) rfl <| Lx.y (mv rfl) rfl <| Lx.y (eqI rfl rfl) rfl <| Lx.nil <| ?_
  refine Xx.tn (k9 _ _ _ _ ?_)
  refine Cx.condD rfl (fun h10 => ?_) (fun h10 => ?_)
  ·
   refine Cx.seq (fun K11 k11 => ?_)
   refine Cx.region <| Lx.y (mv rfl) rfl <| Lx.y (mv rfl) rfl <| ?_
   refine Lx.o (appN (et := 76) (n + 1) news (xs ++ news) U72 U72 ti76 rfl rfl (by rw [hns]) (by rw [List.drop_zero, List.take_of_length_le (by omega)]) hn1 (by omega) (by omega) rfl rfl) rfl (fun v B' H' hΦ hB => ?_)
   obtain ⟨A3, c3, rfl, hA3, hl3, hc3, hBB, rfl⟩ := hΦ
   obtain rfl := hBB.symm
   clear hB
   refine Lx.y (asg rfl) rfl <| Lx.nil <| ?_
   refine Xx.tn (k11 _ _ _ _ ?_)
   refine Cx.ret <| Xx.tr <| ?_
   exact Xx.dropB vb (Xx.ret1 rfl rfl ⟨A3, c3, rfl, rfl, rfl, hA3 (by omega), hc3⟩ (Frag.le_refl _) rfl)
  ·
   exact absurd rfl h10
set_option maxHeartbeats 1000000 in
theorem InsF_mid (b : Nat) (sp : List Value) (i n c : Nat) (xs : List Value) (vb : Nat) (etv : TypeId) (news : List Value) (B : Frag) (hi : i < n) (hxl : xs.length = n * 7) (hnc : n ≤ c) (hcl : (xs ++ sp).length = c * 7) (hx1 : xs.all (·.oneCell') = true) (hns : news.length = 7) (hn1 : news.all (·.oneCell') = true) (hbd : (n + 1) * 104 ≤ 140737488355328) : Ct Tryz.prog 31 [.slice (some ⟨b, 0, none⟩) n c, i64 (i : Nat), .slice (some ⟨vb, 0, none⟩) 1 1] B (row vb etv news * row b 76 (xs ++ sp)) (fun v B' H' => ∃ b' c' sp', v = .slice (some ⟨b', 0, none⟩) (n + 1) c' ∧ B' = B ∧ H' = row b' 76 (xs.take (i * 7) ++ news ++ xs.drop (i * 7) ++ sp') ∧ (xs.take (i * 7) ++ news ++ xs.drop (i * 7) ++ sp').length = c' * 7 ∧ n + 1 ≤ c') := by
 have hxl2 := hcl
 rw [List.length_append] at hxl2
 have hDl : (xs.drop (i * 7)).length = (n - i) * 7 := by rw [List.length_drop]; omega
 have hD1 : (xs.drop (i * 7)).all (·.oneCell') = true := by rw [List.all_eq_true] at hx1 ⊢; exact fun v hv => hx1 v (List.mem_of_mem_drop hv)
 have hTl : (xs.take (i * 7)).length = i * 7 := by rw [List.length_take]; omega
 refine Ct.of_body Tryz.func31 rfl (nt := 95) rfl (by kernel_rfl) rfl ?_
 intro N0 w0 R
 rw [star_assoc]
 refine Cx.seq (fun K1 k1 => ?_)
 refine Cx.region <| Lx.y (asg rfl) rfl <| Lx.nil <| ?_
 refine Xx.tn (k1 _ _ _ _ ?_)
 refine Cx.seq (fun K2 k2 => ?_)
 refine Cx.region <| Lx.y (mv rfl) rfl <| Lx.y (mv rfl) rfl <| Lx.y (sl1V U72 sz76 rfl rfl (Int.toNat_natCast _) (by omega) (by omega)) rfl <| Lx.nil <| ?_
 refine Xx.tn (k2 _ _ _ _ ?_)
 refine Cx.seq (fun K3 k3 => ?_)
 refine Cx.region <| Lx.y (mv rfl) rfl <| Lx.y (lenV (ty' := 0) U72 rfl) rfl <| Lx.y (asg rfl) rfl <| Lx.nil <| ?_
 refine Xx.tn (k3 _ _ _ _ ?_)
 refine Cx.seq (fun K4 k4 => ?_)
 refine Cx.seq (fun K5 k5 => ?_)
 refine Cx.region <| Lx.y (mv rfl) rfl <| Lx.y (eqI rfl rfl) rfl <| Lx.nil <| ?_
 refine Xx.tn (k5 _ _ _ _ ?_)
 refine Cx.condD rfl (fun h6 => ?_) (fun h6 => ?_)
 ·
  exact absurd h6 (by decide)
 ·
  refine Cx.skip ?_
  refine Xx.tn (k4 _ _ _ _ ?_)
  refine Cx.seq (fun K7 k7 => ?_)
  refine Cx.region <| Lx.y (mv rfl) rfl <| Lx.y (lenV (ty' := 0) U72 rfl) rfl <| Lx.y (asg rfl) rfl <| Lx.nil <| ?_
  refine Xx.tn (k7 _ _ _ _ ?_)
  refine Cx.seq (fun K8 k8 => ?_)
  refine Cx.seq (fun K9 k9 => ?_)
  refine Cx.region <| Lx.y (mv rfl) rfl <| Lx.y (mv rfl) rfl <| Lx.y (eqI rfl rfl) rfl <| Lx.nil <| ?_
  refine Xx.tn (k9 _ _ _ _ ?_)
  refine Cx.condD rfl (fun h10 => ?_) (fun h10 => ?_)
  ·
   exact absurd h10 (by omega)
  ·
   refine Cx.skip ?_
   refine Xx.tn (k8 _ _ _ _ ?_)
   refine Cx.seq (fun K11 k11 => ?_)
   refine Cx.seq (fun K12 k12 => ?_)
   refine Cx.region <| Lx.y (mv rfl) rfl <| Lx.y (mv rfl) rfl <| Lx.y (add rfl rfl (by first | exact wrap64 (by omega) (by omega) | rfl)) rfl <| Lx.y (mv rfl) rfl <| Lx.y (capV U72 rfl) rfl <| Lx.y (gtr rfl rfl) rfl <| Lx.nil <| ?_
   refine Xx.tn (k12 _ _ _ _ ?_)
   refine Cx.condD rfl (fun h13 => ?_) (fun h13 => ?_)
   ·
    have hno := h13
    refine Cx.seq (fun K14 k14 => ?_)
    refine Cx.region <| Lx.y (mv rfl) rfl <| Lx.y (mv rfl) rfl <| Lx.y (sl2V U72 sz76 rfl rfl (Int.toNat_natCast _) (by omega) (by omega)) rfl <| Lx.y (mv rfl) rfl <| Lx.y (mv rfl) rfl <| Lx.y (add rfl rfl (by first | exact wrap64 (by omega) (by omega) | rfl)) rfl <| Lx.y (mv rfl) rfl <| Lx.y (sub rfl rfl (show IntKind.i64.wrap _ = ((n + 1 - i : Nat) : Int) by rw [wrap64 (by omega) (by omega)]; omega)) rfl <| ?_
    refine Lx.o (amO (olds := xs.take (i * 7)) (m := n + 1 - i) U72 U3 ti76 rfl rfl (SrcH.own (b := b) (o := 0) (i * 7) (by rw [List.drop_zero]; exact List.take_append_of_le_length (by omega))) hTl (by omega) (by omega) (by rw [show i + (n + 1 - i) = n + 1 by omega]; exact hbd)) rfl (fun v B' H' hΦ hB => ?_)
    obtain ⟨b9, c9, rest, rfl, hc9, hrl, hBB, rfl⟩ := hΦ
    obtain rfl := hBB.symm
    clear hB
    rw [show i + (n + 1 - i) = n + 1 by omega] at hc9 ⊢
    refine Lx.y (asg rfl) rfl <| Lx.nil <| ?_
    refine Xx.tn (k14 _ _ _ _ ?_)
    refine Cx.seq (fun K15 k15 => ?_)
    refine Cx.region <| Lx.y (mv rfl) rfl <| Lx.y (mv rfl) rfl <| Lx.y (sl1A i U72 sz76 rfl rfl rfl (by omega) (by omega)) rfl <| Lx.y (mv rfl) rfl <| ?_
    refine Lx.o (cpO (cs' := (xs.take (i * 7) ++ news ++ rest.drop 7)) 1 U72 sz76 rfl rfl (show Nat.min _ _ = _ by first | rfl | (simp only [Nat.min_def]; split <;> omega)) (SrcH.own (b := vb) (o := 0) (news := news) 7 (by rw [List.drop_zero, List.take_of_length_le (by omega)])) (by rw [hns]) hn1 (by rw [Nat.zero_add, List.length_append, hTl]; omega) (by rw [Nat.zero_add]; exact ins_grow1 hTl hns (by omega))) rfl (fun v B' H' hΦ hB => ?_)
    obtain ⟨rfl, hBB, rfl⟩ := hΦ
    obtain rfl := hBB.symm
    clear hB
    refine Lx.nil ?_
    refine Xx.tn (k15 _ _ _ _ ?_)
    refine Cx.seq (fun K16 k16 => ?_)
    refine Cx.drawn (by kernel_rfl) ?_
    refine Dx.p (i := 0) rfl (by kernel_rfl) (mv rfl) rfl ?_
    refine Dx.p (i := 1) rfl (by kernel_rfl) (mv rfl) rfl ?_
    refine Dx.p (i := 2) rfl (by kernel_rfl) (mv rfl) rfl ?_
    refine Dx.p (i := 3) rfl (by kernel_rfl) (add rfl rfl (show IntKind.i64.wrap _ = ((i + 1 : Nat) : Int) by rw [wrap64 (by omega) (by omega)]; rfl)) rfl ?_
    refine Dx.p (i := 4) rfl (by kernel_rfl) (sl1A (i + 1) U72 sz76 rfl rfl rfl (by omega) (by omega)) rfl ?_
    refine Dx.p (i := 5) rfl (by kernel_rfl) (mv rfl) rfl ?_
    refine Dx.p (i := 6) rfl (by kernel_rfl) (mv rfl) rfl ?_
    refine Dx.p (i := 7) rfl (by kernel_rfl) (sl1A i U72 sz76 rfl rfl rfl (by omega) (by omega)) rfl ?_
    refine Dx.one (i := 8) (by kernel_rfl) ?_
    refine Dstep.o (i := 8) rfl (cpO (cs' := (xs.take (i * 7) ++ news ++ xs.drop (i * 7) ++ (rest.drop 7).drop (xs.drop (i * 7)).length)) (n - i) U72 sz76 rfl rfl (show Nat.min _ _ = _ by first | rfl | (simp only [Nat.min_def]; split <;> omega)) (SrcH.own (b := b) (o := 0 + i * 7) (news := xs.drop (i * 7)) ((n - i) * 7) (by rw [Nat.zero_add, List.drop_append_of_le_length (by omega), List.take_append_of_le_length (by omega), List.take_of_length_le (by omega)])) hDl hD1 (by simp only [List.length_append, List.length_drop, hTl, hns, hDl]; omega) (by rw [Nat.zero_add, show (i + 1) * 7 = i * 7 + 7 by omega]; exact ins_grow2 hTl hns)) rfl (fun v B' H' hΦ hB => ?_)
    obtain ⟨rfl, rfl, rfl⟩ := hΦ
    clear hB
    refine ⟨JOk.top, ?_⟩
    refine Dx.done (by kernel_rfl) ?_
    refine Xx.tn (k16 _ _ _ _ ?_)
    refine Cx.seq (fun K17 k17 => ?_)
    refine Cx.region <| Lx.y (mv rfl) rfl <| Lx.y (asg rfl) rfl <| Lx.nil <| ?_
    refine Xx.tn (k17 _ _ _ _ ?_)
    refine Cx.ret <| Xx.tr <| ?_
    exact Xx.dropB vb (Xx.dropB b (Xx.ret1 rfl rfl ⟨b9, c9, _, rfl, rfl, rfl, by simp only [List.length_append, List.length_drop, hTl, hns, hDl]; omega, hc9⟩ (Frag.le_refl _) rfl))
   ·
    have hno := h13
    refine Cx.skip ?_
    refine Xx.tn (k11 _ _ _ _ ?_)
    refine Cx.seq (fun K18 k18 => ?_)
    refine Cx.region <| Lx.y (mv rfl) rfl <| Lx.y (mv rfl) rfl <| Lx.y (mv rfl) rfl <| Lx.y (add rfl rfl (show IntKind.i64.wrap _ = ((n + 1 : Nat) : Int) by rw [wrap64 (by omega) (by omega)]; rfl)) rfl <| Lx.y (sl2V U72 sz76 rfl rfl (Int.toNat_natCast _) (by omega) (by omega)) rfl <| Lx.y (asg rfl) rfl <| Lx.nil <| ?_
    refine Xx.tn (k18 _ _ _ _ ?_)
    refine Cx.seq (fun K19 k19 => ?_)
    refine Cx.seq (fun K20 k20 => ?_)
    refine Cx.region <| Lx.y (mv rfl) rfl <| Lx.y (mv rfl) rfl <| Lx.y (mv rfl) rfl <| Lx.y (mv rfl) rfl <| Lx.y (add rfl rfl (show IntKind.i64.wrap _ = ((i + 1 : Nat) : Int) by rw [wrap64 (by omega) (by omega)]; rfl)) rfl <| Lx.y (sl1V U72 sz76 rfl rfl (Int.toNat_natCast _) (by omega) (by omega)) rfl <| ?_
    rw [show subA (some ⟨b, 0, none⟩) c (i + 1) 7 = (if c = i + 1 then some ⟨b, 0, none⟩ else some ⟨b, 0 + (i + 1) * 7, none⟩) by unfold subA; split <;> simp [add_mk]]
    have hcne : ¬ c = i + 1 := by omega
    rw [if_neg hcne]
    refine Lx.y (extc rfl rfl (ovQ (tS := 72) (tR := 4) Tryz.func51 (by kernel_rfl) (by kernel_rfl) (by kernel_rfl) (by kernel_rfl) U72 sz76 rfl (by intro z; have h9 := congrArg List.length z; rw [List.length_append, List.length_nil] at h9; omega))) rfl <| Lx.y (not' rfl) rfl <| Lx.nil <| ?_
    refine Xx.tn (k20 _ _ _ _ ?_)
    refine Cx.condT rfl ?_
    refine Cx.seq (fun K21 k21 => ?_)
    refine Cx.drawn (by kernel_rfl) ?_
    refine Dx.p (i := 0) rfl (by kernel_rfl) (mv rfl) rfl ?_
    refine Dx.p (i := 1) rfl (by kernel_rfl) (mv rfl) rfl ?_
    refine Dx.p (i := 2) rfl (by kernel_rfl) (mv rfl) rfl ?_
    refine Dx.p (i := 3) rfl (by kernel_rfl) (add rfl rfl (show IntKind.i64.wrap _ = ((i + 1 : Nat) : Int) by rw [wrap64 (by omega) (by omega)]; rfl)) rfl ?_
    refine Dx.p (i := 4) rfl (by kernel_rfl) (sl1A (i + 1) U72 sz76 rfl rfl rfl (by omega) (by omega)) rfl ?_
    refine Dx.p (i := 5) rfl (by kernel_rfl) (mv rfl) rfl ?_
    refine Dx.p (i := 6) rfl (by kernel_rfl) (mv rfl) rfl ?_
    refine Dx.p (i := 7) rfl (by kernel_rfl) (sl1A i U72 sz76 rfl rfl rfl (by omega) (by omega)) rfl ?_
    refine Dx.one (i := 8) (by kernel_rfl) ?_
    refine Dstep.o (i := 8) rfl (cpO (cs' := ((xs ++ sp).take (i * 7 + 7) ++ xs.drop (i * 7) ++ (xs ++ sp).drop ((n + 1) * 7))) (n - i) U72 sz76 rfl rfl (show Nat.min _ _ = _ by first | rfl | (simp only [Nat.min_def]; split <;> omega)) (SrcH.own (b := b) (o := 0 + i * 7) (news := xs.drop (i * 7)) ((n - i) * 7) (by rw [Nat.zero_add, List.drop_append_of_le_length (by omega), List.take_append_of_le_length (by omega), List.take_of_length_le (by omega)])) hDl hD1 (by rw [List.length_append]; omega) (by rw [Nat.zero_add, hDl, show (i + 1) * 7 = i * 7 + 7 by omega, show i * 7 + 7 + (n - i) * 7 = (n + 1) * 7 by omega])) rfl (fun v B' H' hΦ hB => ?_)
    obtain ⟨rfl, rfl, rfl⟩ := hΦ
    clear hB
    refine ⟨JOk.top, ?_⟩
    refine Dx.done (by kernel_rfl) ?_
    refine Xx.tn (k21 _ _ _ _ ?_)
    refine Cx.seq (fun K22 k22 => ?_)
    refine Cx.region <| Lx.y (mv rfl) rfl <| Lx.y (mv rfl) rfl <| Lx.y (sl1A i U72 sz76 rfl rfl rfl (by omega) (by omega)) rfl <| Lx.y (mv rfl) rfl <| ?_
    refine Lx.o (cpO (cs' := (xs.take (i * 7) ++ news ++ xs.drop (i * 7) ++ (xs ++ sp).drop ((n + 1) * 7))) 1 U72 sz76 rfl rfl (show Nat.min _ _ = _ by first | rfl | (simp only [Nat.min_def]; split <;> omega)) (SrcH.own (b := vb) (o := 0) (news := news) 7 (by rw [List.drop_zero, List.take_of_length_le (by omega)])) (by rw [hns]) hn1 (by simp only [List.length_append, List.length_take, List.length_drop, hDl]; omega) (by rw [Nat.zero_add]; exact ins_room (by omega) hns (by rw [List.length_append]; omega) (List.take_append_of_le_length (by omega)) rfl (by omega))) rfl (fun v B' H' hΦ hB => ?_)
    obtain ⟨rfl, hBB, rfl⟩ := hΦ
    obtain rfl := hBB.symm
    clear hB
    refine Lx.nil ?_
    refine Xx.tn (k22 _ _ _ _ ?_)
    refine Cx.seq (fun K23 k23 => ?_)
    refine Cx.region <| Lx.y (mv rfl) rfl <| Lx.y (asg rfl) rfl <| Lx.nil <| ?_
    refine Xx.tn (k23 _ _ _ _ ?_)
    refine Cx.ret <| Xx.tr <| ?_
    exact Xx.dropB vb (Xx.ret1 rfl rfl ⟨b, c, _, rfl, rfl, rfl, by simp only [List.length_append, List.length_drop, hTl, hns, hDl]; omega, by omega⟩ (Frag.le_refl _) rfl)
theorem InsF_ct (A : Option Addr) (i n c : Nat) (xs : List Value) (vb : Nat) (etv : TypeId) (news : List Value) (B : Frag) (hi : i ≤ n) (hxl : xs.length = n * 7) (hx1 : xs.all (·.oneCell') = true) (hns : news.length = 7) (hn1 : news.all (·.oneCell') = true) (hbd : (n + 1) * 104 ≤ 140737488355328) :
    Ct Tryz.prog 31 [.slice A n c, i64 (i : Nat), .slice (some ⟨vb, 0, none⟩) 1 1] B (sbuf 76 7 A n c xs * row vb etv news) (fun v B' H' => ∃ A' c', v = .slice A' (n + 1) c' ∧ B' = B ∧ H' = sbuf 76 7 A' (n + 1) c' (xs.take (i * 7) ++ news ++ xs.drop (i * 7)) ∧ (∃ b, A' = some ⟨b, 0, none⟩) ∧ n + 1 ≤ c') := by
  by_cases h : i = n
  · subst h
    have h1 : xs.take (i * 7) = xs := List.take_of_length_le (by omega)
    have h2 : xs.drop (i * 7) = [] := List.drop_of_length_le (by omega)
    rw [h1, h2, List.append_nil]
    exact InsF_end A i c xs vb etv news B hns hn1 hbd
  · refine Ct.of_sbuf (by omega) (fun b sp hA hx hnc hcl => ?_) (Go.SL.enters_of Tryz.func31 rfl (by kernel_rfl))
    subst hA
    have hm := InsF_mid b sp i n c xs vb etv news B (by omega) hxl hnc hcl hx1 hns hn1 hbd
    refine ⟨hm.1, fun N0 w R s => (hm.2 N0 w R s).mono ?_⟩
    rintro x w' ⟨v, B', _, hx', ⟨b', c', sp', hv, hB, rfl, hl, hc'⟩, hBB, hb, s'⟩
    refine ⟨v, B', _, hx', ⟨some ⟨b', 0, none⟩, c', hv, hB, rfl, ⟨b', rfl⟩, hc'⟩, hBB, hb, row_sbuf ?_ hc' hl s'⟩
    simp only [List.length_append, List.length_take, List.length_drop, hns, hxl]; omega
def VA (n : Int) : V := .mk 6 false 0 [] [.mk 2 false n [] [] []] [[97]]
theorem VA_R {n : Int} {B3 B4 : Frag} {An Ap : Option Addr} {cn cp : Nat} (h1 : -9223372036854775808 ≤ n) (h2 : n ≤ 9223372036854775807) (hRo : RoS B3 6 Ap 1 [i64 2, .bool false, i64 n, str [], .slice none 0 0, .slice none 0 0]) (hRo4 : RoS B4 1 An 1 [str [97]]) (hB4 : B3.le B4) (hcn : 1 ≤ cn) (hcp : 1 ≤ cp) : ValR B4 2 (VA n) (vcs (VA n) Ap cp An cn) := by
  refine ValR.mk ⟨Nat.zero_le _, (show (-9223372036854775808 : Int) ≤ 0 by decide), (show (0 : Int) ≤ 9223372036854775807 by decide), hcn, hcp⟩ (show 1 ≤ 4611686018427387904 by decide) (show 1 ≤ 4611686018427387904 by decide) (RoS.roe hRo4) ?_ (hRo.mono hB4) ?_
  · intro x hx
    have h9 : x ∈ [[97]] := hx
    rw [List.mem_singleton.1 h9]; decide
  · intro k hk
    have hk2 : k < 1 := hk
    match k, hk2 with
    | 0, _ => exact (ValR.leaf ⟨by decide, h1, h2⟩ : ValR B4 1 (V.mk 2 false n [] [] []) (vcs (V.mk 2 false n [] [] []) none 0 none 0))
set_option maxHeartbeats 1000000 in
theorem BSF0_ct (t : List UInt8) (B : Frag) : CtP Tryz.prog 28 [.slice none 0 0, str t, .func (.func 29) #[] #[]] B (.tuple #[i64 0, .bool false]) := by
 refine CtB.of_body Tryz.func28 rfl (nt := 49) rfl (by kernel_rfl) rfl ?_
 intro N0 w0 R
 refine Cx.seq (fun K1 k1 => ?_)
 refine Cx.region <| Lx.y (asg rfl) rfl <| Lx.y (asg rfl) rfl <| Lx.nil <| ?_
 refine Xx.tn (k1 _ _ _ _ ?_)
 refine Cx.seq (fun K2 k2 => ?_)
 refine Cx.region <| Lx.y (mv rfl) rfl <| Lx.y (lenV (ty' := 0) U72 rfl) rfl <| Lx.y (asg rfl) rfl <| Lx.nil <| ?_
 refine Xx.tn (k2 _ _ _ _ ?_)
 refine Cx.seq (fun K3 k3 => ?_)
 refine Cx.region <| Lx.y (mv rfl) rfl <| Lx.y (asg rfl) rfl <| Lx.y (asg rfl) rfl <| Lx.nil <| ?_
 refine Xx.tn (k3 _ _ _ _ ?_)
 refine Cx.seq (fun K4 k4 => ?_)
 refine Cx.block ?_
 refine Cx.unroll (1) ?_
 refine Xx.rn ?_
 refine Cx.seq (fun K5 k5 => ?_)
 refine Cx.seq (fun K6 k6 => ?_)
 refine Cx.region <| Lx.y (mv rfl) rfl <| Lx.y (mv rfl) rfl <| Lx.y (lss rfl rfl) rfl <| Lx.nil <| ?_
 refine Xx.tn (k6 _ _ _ _ ?_)
 refine Cx.condD rfl (fun h7 => ?_) (fun h7 => ?_)
 ·
  exact absurd h7 (by decide)
 ·
  refine Cx.exit <| Xx.te <| Xx.te <| Xx.bh <| ?_
  refine Xx.tn (k4 _ _ _ _ ?_)
  refine Cx.seq (fun K8 k8 => ?_)
  refine Cx.region <| Lx.y (mv rfl) rfl <| Lx.y (mv rfl) rfl <| Lx.y (mv rfl) rfl <| Lx.y (lss rfl rfl) rfl <| Lx.y (mv rfl) rfl <| ?_
  refine Xx.ifD (t := 39) rfl (fun h9 => ?_) (fun h9 => ?_)
  ·
   exact absurd h9 (by decide)
  ·
   refine Lx.gF rfl rfl rfl rfl <| Lx.gF rfl rfl rfl rfl <| Lx.gF rfl rfl rfl rfl <| Lx.gF rfl rfl rfl rfl <| Lx.gF rfl rfl rfl rfl <| Lx.gF rfl rfl rfl rfl <| Lx.gF rfl rfl rfl rfl <| Lx.gF rfl rfl rfl rfl <| Lx.y (pickF rfl rfl) rfl <| Lx.y (asg rfl) rfl <| Lx.y (asg rfl) rfl <| Lx.nil <| ?_
   refine Xx.tn (k8 _ _ _ _ ?_)
   refine Cx.ret ?_
   exact Xx.rB2 rfl rfl rfl ⟨rfl, rfl⟩ (Frag.le_refl _) rfl
set_option maxHeartbeats 2000000 in
theorem Struct1_ct (n : Int) (nb pb : Nat) (e1 e2 : TypeId) (f1 f2 : Nat × Nat) (B : Frag) (h1 : -9223372036854775808 ≤ n) (h2 : n ≤ 9223372036854775807) (hBn : B nb = some (.cells #[str [97]] e1 f1)) (hBp : B pb = some (.cells [i64 2, .bool false, i64 n, str [], .slice none 0 0, .slice none 0 0].toArray e2 f2)) : CtB Tryz.prog 7 [.slice (some ⟨nb, 0, none⟩) 1 1, .slice (some ⟨pb, 0, none⟩) 1 1] B (fun v B' => ∃ cs', v = .agg cs'.toArray ∧ ValR B' 2 (VA n) cs') := by
 refine CtB.of_body Tryz.func7 rfl (nt := 75) rfl (by kernel_rfl) rfl ?_
 intro N0 w0 R
 refine Cx.seq (fun K1 k1 => ?_)
 refine Cx.region ?_
 refine Lx.new (allocO ti25) rfl (fun b4 => ?_)
 refine Lx.nil ?_
 refine Xx.tn (k1 _ _ _ _ ?_)
 refine Cx.seq (fun K2 k2 => ?_)
 refine Cx.region <| Lx.y (asg rfl) rfl <| Lx.nil <| ?_
 refine Xx.tn (k2 _ _ _ _ ?_)
 refine Cx.seq (fun K3 k3 => ?_)
 refine Cx.seq (fun K4 k4 => ?_)
 refine Cx.region <| Lx.y (mv rfl) rfl <| Lx.y (Yx.val (lenV (ty' := 0) U23 rfl) (show _ = i64 1 from rfl)) rfl <| Lx.y (mv rfl) rfl <| Lx.y (Yx.val (lenV (ty' := 0) U22 rfl) (show _ = i64 1 from rfl)) rfl <| Lx.y (Yx.val (minI rfl rfl) (show _ = i64 1 from rfl)) rfl <| Lx.y (mv rfl) rfl <| Lx.nil <| ?_
 refine Xx.tn (k4 _ _ _ _ ?_)
 refine Cx.block ?_
 refine Cx.unroll (2) ?_
 refine Xx.rn ?_
 refine Cx.seq (fun K5 k5 => ?_)
 refine Cx.region <| Lx.y (Yx.tt (lss rfl rfl) (by decide)) rfl <| Lx.nil <| ?_
 refine Xx.tn (k5 _ _ _ _ ?_)
 refine Cx.seq (fun K6 k6 => ?_)
 refine Cx.condT rfl <| Cx.skip <| ?_
 refine Xx.tn (k6 _ _ _ _ ?_)
 refine Cx.seq (fun K7 k7 => ?_)
 refine Cx.block ?_
 refine Cx.seq (fun K8 k8 => ?_)
 refine Cx.region <| Lx.y (mv rfl) rfl <| Lx.y (asg rfl) rfl <| Lx.nil <| ?_
 refine Xx.tn (k8 _ _ _ _ ?_)
 refine Cx.seq (fun K9 k9 => ?_)
 refine Cx.region <| Lx.y (mv rfl) rfl <| Lx.y (mv rfl) rfl <| Lx.y (mv rfl) rfl <| Lx.y (ia U23 sz9 rfl rfl (show Int.toNat _ = 0 from rfl) (by decide) (by decide)) rfl <| Lx.y (ldB U9 rfl rfl hBn rfl) rfl <| ?_
 refine Lx.cp rfl rfl rfl (BSF0_ct [97] _) rfl ?_
 refine Lx.y (mv rfl) rfl <| Lx.y (ext rfl rfl) rfl <| Lx.y (ext rfl rfl) rfl <| Lx.y (asg rfl) rfl <| Lx.y (asg rfl) rfl <| Lx.nil <| ?_
 refine Xx.tn (k9 _ _ _ _ ?_)
 refine Cx.seq (fun K10 k10 => ?_)
 refine Cx.seq (fun K11 k11 => ?_)
 refine Cx.region <| Lx.y (mv rfl) rfl <| Lx.nil <| ?_
 refine Xx.tn (k11 _ _ _ _ ?_)
 refine Cx.condF rfl <| Cx.skip <| ?_
 refine Xx.tn (k10 _ _ _ _ ?_)
 refine Cx.drawn (by kernel_rfl) ?_
 refine Dx.p (i := 0) rfl (by kernel_rfl) (mv rfl) rfl ?_
 refine Dx.p (i := 1) rfl (by kernel_rfl) (mv rfl) rfl ?_
 refine Dx.p (i := 2) rfl (by kernel_rfl) (mv rfl) rfl ?_
 refine Dx.p (i := 3) rfl (by kernel_rfl) (mv rfl) rfl ?_
 refine Dx.p (i := 4) rfl (by kernel_rfl) (ia U23 sz9 rfl rfl (show Int.toNat _ = 0 from rfl) (by decide) (by decide)) rfl ?_
 refine Dx.r (i := 5) rfl (by kernel_rfl) (ldB U9 rfl rfl hBn rfl) rfl ?_
 refine Dx.p (i := 6) rfl (by kernel_rfl) (mv rfl) rfl ?_
 refine Dx.p (i := 7) rfl (by kernel_rfl) (mv rfl) rfl ?_
 refine Dx.p (i := 8) rfl (by kernel_rfl) (ia U22 sz25 rfl rfl (show Int.toNat _ = 0 from rfl) (by decide) (by decide)) rfl ?_
 refine Dx.r (i := 9) rfl (by kernel_rfl) (ldA U25 rfl sz25 rfl (Cells.base (n := 6) hBp rfl) rfl) rfl ?_
 refine Dx.p (i := 10) rfl (by kernel_rfl) (bld ti76 pl76 rfl rfl) rfl ?_
 refine Dx.one (i := 11) (by kernel_rfl) ?_
 refine Dstep.o (i := 11) rfl (bslA U72 ti76 rfl rfl (by decide)) rfl (fun v B' H' hΦ hB => ?_)
 obtain ⟨b8, rfl, rfl, rfl⟩ := hΦ; clear hB
 refine ⟨JOk.yes (JOk.yes (JOk.top) (ldB U9 rfl rfl hBn rfl)) (ldA U25 rfl sz25 rfl (Cells.base (n := 6) hBp rfl) rfl), ?_⟩
 refine Dx.one (i := 12) (by kernel_rfl) ?_
 refine Dstep.o (i := 12) rfl (Ox.call rfl rfl rfl (InsF_ct none 0 0 0 [] b8 76 [str [97], i64 2, .bool false, i64 n, str [], .slice none 0 0, .slice none 0 0] _ (by decide) rfl rfl rfl rfl (by decide)) (by rw [sbuf_nil, one_star])) rfl (fun v B' H' hΦ hB => ?_)
 obtain ⟨_, rfl, hΦ⟩ := hΦ
 obtain ⟨A9, c9, rfl, hBB, rfl, ⟨bA, rfl⟩, hc9⟩ := hΦ
 subst hBB
 rename Frag => B
 clear hB
 refine ⟨JOk.yes (JOk.yes (JOk.top) (ldB U9 rfl rfl hBn rfl)) (ldA U25 rfl sz25 rfl (Cells.base (n := 6) hBp rfl) rfl), ?_⟩
 refine Dx.p (i := 13) rfl (by kernel_rfl) (asg rfl) rfl ?_
 refine Dx.done (by kernel_rfl) ?_
 refine Xx.bn ?_
 refine Xx.tn (k7 _ _ _ _ ?_)
 refine Cx.region <| Lx.y (Yx.val (add rfl rfl (show IntKind.i64.wrap _ = _ from rfl)) (show _ = i64 1 from rfl)) rfl <| Lx.y (mv rfl) rfl <| Lx.nil <| ?_
 refine Xx.tn ?_
 refine Xx.rn ?_
 refine Cx.seq (fun K12 k12 => ?_)
 refine Cx.region <| Lx.y (Yx.ff (lss rfl rfl) (by decide)) rfl <| Lx.nil <| ?_
 refine Xx.tn (k12 _ _ _ _ ?_)
 refine Cx.seq (fun K13 k13 => ?_)
 refine Cx.condF rfl <| Cx.exit <| Xx.te <| Xx.te <| Xx.bh <| ?_
 refine Xx.tn (k3 _ _ _ _ ?_)
 refine Cx.seq (fun K14 k14 => ?_)
 refine Cx.region <| Lx.y (bld ti25 pl25 rfl rfl) rfl <| ?_
 refine Lx.new (allocO ti25) rfl (fun b10 => ?_)
 refine Lx.st (stA (d := .bool) sz25 rfl rfl rfl rfl (by show 0 + 6 ≤ 6; omega) rfl) ?_
 refine Lx.nil ?_
 refine Xx.tn (k14 _ _ _ _ ?_)
 refine Cx.seq (fun K15 k15 => ?_)
 refine Cx.seq (fun K16 k16 => ?_)
 refine Xx.openT (some ⟨bA, 0, none⟩) (by decide) (fun bF sp hA hxl hnc hcl => ?_)
 have hbF : bA = bF := by injection hA with h; injection h
 subst hbF
 refine Xx.perm (H' := sbuf 9 1 none 0 0 [] * (sbuf 25 6 none 0 0 [] * _)) ?_ (by rw [sbuf_nil, sbuf_nil, one_star, one_star])
 refine Cx.region <| Lx.y (mv rfl) rfl <| Lx.y (Yx.val (lenV (ty' := 0) U72 rfl) (show _ = i64 1 from rfl)) rfl <| Lx.y (mv rfl) rfl <| Lx.nil <| ?_
 refine Xx.tn (k16 _ _ _ _ ?_)
 refine Cx.block ?_
 refine Cx.unroll (2) ?_
 refine Xx.rn ?_
 refine Cx.seq (fun K17 k17 => ?_)
 refine Cx.region <| Lx.y (Yx.tt (lss rfl rfl) (by decide)) rfl <| Lx.nil <| ?_
 refine Xx.tn (k17 _ _ _ _ ?_)
 refine Cx.seq (fun K18 k18 => ?_)
 refine Cx.condT rfl <| Cx.skip <| ?_
 refine Xx.tn (k18 _ _ _ _ ?_)
 refine Cx.cutK (ds' := []) (Sc 0 rfl (Sc 1 rfl (Sc 4 rfl (Sc 5 rfl (Sc 6 rfl (Sc 7 rfl (Sc 8 rfl (Sc 9 rfl (Sc 12 rfl (Sc 13 rfl (Sc 14 rfl (Sc 15 rfl (Sc 16 rfl (Sc 17 rfl (Sc 18 rfl (Sc 19 rfl (Sc 20 rfl (Sc 21 rfl (Sc 22 rfl (Sc 23 rfl (Sc 24 rfl (Sc 25 rfl (Sc 26 rfl (Sc 27 rfl (Sc 28 rfl (Sc 29 rfl (Sc 38 rfl (Sc 39 rfl (Sc 40 rfl (Sc 41 rfl (Sc 42 rfl (Sc 43 rfl (Sc 44 rfl (Sc 45 rfl (Sc 46 rfl (Sc 47 rfl (Sc 48 rfl (Sc 49 rfl (Sc 50 rfl (Sc 51 rfl (Sc 52 rfl (Sc 53 rfl (Sc 54 rfl (Sc 55 rfl (Sc 56 rfl (Sub.nil _)))))))))))))))))))))))))))))))))))))))))))))) (fun ρ' B' H' => ∃ An cn Ap cp, ρ' = [] ∧ B = B' ∧ 1 ≤ cn ∧ 1 ≤ cp ∧ sbuf 9 1 An 1 cn [str [97]] * (sbuf 25 6 Ap 1 cp [i64 2, .bool false, i64 n, str [], .slice none 0 0, .slice none 0 0] * (row b10 25 [i64 6, .bool false, i64 0, str [], .slice Ap 1 cp, .slice An 1 cn] * (row bA 76 ([str [97], i64 2, .bool false, i64 n, str [], .slice none 0 0, .slice none 0 0] ++ sp) * (row b4 25 [i64 0, .bool false, i64 0, str [], .slice none 0 0, .slice none 0 0] * R)))) = H') ?_ ?_
 ·
  refine Cx.block ?_
  refine Cx.seq (fun K19 k19 => ?_)
  refine Cx.region <| Lx.y (ia U72 sz76 rfl rfl (show Int.toNat _ = 0 from rfl) (by decide) (by decide)) rfl <| Lx.y (ldA U76 rfl sz76 rfl (Cells.own (n := 7) PickB.eq rfl) rfl) rfl <| ?_
  refine Lx.new (allocO ti76) rfl (fun b13 => ?_)
  refine Lx.st (stA (d := .bool) sz76 rfl rfl rfl rfl (by show 0 + 7 ≤ 7; omega) rfl) ?_
  refine Lx.nil ?_
  refine Xx.tn (k19 _ _ _ _ ?_)
  refine Cx.drawn (by kernel_rfl) ?_
  refine Dx.p (i := 0) rfl (by kernel_rfl) (fa' fo25_5 rfl) rfl ?_
  refine Dx.r (i := 1) rfl (by kernel_rfl) (ld U23 rfl rfl rfl) rfl ?_
  refine Dx.p (i := 2) rfl (by kernel_rfl) (fa' fo76_0 rfl) rfl ?_
  refine Dx.r (i := 3) rfl (by kernel_rfl) (ld U9 rfl rfl rfl) rfl ?_
  refine Dx.p (i := 6) rfl (by kernel_rfl) (fa' fo25_4 rfl) rfl ?_
  refine Dx.r (i := 7) rfl (by kernel_rfl) (ld U22 rfl rfl rfl) rfl ?_
  refine Dx.p (i := 8) rfl (by kernel_rfl) (fa' fo76_1 rfl) rfl ?_
  refine Dx.r (i := 9) rfl (by kernel_rfl) (ldA U25 rfl sz25 rfl (Cells.own (n := 6) PickB.eq rfl) rfl) rfl ?_
  refine Dx.two (i := 4) (j := 10) (by kernel_rfl) ?_ ?_
  ·
   refine Dstep.o (i := 4) rfl (bsl1 U23 ti9 rfl rfl rfl (by decide)) rfl (fun v B' H' hΦ hB => ?_)
   obtain ⟨b144, rfl, rfl, rfl⟩ := hΦ; clear hB
   refine ⟨JOk.yes (JOk.yes (JOk.edge (JOk.yes (JOk.top) (ld U23 rfl rfl rfl)) (by kernel_rfl)) (ld U22 rfl rfl rfl)) (ldA U25 rfl sz25 rfl (Cells.own (n := 6) PickB.eq rfl) rfl), ?_⟩
   refine Dx.two (i := 5) (j := 10) (by kernel_rfl) ?_ ?_
   ·
    refine Dstep.o (i := 5) rfl (appN (et := 9) 1 [str [97]] [str [97]] U23 U23 ti9 rfl rfl rfl rfl rfl (by decide) (by decide) rfl rfl) rfl (fun v B' H' hΦ hB => ?_)
    obtain ⟨An1, An19, rfl, _, _, hcA, rfl, rfl⟩ := hΦ
    refine ⟨JOk.yes (JOk.yes (JOk.yes (JOk.edge (JOk.top) (by kernel_rfl)) (ld U9 rfl rfl rfl)) (ld U22 rfl rfl rfl)) (ldA U25 rfl sz25 rfl (Cells.own (n := 6) PickB.eq rfl) rfl), ?_⟩
    refine Dx.p (i := 12) rfl (by kernel_rfl) (fa' fo25_5 rfl) rfl ?_
    refine Dx.one (i := 10) (by kernel_rfl) ?_
    refine Dstep.o (i := 10) rfl (bslA U22 ti25 rfl rfl (by decide)) rfl (fun v B' H' hΦ hB => ?_)
    obtain ⟨b1410, rfl, rfl, rfl⟩ := hΦ; clear hB
    refine ⟨JOk.edge (JOk.yes (JOk.yes (JOk.yes (JOk.top) (ld U23 rfl rfl rfl)) (ld U9 rfl rfl rfl)) (ld U22 rfl rfl rfl)) (by kernel_rfl), ?_⟩
    refine Dx.one (i := 11) (by kernel_rfl) ?_
    refine Dstep.o (i := 11) rfl (appN (et := 25) 1 [i64 2, .bool false, i64 n, str [], .slice none 0 0, .slice none 0 0] [i64 2, .bool false, i64 n, str [], .slice none 0 0, .slice none 0 0] U22 U22 ti25 rfl rfl rfl rfl rfl (by decide) (by decide) rfl rfl) rfl (fun v B' H' hΦ hB => ?_)
    obtain ⟨Ap1, Ap19, rfl, _, _, hcB, rfl, rfl⟩ := hΦ
    refine ⟨JOk.yes (JOk.edge (JOk.yes (JOk.yes (JOk.top) (ld U23 rfl rfl rfl)) (ld U9 rfl rfl rfl)) (by kernel_rfl)) (ldA U25 rfl sz25 rfl (Cells.own (n := 6) PickB.eq rfl) rfl), ?_⟩
    refine Dx.one (i := 13) (by kernel_rfl) ?_
    refine Dstep.o0 (i := 13) rfl (stO U23 sz23 rfl rfl rfl (by simp) rfl) (fun v B' H' hΦ hB => ?_)
    obtain ⟨rfl, rfl⟩ := hΦ; clear hB v
    refine ⟨JOk.yes (JOk.edge (JOk.edge (JOk.edge (JOk.top) (by kernel_rfl)) (by kernel_rfl)) (by kernel_rfl)) (ldA U25 rfl sz25 rfl (Cells.own (n := 6) PickB.eq rfl) rfl), ?_⟩
    refine Dx.p (i := 14) rfl (by kernel_rfl) (fa' fo25_4 rfl) rfl ?_
    refine Dx.one (i := 15) (by kernel_rfl) ?_
    refine Dstep.o0 (i := 15) rfl (stO U22 sz22 rfl rfl rfl (by simp) rfl) (fun v B' H' hΦ hB => ?_)
    obtain ⟨rfl, rfl⟩ := hΦ; clear hB v
    refine ⟨JOk.edge (JOk.edge (JOk.edge (JOk.edge (JOk.top) (by kernel_rfl)) (by kernel_rfl)) (by kernel_rfl)) (by kernel_rfl), ?_⟩
    refine Dx.done (by kernel_rfl) ?_
    refine Xx.bn ?_
    refine Xx.dropB b144 ?_
    refine Xx.dropB b1410 ?_
    refine Xx.dropB b13 ?_
    exact Xx.mkK (⟨_, _, _, _, rfl, rfl, hcA, hcB, by ac_rfl⟩) (Sc 0 rfl (Sc 1 rfl (Sc 4 rfl (Sc 5 rfl (Sc 6 rfl (Sc 7 rfl (Sc 8 rfl (Sc 9 rfl (Sc 12 rfl (Sc 13 rfl (Sc 14 rfl (Sc 15 rfl (Sc 16 rfl (Sc 17 rfl (Sc 18 rfl (Sc 19 rfl (Sc 20 rfl (Sc 21 rfl (Sc 22 rfl (Sc 23 rfl (Sc 24 rfl (Sc 25 rfl (Sc 26 rfl (Sc 27 rfl (Sc 28 rfl (Sc 29 rfl (Sc 38 rfl (Sc 39 rfl (Sc 40 rfl (Sc 41 rfl (Sc 42 rfl (Sc 43 rfl (Sc 44 rfl (Sc 45 rfl (Sc 46 rfl (Sc 47 rfl (Sc 48 rfl (Sc 49 rfl (Sc 50 rfl (Sc 51 rfl (Sc 52 rfl (Sc 53 rfl (Sc 54 rfl (Sc 55 rfl (Sc 56 rfl (Sub.nil _))))))))))))))))))))))))))))))))))))))))))))))
   refine Dstep.o (i := 10) rfl (bslA U22 ti25 rfl rfl (by decide)) rfl (fun v B' H' hΦ hB => ?_)
   obtain ⟨b1410, rfl, rfl, rfl⟩ := hΦ; clear hB
   refine ⟨JOk.edge (JOk.yes (JOk.yes (JOk.yes (JOk.top) (ld U23 rfl rfl rfl)) (ld U9 rfl rfl rfl)) (ld U22 rfl rfl rfl)) (by kernel_rfl), ?_⟩
   refine Dx.one (i := 5) (by kernel_rfl) ?_
   refine Dstep.o (i := 5) rfl (appN (et := 9) 1 [str [97]] [str [97]] U23 U23 ti9 rfl rfl rfl rfl rfl (by decide) (by decide) rfl rfl) rfl (fun v B' H' hΦ hB => ?_)
   obtain ⟨An1, An19, rfl, _, _, hcA, rfl, rfl⟩ := hΦ
   refine ⟨JOk.yes (JOk.yes (JOk.yes (JOk.edge (JOk.top) (by kernel_rfl)) (ld U9 rfl rfl rfl)) (ld U22 rfl rfl rfl)) (ldA U25 rfl sz25 rfl (Cells.own (n := 6) PickB.eq rfl) rfl), ?_⟩
   refine Dx.p (i := 12) rfl (by kernel_rfl) (fa' fo25_5 rfl) rfl ?_
   refine Dx.one (i := 11) (by kernel_rfl) ?_
   refine Dstep.o (i := 11) rfl (appN (et := 25) 1 [i64 2, .bool false, i64 n, str [], .slice none 0 0, .slice none 0 0] [i64 2, .bool false, i64 n, str [], .slice none 0 0, .slice none 0 0] U22 U22 ti25 rfl rfl rfl rfl rfl (by decide) (by decide) rfl rfl) rfl (fun v B' H' hΦ hB => ?_)
   obtain ⟨Ap1, Ap19, rfl, _, _, hcB, rfl, rfl⟩ := hΦ
   refine ⟨JOk.yes (JOk.edge (JOk.yes (JOk.yes (JOk.top) (ld U23 rfl rfl rfl)) (ld U9 rfl rfl rfl)) (by kernel_rfl)) (ldA U25 rfl sz25 rfl (Cells.own (n := 6) PickB.eq rfl) rfl), ?_⟩
   refine Dx.one (i := 13) (by kernel_rfl) ?_
   refine Dstep.o0 (i := 13) rfl (stO U23 sz23 rfl rfl rfl (by simp) rfl) (fun v B' H' hΦ hB => ?_)
   obtain ⟨rfl, rfl⟩ := hΦ; clear hB v
   refine ⟨JOk.yes (JOk.edge (JOk.edge (JOk.edge (JOk.top) (by kernel_rfl)) (by kernel_rfl)) (by kernel_rfl)) (ldA U25 rfl sz25 rfl (Cells.own (n := 6) PickB.eq rfl) rfl), ?_⟩
   refine Dx.p (i := 14) rfl (by kernel_rfl) (fa' fo25_4 rfl) rfl ?_
   refine Dx.one (i := 15) (by kernel_rfl) ?_
   refine Dstep.o0 (i := 15) rfl (stO U22 sz22 rfl rfl rfl (by simp) rfl) (fun v B' H' hΦ hB => ?_)
   obtain ⟨rfl, rfl⟩ := hΦ; clear hB v
   refine ⟨JOk.edge (JOk.edge (JOk.edge (JOk.edge (JOk.top) (by kernel_rfl)) (by kernel_rfl)) (by kernel_rfl)) (by kernel_rfl), ?_⟩
   refine Dx.done (by kernel_rfl) ?_
   refine Xx.bn ?_
   refine Xx.dropB b144 ?_
   refine Xx.dropB b1410 ?_
   refine Xx.dropB b13 ?_
   exact Xx.mkK (⟨_, _, _, _, rfl, rfl, hcA, hcB, by ac_rfl⟩) (Sc 0 rfl (Sc 1 rfl (Sc 4 rfl (Sc 5 rfl (Sc 6 rfl (Sc 7 rfl (Sc 8 rfl (Sc 9 rfl (Sc 12 rfl (Sc 13 rfl (Sc 14 rfl (Sc 15 rfl (Sc 16 rfl (Sc 17 rfl (Sc 18 rfl (Sc 19 rfl (Sc 20 rfl (Sc 21 rfl (Sc 22 rfl (Sc 23 rfl (Sc 24 rfl (Sc 25 rfl (Sc 26 rfl (Sc 27 rfl (Sc 28 rfl (Sc 29 rfl (Sc 38 rfl (Sc 39 rfl (Sc 40 rfl (Sc 41 rfl (Sc 42 rfl (Sc 43 rfl (Sc 44 rfl (Sc 45 rfl (Sc 46 rfl (Sc 47 rfl (Sc 48 rfl (Sc 49 rfl (Sc 50 rfl (Sc 51 rfl (Sc 52 rfl (Sc 53 rfl (Sc 54 rfl (Sc 55 rfl (Sc 56 rfl (Sub.nil _))))))))))))))))))))))))))))))))))))))))))))))
  refine Dstep.o (i := 10) rfl (bslA U22 ti25 rfl rfl (by decide)) rfl (fun v B' H' hΦ hB => ?_)
  obtain ⟨b1410, rfl, rfl, rfl⟩ := hΦ; clear hB
  refine ⟨JOk.edge (JOk.yes (JOk.yes (JOk.yes (JOk.top) (ld U23 rfl rfl rfl)) (ld U9 rfl rfl rfl)) (ld U22 rfl rfl rfl)) (by kernel_rfl), ?_⟩
  refine Dx.one (i := 4) (by kernel_rfl) ?_
  refine Dstep.o (i := 4) rfl (bsl1 U23 ti9 rfl rfl rfl (by decide)) rfl (fun v B' H' hΦ hB => ?_)
  obtain ⟨b144, rfl, rfl, rfl⟩ := hΦ; clear hB
  refine ⟨JOk.yes (JOk.yes (JOk.edge (JOk.yes (JOk.top) (ld U23 rfl rfl rfl)) (by kernel_rfl)) (ld U22 rfl rfl rfl)) (ldA U25 rfl sz25 rfl (Cells.own (n := 6) PickB.eq rfl) rfl), ?_⟩
  refine Dx.one (i := 5) (by kernel_rfl) ?_
  refine Dstep.o (i := 5) rfl (appN (et := 9) 1 [str [97]] [str [97]] U23 U23 ti9 rfl rfl rfl rfl rfl (by decide) (by decide) rfl rfl) rfl (fun v B' H' hΦ hB => ?_)
  obtain ⟨An1, An19, rfl, _, _, hcA, rfl, rfl⟩ := hΦ
  refine ⟨JOk.yes (JOk.yes (JOk.yes (JOk.edge (JOk.top) (by kernel_rfl)) (ld U9 rfl rfl rfl)) (ld U22 rfl rfl rfl)) (ldA U25 rfl sz25 rfl (Cells.own (n := 6) PickB.eq rfl) rfl), ?_⟩
  refine Dx.p (i := 12) rfl (by kernel_rfl) (fa' fo25_5 rfl) rfl ?_
  refine Dx.one (i := 11) (by kernel_rfl) ?_
  refine Dstep.o (i := 11) rfl (appN (et := 25) 1 [i64 2, .bool false, i64 n, str [], .slice none 0 0, .slice none 0 0] [i64 2, .bool false, i64 n, str [], .slice none 0 0, .slice none 0 0] U22 U22 ti25 rfl rfl rfl rfl rfl (by decide) (by decide) rfl rfl) rfl (fun v B' H' hΦ hB => ?_)
  obtain ⟨Ap1, Ap19, rfl, _, _, hcB, rfl, rfl⟩ := hΦ
  refine ⟨JOk.yes (JOk.edge (JOk.yes (JOk.yes (JOk.top) (ld U23 rfl rfl rfl)) (ld U9 rfl rfl rfl)) (by kernel_rfl)) (ldA U25 rfl sz25 rfl (Cells.own (n := 6) PickB.eq rfl) rfl), ?_⟩
  refine Dx.one (i := 13) (by kernel_rfl) ?_
  refine Dstep.o0 (i := 13) rfl (stO U23 sz23 rfl rfl rfl (by simp) rfl) (fun v B' H' hΦ hB => ?_)
  obtain ⟨rfl, rfl⟩ := hΦ; clear hB v
  refine ⟨JOk.yes (JOk.edge (JOk.edge (JOk.edge (JOk.top) (by kernel_rfl)) (by kernel_rfl)) (by kernel_rfl)) (ldA U25 rfl sz25 rfl (Cells.own (n := 6) PickB.eq rfl) rfl), ?_⟩
  refine Dx.p (i := 14) rfl (by kernel_rfl) (fa' fo25_4 rfl) rfl ?_
  refine Dx.one (i := 15) (by kernel_rfl) ?_
  refine Dstep.o0 (i := 15) rfl (stO U22 sz22 rfl rfl rfl (by simp) rfl) (fun v B' H' hΦ hB => ?_)
  obtain ⟨rfl, rfl⟩ := hΦ; clear hB v
  refine ⟨JOk.edge (JOk.edge (JOk.edge (JOk.edge (JOk.top) (by kernel_rfl)) (by kernel_rfl)) (by kernel_rfl)) (by kernel_rfl), ?_⟩
  refine Dx.done (by kernel_rfl) ?_
  refine Xx.bn ?_
  refine Xx.dropB b144 ?_
  refine Xx.dropB b1410 ?_
  refine Xx.dropB b13 ?_
  exact Xx.mkK (⟨_, _, _, _, rfl, rfl, hcA, hcB, by ac_rfl⟩) (Sc 0 rfl (Sc 1 rfl (Sc 4 rfl (Sc 5 rfl (Sc 6 rfl (Sc 7 rfl (Sc 8 rfl (Sc 9 rfl (Sc 12 rfl (Sc 13 rfl (Sc 14 rfl (Sc 15 rfl (Sc 16 rfl (Sc 17 rfl (Sc 18 rfl (Sc 19 rfl (Sc 20 rfl (Sc 21 rfl (Sc 22 rfl (Sc 23 rfl (Sc 24 rfl (Sc 25 rfl (Sc 26 rfl (Sc 27 rfl (Sc 28 rfl (Sc 29 rfl (Sc 38 rfl (Sc 39 rfl (Sc 40 rfl (Sc 41 rfl (Sc 42 rfl (Sc 43 rfl (Sc 44 rfl (Sc 45 rfl (Sc 46 rfl (Sc 47 rfl (Sc 48 rfl (Sc 49 rfl (Sc 50 rfl (Sc 51 rfl (Sc 52 rfl (Sc 53 rfl (Sc 54 rfl (Sc 55 rfl (Sc 56 rfl (Sub.nil _))))))))))))))))))))))))))))))))))))))))))))))
 ·rintro ρ' B' H' ⟨An, cn, Ap, cp, rfl, rfl, hcn, hcp, rfl⟩
  refine Cx.region <| Lx.y (Yx.val (add rfl rfl (show IntKind.i64.wrap _ = _ from rfl)) (show _ = i64 1 from rfl)) rfl <| Lx.y (mv rfl) rfl <| Lx.nil <| ?_
  refine Xx.tn ?_
  refine Xx.rn ?_
  refine Cx.seq (fun K20 k20 => ?_)
  refine Cx.region <| Lx.y (Yx.ff (lss rfl rfl) (by decide)) rfl <| Lx.nil <| ?_
  refine Xx.tn (k20 _ _ _ _ ?_)
  refine Cx.seq (fun K21 k21 => ?_)
  refine Cx.condF rfl <| Cx.exit <| Xx.te <| Xx.te <| Xx.bh <| ?_
  refine Xx.tn (k15 _ _ _ _ ?_)
  refine Cx.seq (fun K22 k22 => ?_)
  refine Cx.region <| Lx.y (ldA U25 rfl sz25 rfl (Cells.own (n := 6) PickB.eq rfl) rfl) rfl <| ?_
  refine Lx.st (stA (d := .bool) sz25 rfl rfl rfl rfl (by show 0 + 6 ≤ 6; omega) rfl) ?_
  refine Lx.nil ?_
  refine Xx.tn (k22 _ _ _ _ ?_)
  refine Cx.ret ?_
  refine Xx.freezeT Ap fun B3 hB3 hRo hnc3 _ => ?_
  refine Xx.freezeT An fun B4 hB4 hRo4 hnc4 _ => ?_
  refine Xx.dropB b10 ?_
  refine Xx.dropB bA ?_
  exact Xx.rBa rfl U25 rfl sz25 rfl rfl ⟨_, rfl, VA_R h1 h2 hRo hRo4 hB4 hcn hcp⟩ (Frag.le_trans hB3 hB4)
end RgB
end Go.Proofs.YtdidpocakipinaaGreatDoor
namespace Go.SL
open Go.RowKit
def ItG (P : Program) (gf : FuncId) (caps : List Value) {α : Type} (enc : α → List Value) (Adm : List α → Frag → Prop) (Fn : List α → Prop) (B : Frag) (own : HP) : Prop :=
  (∀ args w, (callFunc gf args).run P w = .ok (.enter gf args) w) ∧
  ∀ (l : Nat) (J Jx : List α → Frag → HP → Prop),
    (∀ pre x B0 B1 H1, Adm (pre ++ [x]) B1 → B.le B0 → B0.le B1 → J pre B0 H1 → Yd P l (enc x) B1 H1 fun t B' H' => (t = true ∧ J (pre ++ [x]) B' H') ∨ (t = false ∧ Jx (pre ++ [x]) B' H')) →
    ∀ B1 H1, B.le B1 → J [] B1 H1 → Ct P gf (.func (.yield l) #[] #[] :: caps) B1 (own * H1) fun v B' H' => ∃ H2, H' = own * H2 ∧ ((∃ xs, Fn xs ∧ J xs B' H2) ∨ ∃ pre, Jx pre B' H2)
section
variable {e : Env} {ds : List Deferred} {Q : Exit → Act → World → Prop} {ρ ρ' : Sl} {B B' B0 B1 : Frag} {H H' R : HP} {K : Act → World → Prop} {P : Program} {α : Type}
theorem Cx.rangeGF {g : Operand} {ps : Array Tmp} {assign body : Code} {gf : FuncId} {caps : List Value} {enc : α → List Value} {Adm : List α → Frag → Prop} {Fn : List α → Prop} {own H1 R : HP}
    (hr : e.r = none) (hg : ev ρ g = some (.func (.func gf) #[] caps.toArray)) (hIt : ItG e.P gf caps enc Adm Fn B own) (hH : H = own * (H1 * R)) (hnt : ps.toList.all (fun p => Nat.blt p e.nt) = true) (hps : ∀ x, (enc x).length = ps.size)
    (J : List α → Frag → HP → Prop) (Jx : Code → List α → Frag → HP → Prop) (AS : List α → α → Frag → Sl → Frag → HP → Prop) (h0 : J [] B H1)
    (hassign : ∀ (l N0 : Nat) (w0 : World) pre x B0 B1 H1 (F : HP) (K : Act → World → Prop), Adm (pre ++ [x]) B1 → B.le B0 → B0.le B1 → J pre B0 H1 →
      (∀ ρ' B' H', AS pre x B1 ρ' B' H' → B1.le B' → Xx ⟨e.P, some l, N0, w0, e.nt⟩ [] K ρ' B' (H' * F)) →
      Cx ⟨e.P, some l, N0, w0, e.nt⟩ [] assign (Exit.then K (fun _ _ _ => False)) (asgn ps.toList (enc x) ρ) B1 (H1 * F))
    (hbody : ∀ (l N0 : Nat) (w0 : World) pre x B1 (F : HP) ρ' B' H', Adm (pre ++ [x]) B1 → B.le B1 → B1.le B' → AS pre x B1 ρ' B' H' → Cx ⟨e.P, some l, N0, w0, e.nt⟩ [] body (RQ N0 w0 B1 J Jx (pre ++ [x]) F) ρ' B' (H' * F))
    (hdone : ∀ D xs B' H', Fn xs → B.le B' → J xs B' H' → Xx e (mark D :: ds) (Q .normal) ρ B' (H' * (blk D dfr * (own * R))))
    (hstop : ∀ D c pre B' H', B.le B' → Jx c pre B' H' → Cx e (mark D :: ds) c Q ρ B' (H' * (blk D dfr * (own * R)))) :
    Cx e ds (.rangeFunc g ps assign body) Q ρ B H := by
  intro a w f b s
  refine wpIn_rangeFunc ?_
  intro fn _
  have hgv := f.ev _ _ hg
  have s1 := (s.alloc dfr).alloc (.loop (mkRec fn a.tmps ps assign body w.heap.size .ready none))
  have b1 : Below e.N0 e.w0 ((w.alloc dfr).alloc (.loop (mkRec fn a.tmps ps assign body w.heap.size .ready none))) := (b.alloc s.sz _).alloc (s.alloc dfr).sz _
  rw [World.size_alloc, hH] at s1
  generalize hl : w.heap.size + 1 = l at *
  generalize hD : w.heap.size = D at *
  generalize hw1 : (w.alloc dfr).alloc (.loop (mkRec fn a.tmps ps assign body D .ready none)) = w1 at *
  have s2 : St e.N0 B ((own * (H1 * (blk l (.loop (mkRec fn a.tmps ps assign body D .ready none)) * blk D dfr))) * R) w1 := by
    exact s1.of_eq (by ac_rfl)
  have heg := hIt.1 #[.func (.yield l) #[] #[], ] w1
  let J' : List α → Frag → HP → Prop := fun pre B' H' => ∃ H1, H' = H1 * (blk l (.loop (mkRec fn a.tmps ps assign body D .ready none)) * blk D dfr) ∧ J pre B' H1
  let Jx' : List α → Frag → HP → Prop := fun pre B' H' => ∃ c H1, H' = H1 * (blk l (.loop (mkRec fn a.tmps ps assign body D .done (some c))) * blk D dfr) ∧ Jx c pre B' H1
  have hct := hIt.2 l J' Jx' ?round B _ (Frag.le_refl _) ⟨H1, rfl, h0⟩
  case round =>
    rintro pre x B0 B1 _ hxs hB0 hB01 ⟨H2, rfl, hJ⟩ N0 wy Rf sy
    have hB1 := Frag.le_trans hB0 hB01
    have hrl : wy.heap[l]? = some (.loop (mkRec fn a.tmps ps assign body D .ready none)) := by
      have : St N0 B1 (blk l (.loop (mkRec fn a.tmps ps assign body D .ready none)) * (H2 * (blk D dfr * Rf))) wy := sy.of_eq (by ac_rfl)
      exact this.blk.1
    have hy := run_yield (P := e.P) (args := (enc x).toArray) hrl (by simpa using hps x)
    refine ⟨fn, _, assign, body, hy, roundIn_of_wpIn trivial ?_⟩
    have hfr := asgn_fr (nt := e.nt) ps.toList (enc x) ρ a.tmps hnt ⟨f.size, f.get, rfl⟩
    have hzip : (ps.zip (enc x).toArray).foldl (fun tmps (t, a) => tmps.setIfInBounds t a) a.tmps = (ps.toList.zip (enc x)).foldl (fun t (y : Tmp × Value) => t.setIfInBounds y.1 y.2) a.tmps := by
      rw [← Array.foldl_toList, Array.toList_zip]
    show Code.wpIn (FW (some l)) 0 e.P assign _ { tmps := (ps.zip (enc x).toArray).foldl (fun tmps (t, a) => tmps.setIfInBounds t a) a.tmps, defers := [] } wy
    rw [hzip]
    refine hassign l N0 wy pre x B0 B1 H2 ((blk l (.loop (mkRec fn a.tmps ps assign body D .ready none)) * blk D dfr) * Rf) _ hxs hB0 hB01 hJ ?_ _ wy hfr (Below.refl _ _) (by rw [← star_assoc]; exact sy)
    intro ρ' B' H' hAS hB' a1 wa fa ba sa
    have sa' : St N0 B' (blk l (.loop (mkRec fn a.tmps ps assign body D .ready none)) * (H' * (blk D dfr * Rf))) wa := sa.of_eq (by ac_rfl)
    have hbr := run_beginRound (P := e.P) sa'.blk.1 rfl
    refine ⟨_, hbr, ?_⟩
    have sb := sa'.putObj (o' := .loop { mkRec fn a.tmps ps assign body D .ready none with state := .busy })
    have sb2 : St N0 B' (H' * ((blk l (.loop { mkRec fn a.tmps ps assign body D .ready none with state := .busy }) * blk D dfr) * Rf)) (wa.putObj l (.loop { mkRec fn a.tmps ps assign body D .ready none with state := .busy })) := sb.1.of_eq (by ac_rfl)
    refine wpIn_mono (hbody l N0 wy pre x B1 _ ρ' B' H' hxs hB1 hB' hAS a1 _ fa (ba.trans sb.2) sb2) ?_
    have fin : ∀ (jump : Option Code) (w3 : World) B3 H3, St N0 B3 (H3 * ((blk l (.loop { mkRec fn a.tmps ps assign body D .ready none with state := .busy }) * blk D dfr) * Rf)) w3 →
        (Instr.endRound l jump).run e.P w3 = .ok (.bool jump.isNone) (w3.putObj l (.loop (mkRec fn a.tmps ps assign body D (if jump.isNone then .ready else .done) jump))) ∧ Below N0 w3 (w3.putObj l (.loop (mkRec fn a.tmps ps assign body D (if jump.isNone then .ready else .done) jump))) ∧
        St N0 B3 ((H3 * (blk l (.loop (mkRec fn a.tmps ps assign body D (if jump.isNone then .ready else .done) jump)) * blk D dfr)) * Rf) (w3.putObj l (.loop (mkRec fn a.tmps ps assign body D (if jump.isNone then .ready else .done) jump))) := by
      intro jump w3 B3 H3 s3
      have s3' : St N0 B3 (blk l (.loop { mkRec fn a.tmps ps assign body D .ready none with state := .busy }) * (H3 * (blk D dfr * Rf))) w3 := s3.of_eq (by ac_rfl)
      have h1 := run_endRound (P := e.P) jump s3'.blk.1
      have h2 := s3'.putObj (o' := .loop (mkRec fn a.tmps ps assign body D (if jump.isNone then .ready else .done) jump))
      refine ⟨h1, h2.2, h2.1.of_eq (by ac_rfl)⟩
    rintro x3 a3 w3 hp
    cases x3 with
    | normal =>
      obtain ⟨B3, H3, hJ3, hB3, b3, s3⟩ := hp
      obtain ⟨h1, h2, h3⟩ := fin none w3 B3 H3 s3
      exact ⟨_, _, h1, true, B3, _, rfl, .inl ⟨rfl, H3, rfl, hJ3⟩, hB3, b3.trans h2, h3⟩
    | ret =>
      obtain ⟨B3, H3, hJ3, hB3, b3, s3⟩ := hp
      obtain ⟨h1, h2, h3⟩ := fin (some .ret) w3 B3 H3 s3
      exact ⟨_, _, h1, false, B3, _, rfl, .inr ⟨rfl, _, H3, rfl, hJ3⟩, hB3, b3.trans h2, h3⟩
    | exit id =>
      obtain ⟨B3, H3, hJ3, hB3, b3, s3⟩ := hp
      obtain ⟨h1, h2, h3⟩ := fin (some (.exit id)) w3 B3 H3 s3
      exact ⟨_, _, h1, false, B3, _, rfl, .inr ⟨rfl, _, H3, rfl, hJ3⟩, hB3, b3.trans h2, h3⟩
    | goto t => exact hp.elim
    | panic ch => exact hp.elim
    | outgrown => exact hp.elim
  refine ⟨l, [mark D], w1, { target := .fn (.func gf) caps.toArray, args := #[.func (.yield l) #[] #[]] }, w1, gf, (.func (.yield l) #[] #[] :: caps).toArray, w1, ?_, ?_, fun _ _ => trivial, ?_, fun h => by simp [FW] at h, ?_⟩
  · have : (FW e.r).round = none := hr
    rw [this, ← hw1, ← hl]
    have := run_enterLoop_outer (P := e.P) (w := w) fn a.tmps ps assign body
    rw [hD] at this
    exact this
  · simp only [resolve, hgv, Deferred.ofValue]
    simp [Act.eval]
  · simp only [invoke]
    have := hIt.1 (#[.func (.yield l) #[] #[]] ++ caps.toArray) w1
    simpa using this
  · refine callsIn_FW.2 ((hct.2 e.N0 w1 R s2).mono ?_)
    rintro y w2 ⟨v, B', _, rfl, ⟨H2, rfl, (⟨xs, hxs, H3, rfl, hJ⟩ | ⟨pre, c, H3, rfl, hJ⟩)⟩, hB', b2, s3⟩
    · have s3' : St e.N0 B' (blk l (.loop (mkRec fn a.tmps ps assign body D .ready none)) * (H3 * (blk D dfr * (own * R)))) w2 := s3.of_eq (by ac_rfl)
      have h1 := run_endLoop (P := e.P) s3'.blk.1 (by simp)
      have h2 := s3'.putObj (o' := .loop { mkRec fn a.tmps ps assign body D .ready none with state := .exhausted })
      refine ⟨none, _, h1, ?_⟩
      exact hdone D xs B' H3 hxs hB' hJ _ _ ⟨f.size, f.get, by simp [f.defers]⟩ ((b1.trans b2).trans h2.2) h2.1.drop
    · have s3' : St e.N0 B' (blk l (.loop (mkRec fn a.tmps ps assign body D .done (some c))) * (H3 * (blk D dfr * (own * R)))) w2 := s3.of_eq (by ac_rfl)
      have h1 := run_endLoop (P := e.P) s3'.blk.1 (by simp)
      have h2 := s3'.putObj (o' := .loop { mkRec fn a.tmps ps assign body D .done (some c) with state := .exhausted })
      refine ⟨some c, _, h1, ?_⟩
      exact hstop D c pre B' H3 hB' hJ _ _ ⟨f.size, f.get, by simp [f.defers]⟩ ((b1.trans b2).trans h2.2) h2.1.drop
theorem Cx.rangeG {g : Operand} {ps : Array Tmp} {assign body : Code} {gf : FuncId} {caps : List Value} {enc : α → List Value} {Adm : List α → Frag → Prop} {Fn : List α → Prop} {own H1 R : HP} {σ : Sl} (hσ : Sub ρ σ)
    (hr : e.r = none) (hg : ev ρ g = some (.func (.func gf) #[] caps.toArray)) (hIt : ItG e.P gf caps enc Adm Fn B own) (hH : H = own * (H1 * R)) (hnt : ps.toList.all (fun p => Nat.blt p e.nt) = true) (hps : ∀ x, (enc x).length = ps.size)
    (J : List α → Frag → HP → Prop) (Jx : Code → List α → Frag → HP → Prop) (AS : List α → α → Frag → Sl → Frag → HP → Prop) (h0 : J [] B H1)
    (hassign : ∀ (l N0 : Nat) (w0 : World) pre x B0 B1 H1 (F : HP) (K : Act → World → Prop), Adm (pre ++ [x]) B1 → B.le B0 → B0.le B1 → J pre B0 H1 →
      (∀ ρ' B' H', AS pre x B1 ρ' B' H' → B1.le B' → Xx ⟨e.P, some l, N0, w0, e.nt⟩ [] K (ρ' ++ σ) B' (H' * F)) →
      Cx ⟨e.P, some l, N0, w0, e.nt⟩ [] assign (Exit.then K (fun _ _ _ => False)) (asgn ps.toList (enc x) ρ) B1 (H1 * F))
    (hbody : ∀ (l N0 : Nat) (w0 : World) pre x B1 (F : HP) ρ' B' H', Adm (pre ++ [x]) B1 → B.le B1 → B1.le B' → AS pre x B1 ρ' B' H' → Cx ⟨e.P, some l, N0, w0, e.nt⟩ [] body (RQ N0 w0 B1 J Jx (pre ++ [x]) F) (ρ' ++ σ) B' (H' * F))
    (hdone : ∀ D xs B' H', Fn xs → B.le B' → J xs B' H' → Xx e (mark D :: ds) (Q .normal) ρ B' (H' * (blk D dfr * (own * R))))
    (hstop : ∀ D c pre B' H', B.le B' → Jx c pre B' H' → Cx e (mark D :: ds) c Q ρ B' (H' * (blk D dfr * (own * R)))) :
    Cx e ds (.rangeFunc g ps assign body) Q ρ B H :=
  Cx.rangeGF hr hg hIt hH hnt hps J Jx (fun pre x B1 ρ' B' H' => ∃ ρ'', ρ' = ρ'' ++ σ ∧ AS pre x B1 ρ'' B' H') h0
    (fun l N0 w0 pre x B0 B1 H1 F K hxs hB0 hB01 hJ hK => hassign l N0 w0 pre x B0 B1 H1 F K hxs hB0 hB01 hJ fun ρ' B' H' hAS hB' => hK _ B' H' ⟨ρ', rfl, hAS⟩ hB')
    (fun l N0 w0 pre x B1 F ρ' B' H' hxs hB1 hB' ⟨ρ'', h1, hAS⟩ => by subst h1; exact hbody l N0 w0 pre x B1 F ρ'' B' H' hxs hB1 hB' hAS) hdone hstop
end
end Go.SL
namespace Go.Proofs.YtdidpocakipinaaGreatDoor
open Go.SL Go.RowKit
set_option maxRecDepth 100000
open Ke1 Ke3 Ke4 Ke5 Ke6 Ke7 Ke8 Ke9 KeA KeB KeC KeD KeE KeF KeG KeI RgA RgB
namespace RwA
theorem sz22 : (Tryz.prog.info? 22).map (·.size) = some 1 := by kernel_rfl
theorem sz23 : (Tryz.prog.info? 23).map (·.size) = some 1 := by kernel_rfl
theorem sz25 : (Tryz.prog.info? 25).map (·.size) = some 6 := by kernel_rfl
theorem ti9 : TI Tryz.prog 9 [str []] 1 16 := TI.of (by kernel_rfl) rfl rfl
theorem ti25 : TI Tryz.prog 25 [.int .i64 0, .bool false, .int .i64 0, str [], .slice none 0 0, .slice none 0 0] 6 88 := TI.of (by kernel_rfl) rfl rfl
theorem fo25_4 : FO Tryz.prog 25 4 4 1 false := FO.of U25 rfl rfl (by kernel_rfl) U22 rfl rfl
theorem fo25_5 : FO Tryz.prog 25 5 5 1 false := FO.of U25 rfl rfl (by kernel_rfl) U23 rfl rfl
set_option maxHeartbeats 1000000 in
theorem CloneST_ct (A : Option Addr) (n c : Nat) (news : List Value) (B : Frag) (hR : n = 0 ∧ news = [] ∨ RoS B 1 A n news) (h1 : news.all (·.oneCell') = true) (hbd : n ≤ 1000000) : Ct Tryz.prog 59 [.slice A n c] B 1 (fun v B' H' => B' = B ∧ ∃ A' c', v = .slice A' n c' ∧ H' = sbuf 9 1 A' n c' news ∧ n ≤ c') := by
 refine Ct.of_body Tryz.func59 rfl (nt := 8) rfl (by kernel_rfl) rfl ?_
 intro N0 w0 R
 rw [one_star]
 refine Cx.seq (fun K1 k1 => ?_)
 refine Cx.region <| Lx.y (asg rfl) rfl <| Lx.nil <| ?_
 refine Xx.tn (k1 _ _ _ _ ?_)
 refine Cx.seq (fun K2 k2 => ?_)
 refine Cx.seq (fun K3 k3 => ?_)
 refine Cx.region <| Lx.y (mv rfl) rfl <| Lx.y (eqNilV U23 rfl rfl) rfl <| Lx.nil <| ?_
 refine Xx.tn (k3 _ _ _ _ ?_)
 refine Cx.condB rfl (fun h4 => ?_) (fun h4 => ?_)
 ·
  have hA : A = none := by simpa using h4
  obtain ⟨rfl, rfl⟩ : n = 0 ∧ news = [] := by
   rcases hR with hz | ⟨hl, ⟨_, hz⟩ | ⟨b, o, _, _, _, hb, _⟩⟩
   ·exact hz
   ·subst hz; exact ⟨rfl, by simpa using hl⟩
   ·rw [hA] at hb; cases hb
  refine Cx.seq (fun K5 k5 => ?_)
  refine Cx.region <| Lx.y (asg rfl) rfl <| Lx.nil <| ?_
  refine Xx.tn (k5 _ _ _ _ ?_)
  refine Cx.ret <| Xx.tr <| ?_
  exact Xx.ret1 rfl rfl ⟨rfl, none, 0, rfl, rfl, Nat.le_refl _⟩ (Frag.le_refl _) (by rw [sbuf_nil, one_star])
 ·
  skip
  refine Cx.skip ?_
  refine Xx.tn (k2 _ _ _ _ ?_)
  refine Cx.seq (fun K6 k6 => ?_)
  refine Cx.region ?_
  refine Lx.o (bslZ U23 ti9) rfl (fun v B' H' hΦ hB => ?_)
  obtain ⟨b0, rfl, hBB, rfl⟩ := hΦ
  subst hBB
  rename Frag => B
  clear hB
  refine Lx.y (mv rfl) rfl ?_
  refine Lx.o (appC (et := 9) U23 U23 ti9 rfl rfl hR h1 (by omega) (by omega)) rfl (fun v B' H' hΦ hB => ?_)
  obtain ⟨A3, c3, rfl, hc3, hBB, rfl⟩ := hΦ
  subst hBB
  rename Frag => B
  clear hB
  refine Lx.y (asg rfl) rfl <| Lx.nil <| ?_
  refine Xx.tn (k6 _ _ _ _ ?_)
  refine Cx.ret ?_
  exact Xx.ret1 rfl rfl ⟨rfl, A3, c3, rfl, rfl, hc3⟩ (Frag.le_refl _) rfl
set_option maxHeartbeats 1000000 in
theorem CloneV_ct (A : Option Addr) (n c : Nat) (news : List Value) (B : Frag) (hR : n = 0 ∧ news = [] ∨ RoS B 6 A n news) (h1 : news.all (·.oneCell') = true) (hbd : n ≤ 1000000) : Ct Tryz.prog 60 [.slice A n c] B 1 (fun v B' H' => B' = B ∧ ∃ A' c', v = .slice A' n c' ∧ H' = sbuf 25 6 A' n c' news ∧ n ≤ c') := by
 refine Ct.of_body Tryz.func60 rfl (nt := 8) rfl (by kernel_rfl) rfl ?_
 intro N0 w0 R
 rw [one_star]
 refine Cx.seq (fun K1 k1 => ?_)
 refine Cx.region <| Lx.y (asg rfl) rfl <| Lx.nil <| ?_
 refine Xx.tn (k1 _ _ _ _ ?_)
 refine Cx.seq (fun K2 k2 => ?_)
 refine Cx.seq (fun K3 k3 => ?_)
 refine Cx.region <| Lx.y (mv rfl) rfl <| Lx.y (eqNilV U22 rfl rfl) rfl <| Lx.nil <| ?_
 refine Xx.tn (k3 _ _ _ _ ?_)
 refine Cx.condB rfl (fun h4 => ?_) (fun h4 => ?_)
 ·
  have hA : A = none := by simpa using h4
  obtain ⟨rfl, rfl⟩ : n = 0 ∧ news = [] := by
   rcases hR with hz | ⟨hl, ⟨_, hz⟩ | ⟨b, o, _, _, _, hb, _⟩⟩
   ·exact hz
   ·subst hz; exact ⟨rfl, by simpa using hl⟩
   ·rw [hA] at hb; cases hb
  refine Cx.seq (fun K5 k5 => ?_)
  refine Cx.region <| Lx.y (asg rfl) rfl <| Lx.nil <| ?_
  refine Xx.tn (k5 _ _ _ _ ?_)
  refine Cx.ret <| Xx.tr <| ?_
  exact Xx.ret1 rfl rfl ⟨rfl, none, 0, rfl, rfl, Nat.le_refl _⟩ (Frag.le_refl _) (by rw [sbuf_nil, one_star])
 ·
  skip
  refine Cx.skip ?_
  refine Xx.tn (k2 _ _ _ _ ?_)
  refine Cx.seq (fun K6 k6 => ?_)
  refine Cx.region ?_
  refine Lx.o (bslZ U22 ti25) rfl (fun v B' H' hΦ hB => ?_)
  obtain ⟨b0, rfl, hBB, rfl⟩ := hΦ
  subst hBB
  rename Frag => B
  clear hB
  refine Lx.y (mv rfl) rfl ?_
  refine Lx.o (appC (et := 25) U22 U22 ti25 rfl rfl hR h1 (by omega) (by omega)) rfl (fun v B' H' hΦ hB => ?_)
  obtain ⟨A3, c3, rfl, hc3, hBB, rfl⟩ := hΦ
  subst hBB
  rename Frag => B
  clear hB
  refine Lx.y (asg rfl) rfl <| Lx.nil <| ?_
  refine Xx.tn (k6 _ _ _ _ ?_)
  refine Cx.ret ?_
  exact Xx.ret1 rfl rfl ⟨rfl, A3, c3, rfl, rfl, hc3⟩ (Frag.le_refl _) rfl
theorem strs_all2 (l : List (List UInt8)) : (l.map str).all (·.oneCell') = true := by
  rw [List.all_eq_true]; intro v hv; obtain ⟨x, _, rfl⟩ := List.mem_map.1 hv; rfl
theorem frzS {N0 : Nat} {B : Frag} {et : TypeId} {size n c : Nat} {A : Option Addr} {xs : List Value} {R : HP} {w : World} (s : St N0 B (sbuf et size A n c xs * R) w) : ∃ B', B.le B' ∧ RoS B' size A n xs ∧ St N0 B' R w := by
  rcases s.cases_sbuf with ⟨e1, e2, e3, e4, s'⟩ | ⟨b, sp, e1, e2, e3, e4, s'⟩
  · subst e1 e2 e4; exact ⟨B, Frag.le_refl _, RoS.nil _ _, s'⟩
  · have hb := s'.blk
    have hf := s'.freeze
    refine ⟨_, hf.2, ⟨e2, .inr ⟨b, 0, xs ++ sp, et, (0, 0), e1, by simp [Frag.un, Frag.one, hb.2.1], ?_⟩⟩, hf.1⟩
    rw [List.drop_zero, ← e2, List.take_left]
theorem roe_ros {B : Frag} {A : Option Addr} {n : Nat} {xs : List Value} (h : RoE B A n xs) : n = 0 ∧ xs = [] ∨ RoS B 1 A n xs := by
  obtain ⟨hl, he⟩ := h
  by_cases h0 : n = 0
  · subst h0; exact .inl ⟨rfl, by simpa using hl⟩
  · obtain ⟨b, o, cs, et, fz, hA, hB, _⟩ := he 0 (by omega)
    refine .inr ⟨by simp [hl], .inr ⟨b, o, cs, et, fz, hA, hB, ?_⟩⟩
    apply List.ext_getElem?
    intro j
    rw [List.getElem?_take, List.getElem?_drop]
    by_cases hj : j < n
    · rw [if_pos (by omega)]
      obtain ⟨b', o', cs', et', fz', hA', hB', hv⟩ := he j hj
      rw [hA] at hA'
      cases hA'
      rw [hB] at hB'
      injection hB' with hB'
      injection hB' with e1
      have e2 : cs = cs' := by have := congrArg Array.toList e1; simpa using this
      rw [e2, ← hv, Nat.mul_one]
    · rw [if_neg (by omega), List.getElem?_eq_none (by omega)]
theorem vcs_one (v : V) (Ap : Option Addr) (cp : Nat) (An : Option Addr) (cn : Nat) : (vcs v Ap cp An cn).all (·.oneCell') = true := rfl
theorem blocks_one {ys : List Value} {n : Nat} (hl : ys.length = n * 6) (h : ∀ k, k < n → ((ys.drop (k * 6)).take 6).all (·.oneCell') = true) : ys.all (·.oneCell') = true := by
  rw [List.all_eq_true]
  intro x hx
  obtain ⟨j, hj, rfl⟩ := List.getElem_of_mem hx
  have h1 := h (j / 6) (by omega)
  rw [List.all_eq_true] at h1
  refine h1 _ (List.mem_of_getElem? (i := j % 6) ?_)
  rw [List.getElem?_take, if_pos (by omega), List.getElem?_drop, show j / 6 * 6 + j % 6 = j by omega, List.getElem?_eq_getElem]
theorem parts_ros {B : Frag} {d : Nat} {v : V} {Ap : Option Addr} (h : ∀ i (h : i < v.parts.length), ∃ b o l et fz xs, Ap = some ⟨b, o, none⟩ ∧ B b = some (.cells (List.toArray l) et fz) ∧ (l.drop (o + i * 6)).take 6 = xs ∧ ValR B d v.parts[i] xs) :
    ∃ ys : List Value, ys.length = v.parts.length * 6 ∧ (v.parts.length = 0 ∧ ys = [] ∨ RoS B 6 Ap v.parts.length ys) ∧ ys.all (·.oneCell') = true ∧ ∀ k (hk : k < v.parts.length), ValR B d v.parts[k] ((ys.drop (k * 6)).take 6) := by
  by_cases h0 : v.parts.length = 0
  · exact ⟨[], by simp [h0], .inl ⟨h0, rfl⟩, rfl, fun k hk => absurd hk (by omega)⟩
  · obtain ⟨b, o, l, et, fz, xs, hA, hB, _, _⟩ := h 0 (by omega)
    have hat : ∀ k (hk : k < v.parts.length), ValR B d v.parts[k] ((l.drop (o + k * 6)).take 6) := by
      intro k hk
      obtain ⟨b', o', l', et', fz', xs', hA', hB', hx', hv'⟩ := h k hk
      rw [hA] at hA'
      cases hA'
      rw [hB] at hB'
      injection hB' with hB'
      injection hB' with e1
      have e2 : l = l' := by have := congrArg Array.toList e1; simpa using this
      rw [e2, hx']; exact hv'
    have hlen : ∀ k, k < v.parts.length → ((l.drop (o + k * 6)).take 6).length = 6 := fun k hk => by
      obtain ⟨_, _, _, _, e⟩ := ValR.shape (hat k hk)
      rw [e]; rfl
    have hl : o + v.parts.length * 6 ≤ l.length := by
      have := hlen (v.parts.length - 1) (by omega)
      rw [List.length_take, List.length_drop] at this
      omega
    have hy : ((l.drop o).take (v.parts.length * 6)).length = v.parts.length * 6 := by rw [List.length_take, List.length_drop]; omega
    have hyk : ∀ k, k < v.parts.length → ((((l.drop o).take (v.parts.length * 6)).drop (k * 6)).take 6) = (l.drop (o + k * 6)).take 6 := fun k hk => by
      rw [List.drop_take, List.take_take, List.drop_drop, Nat.min_eq_left (by omega)]
    refine ⟨(l.drop o).take (v.parts.length * 6), hy, .inr ⟨hy, .inr ⟨b, o, l, et, fz, hA, hB, rfl⟩⟩, blocks_one hy (fun k hk => ?_), fun k hk => ?_⟩
    · rw [hyk k hk]
      obtain ⟨_, _, _, _, e⟩ := ValR.shape (hat k hk)
      rw [e]; rfl
    · rw [hyk k hk]; exact hat k hk
def ClR (B : Frag) (d : Nat) (v : V) (cp : Nat) (An : Option Addr) (cn : Nat) (ys : List Value) : Prop :=
  (v.s.length ≤ 4611686018427387904 ∧ -9223372036854775808 ≤ v.n ∧ v.n ≤ 9223372036854775807 ∧ v.names.length ≤ cn ∧ v.parts.length ≤ cp) ∧ v.parts.length ≤ 4611686018427387904 ∧ v.names.length ≤ 4611686018427387904 ∧ RoE B An v.names.length (v.names.map str) ∧ (∀ x ∈ v.names, x.length ≤ 4611686018427387904) ∧
    ys.length = v.parts.length * 6 ∧ ∀ k (hk : k < v.parts.length), ValR B d v.parts[k] ((ys.drop (k * 6)).take 6)
theorem ClR.val {B B' : Frag} {d : Nat} {v : V} {cp : Nat} {An Ap : Option Addr} {cn : Nat} {ys : List Value} (h : ClR B d v cp An cn ys) (hB : B.le B') (hro : RoS B' 6 Ap v.parts.length ys) : ValR B' (d + 1) v (vcs v Ap cp An cn) := by
  obtain ⟨h1, h2, h3, h4, h5, h6, h7⟩ := h
  exact ValR.mk h1 h2 h3 (h4.mono hB) h5 hro fun k hk => (h7 k hk).mono hB
theorem part_set {ys zs sp : List Value} {n i : Nat} (hl : ys.length = n * 6) (hz : zs.length = 6) (hi : i < n) :
    (ys ++ sp).take (0 + i * 6) ++ zs ++ (ys ++ sp).drop (0 + i * 6 + zs.length) = (ys.take (i * 6) ++ zs ++ ys.drop (i * 6 + 6)) ++ sp := by
  rw [hz, Nat.zero_add, List.take_append_of_le_length (by omega), List.drop_append_of_le_length (by omega)]; simp
theorem part_len {ys zs : List Value} {n i : Nat} (hl : ys.length = n * 6) (hz : zs.length = 6) (hi : i < n) : (ys.take (i * 6) ++ zs ++ ys.drop (i * 6 + 6)).length = n * 6 := by
  simp [hz]; omega
theorem part_at {ys zs : List Value} {n i k : Nat} (hl : ys.length = n * 6) (hz : zs.length = 6) (hi : i < n) (hk : k < n) :
    ((ys.take (i * 6) ++ zs ++ ys.drop (i * 6 + 6)).drop (k * 6)).take 6 = if k = i then zs else (ys.drop (k * 6)).take 6 := by
  have h1 : (ys.take (i * 6)).length = i * 6 := by rw [List.length_take]; omega
  split
  · rename_i e
    subst e
    rw [List.append_assoc, List.drop_left' h1, List.take_left' hz]
  · rename_i e
    apply List.ext_getElem?
    intro j
    rw [List.getElem?_take, List.getElem?_take, List.getElem?_drop, List.getElem?_drop]
    by_cases hj : j < 6
    · rw [if_pos hj, if_pos hj]
      rcases Nat.lt_or_gt_of_ne e with h | h
      · rw [List.append_assoc, List.getElem?_append_left (by omega), List.getElem?_take, if_pos (by omega)]
      · rw [List.getElem?_append_right (by simp [hz]; omega), List.getElem?_drop]
        congr 1
        simp [hz]; omega
    · rw [if_neg hj, if_neg hj]
set_option maxHeartbeats 4000000 in
theorem Clone_step (d : Nat) (ih : ∀ (v : V) (cs : List Value) (deep : Int) (B : Frag), ValR B d v cs → checkF d v deep = 0 → CtB Tryz.prog 35 [.agg cs.toArray] B (fun r B' => ∃ cs', r = .agg cs'.toArray ∧ ValR B' d v cs')) (v : V) (cs : List Value) (deep : Int) (B : Frag) (h : ValR B (d + 1) v cs) (hok : checkF (d + 1) v deep = 0) : Ct Tryz.prog 35 [.agg cs.toArray] B 1 (fun r B' H' => ∃ Ap cp An cn ys, r = .agg (vcs v Ap cp An cn).toArray ∧ ClR B' d v cp An cn ys ∧ H' = sbuf 25 6 Ap v.parts.length cp ys) := by
 obtain ⟨hnm6, hnm0⟩ := names_many hok
 obtain ⟨_, _, _, _, hal, _, hap⟩ := chk_ok hok
 obtain ⟨Ap, cp, An, cn, rfl, ⟨hsl, hn1, hn2, hcn, hcp⟩, hpl, hnl, hns, hnx, hps⟩ := h
 obtain ⟨ys0, hyl0, hyR0, hy10, hyv0⟩ := parts_ros hps
 have hnm : v.names.length ≤ 32 := by
  by_cases k6 : v.kind = 6
  ·have := hnm6 k6; omega
  ·have := hnm0 k6; omega
 refine Ct.of_body Tryz.func35 rfl (nt := 29) rfl (by kernel_rfl) rfl ?_
 intro N0 w0 R
 rw [one_star]
 refine Cx.seq (fun K1 k1 => ?_)
 refine Cx.region ?_
 refine Lx.new (boxA rfl) rfl (fun b1 => ?_)
 refine Lx.new (allocO ti25) rfl (fun b2 => ?_)
 refine Lx.nil ?_
 refine Xx.tn (k1 _ _ _ _ ?_)
 refine Cx.seq (fun K2 k2 => ?_)
 refine Cx.drawn (by kernel_rfl) ?_
 refine Dx.p (i := 0) rfl (by kernel_rfl) (fa' fo25_5 rfl) rfl ?_
 refine Dx.r (i := 1) rfl (by kernel_rfl) (ld U23 rfl rfl rfl) rfl ?_
 refine Dx.p (i := 3) rfl (by kernel_rfl) (fa' fo25_4 rfl) rfl ?_
 refine Dx.r (i := 4) rfl (by kernel_rfl) (ld U22 rfl rfl rfl) rfl ?_
 refine Dx.one (i := 2) (by kernel_rfl) ?_
 refine Dstep.o (i := 2) rfl (Ox.call rfl rfl rfl (CloneST_ct An v.names.length cn (v.names.map str) _ (roe_ros hns) (strs_all2 _) (by omega)) ((one_star _).symm)) rfl (fun v B' H' hΦ hB => ?_)
 obtain ⟨_, rfl, hΦ⟩ := hΦ
 obtain ⟨hBB, An2, cn2, rfl, rfl, hcn2⟩ := hΦ
 subst hBB
 rename Frag => B
 clear hB
 refine ⟨JOk.yes (JOk.edge (JOk.top) (by kernel_rfl)) (ld U22 rfl rfl rfl), ?_⟩
 refine Dx.p (i := 6) rfl (by kernel_rfl) (fa' fo25_5 rfl) rfl ?_
 refine Dx.one (i := 5) (by kernel_rfl) ?_
 refine Dstep.o (i := 5) rfl (Ox.call rfl rfl rfl (CloneV_ct Ap v.parts.length cp ys0 _ hyR0 hy10 (by omega)) ((one_star _).symm)) rfl (fun v B' H' hΦ hB => ?_)
 obtain ⟨_, rfl, hΦ⟩ := hΦ
 obtain ⟨hBB, Ap2, cp2, rfl, rfl, hcp2⟩ := hΦ
 subst hBB
 rename Frag => B
 clear hB
 refine ⟨JOk.edge (JOk.yes (JOk.top) (ld U23 rfl rfl rfl)) (by kernel_rfl), ?_⟩
 refine Dx.one (i := 7) (by kernel_rfl) ?_
 refine Dstep.o0 (i := 7) rfl (stO (cs' := vcs v Ap cp An2 cn2) U23 sz23 rfl rfl rfl (by show 5 < 6; omega) rfl) (fun v B' H' hΦ hB => ?_)
 obtain ⟨hBB, rfl⟩ := hΦ; have hBB2 := hBB.symm; subst hBB2; clear hB v
 refine ⟨JOk.edge (JOk.edge (JOk.top) (by kernel_rfl)) (by kernel_rfl), ?_⟩
 refine Dx.p (i := 8) rfl (by kernel_rfl) (fa' fo25_4 rfl) rfl ?_
 refine Dx.one (i := 9) (by kernel_rfl) ?_
 refine Dstep.o0 (i := 9) rfl (stO (cs' := vcs v Ap2 cp2 An2 cn2) U22 sz22 rfl rfl rfl (by show 4 < 6; omega) rfl) (fun v B' H' hΦ hB => ?_)
 obtain ⟨hBB, rfl⟩ := hΦ; have hBB2 := hBB.symm; subst hBB2; clear hB v
 refine ⟨JOk.edge (JOk.edge (JOk.top) (by kernel_rfl)) (by kernel_rfl), ?_⟩
 refine Dx.done (by kernel_rfl) ?_
 refine Xx.tn (k2 _ _ _ _ ?_)
 refine Cx.seq (fun K3 k3 => ?_)
 refine Cx.seq (fun K4 k4 => ?_)
 refine Xx.freezeT An2 fun B3 hB3 hRn hnc3 _ => ?_
 have hcl0 : ClR B3 d v cp2 An2 cn2 ys0 := ⟨⟨hsl, hn1, hn2, hcn2, hcp2⟩, hpl, hnl, RoS.roe hRn, hnx, hyl0, fun k hk => (hyv0 k hk).mono hB3⟩
 obtain ⟨Bz, rfl⟩ : ∃ Bz, Bz = B3 := ⟨_, rfl⟩
 refine Cx.region <| Lx.y (fa' fo25_4 rfl) rfl <| Lx.y (ld U22 rfl rfl rfl) rfl <| Lx.y (lenV (ty' := 0) U22 rfl) rfl <| Lx.y (mv rfl) rfl <| Lx.nil <| ?_
 refine Xx.tn (k4 _ _ _ _ ?_)
 refine Cx.block ?_
 refine Cx.loopK (Sc 0 rfl (Sc 1 rfl (Sc 2 rfl (Sc 5 rfl (Sc 6 rfl (Sc 7 rfl (Sc 8 rfl (Sc 9 rfl (Sc 10 rfl (Sc 11 rfl (Sc 12 rfl (Sc 13 rfl (Sc 14 rfl (Sc 15 rfl (Sub.nil _))))))))))))))) (fun m ρ' B' H' => ∃ (i : Nat) (ys : List Value) (B2 : Frag), (i ≤ v.parts.length ∧ ClR B2 d v cp2 An2 cn2 ys ∧ Bz.le B2) ∧ m = v.parts.length - i ∧ ρ' = [(16, i64 i)] ∧ B2 = B' ∧ sbuf 25 6 Ap2 v.parts.length cp2 ys * (row b1 25 (vcs v Ap2 cp2 An2 cn2) * (row b2 25 [i64 0, .bool false, i64 0, str [], .slice none 0 0, .slice none 0 0] * R)) = H') ⟨0, _, _, ⟨Nat.zero_le _, hcl0, Frag.le_refl _⟩, rfl, rfl, rfl, star_left _ _ _⟩ (Sc 16 rfl (Sc 0 rfl (Sc 1 rfl (Sc 2 rfl (Sc 5 rfl (Sc 6 rfl (Sc 7 rfl (Sc 8 rfl (Sc 9 rfl (Sc 10 rfl (Sc 11 rfl (Sc 12 rfl (Sc 13 rfl (Sc 14 rfl (Sc 15 rfl (Sub.nil _)))))))))))))))) ?_
 rintro m ρ' B' H' ⟨i, ys, B2, ⟨hi, hcl, hB2⟩, rfl, rfl, rfl, rfl⟩
 refine Cx.seq (fun K5 k5 => ?_)
 refine Cx.region <| Lx.y (lss rfl rfl) rfl <| Lx.nil <| ?_
 refine Xx.tn (k5 _ _ _ _ ?_)
 refine Cx.seq (fun K6 k6 => ?_)
 refine Cx.condD rfl (fun h7 => ?_) (fun h7 => ?_)
 ·
  have hlt := h7
  have hlt : i < v.parts.length := by omega
  obtain ⟨g1, g2, g3, g4, g5, hyl, hyv⟩ := hcl
  have hvi := hyv i hlt
  obtain ⟨Ap3, cp3, An3, cn3, hsh⟩ := ValR.shape hvi
  rw [hsh] at hvi
  refine Xx.openT Ap2 (by omega) (fun bp sp hAp hyl2 hyc hycl => ?_)
  subst hAp
  have hat : ((ys ++ sp).drop (0 + i * 6)).take 6 = vcs v.parts[i] Ap3 cp3 An3 cn3 := by rw [Nat.zero_add, List.drop_append_of_le_length (by omega), List.take_append_of_le_length (by rw [List.length_drop]; omega)]; exact hsh
  refine Cx.skip ?_
  refine Xx.tn (k6 _ _ _ _ ?_)
  refine Cx.seq (fun K8 k8 => ?_)
  refine Cx.block ?_
  refine Cx.seq (fun K9 k9 => ?_)
  refine Cx.region <| Lx.y (mv rfl) rfl <| Lx.y (ia U22 sz25 rfl rfl (Int.toNat_natCast _) (by omega) (by omega)) rfl <| Lx.y (ldA U25 rfl sz25 rfl (Cells.own (n := 6) PickB.eq hat) rfl) rfl <| ?_
  refine Lx.new (allocO ti25) rfl (fun b4 => ?_)
  refine Lx.y (asg rfl) rfl ?_
  refine Lx.st (stA (d := .bool) sz25 rfl rfl rfl rfl (by show 0 + 6 ≤ 6; omega) rfl) ?_
  refine Lx.nil ?_
  refine Xx.tn (k9 _ _ _ _ ?_)
  refine Cx.drawn (by kernel_rfl) ?_
  refine Dx.p (i := 0) rfl (by kernel_rfl) (fa' fo25_4 rfl) rfl ?_
  refine Dx.r (i := 1) rfl (by kernel_rfl) (ld U22 rfl rfl rfl) rfl ?_
  refine Dx.p (i := 2) rfl (by kernel_rfl) (mv rfl) rfl ?_
  refine Dx.r (i := 3) rfl (by kernel_rfl) (ldA U25 rfl sz25 rfl (Cells.own (n := 6) PickB.eq rfl) rfl) rfl ?_
  refine Dx.one (i := 4) (by kernel_rfl) ?_
  refine Dstep.o (i := 4) rfl (Ox.cb rfl rfl rfl (ih v.parts[i] _ _ _ hvi (hap i hlt))) rfl (fun v B' H' hΦ hB => ?_)
  obtain ⟨rfl, hΦ⟩ := hΦ
  obtain ⟨cs9, rfl, hv9⟩ := hΦ
  obtain ⟨Ap4, cp4, An4, cn4, rfl⟩ := ValR.shape hv9
  obtain ⟨B9, he9⟩ : ∃ B9, B9 = B' := ⟨_, rfl⟩
  subst he9
  have hB9 := hB
  refine ⟨JOk.edge (JOk.yes (JOk.top) (ld U22 rfl rfl rfl)) (by kernel_rfl), ?_⟩
  refine Dx.p (i := 5) rfl (by kernel_rfl) (ia U22 sz25 rfl rfl (Int.toNat_natCast _) (by omega) (by omega)) rfl ?_
  refine Dx.one (i := 6) (by kernel_rfl) ?_
  refine Dstep.o0 (i := 6) rfl (stA (d := .bool) (cs' := (ys.take (i * 6) ++ vcs v.parts[i] Ap4 cp4 An4 cn4 ++ ys.drop (i * 6 + 6)) ++ sp) sz25 rfl rfl rfl rfl (by rw [List.length_append]; show 0 + i * 6 + 6 ≤ _; omega) (by rw [frc_gen]; exact congrArg some (part_set hyl rfl hlt))) (fun v B' H' hΦ hB => ?_)
  obtain ⟨hBB, rfl⟩ := hΦ; have hBB2 := hBB.symm; subst hBB2; clear hB v
  refine ⟨JOk.edge (JOk.edge (JOk.top) (by kernel_rfl)) (by kernel_rfl), ?_⟩
  refine Dx.done (by kernel_rfl) ?_
  refine Xx.bn ?_
  refine Xx.tn (k8 _ _ _ _ ?_)
  refine Xx.dropB b4 ?_
  refine Xx.closeT bp (ys.take (i * 6) ++ vcs v.parts[i] Ap4 cp4 An4 cn4 ++ ys.drop (i * 6 + 6)) sp 6 v.parts.length cp2 rfl (part_len hyl rfl hlt) hyc (by rw [List.length_append, part_len hyl rfl hlt]; rw [List.length_append] at hycl; omega) ?_
  have hcl9 : ClR B9 d v cp2 An2 cn2 (ys.take (i * 6) ++ vcs v.parts[i] Ap4 cp4 An4 cn4 ++ ys.drop (i * 6 + 6)) := ⟨g1, g2, g3, g4.mono hB9, g5, part_len hyl rfl hlt, fun k hk => by
   rw [part_at hyl rfl hlt hk]
   split
   ·rename_i e; subst e; exact hv9
   ·exact (hyv k hk).mono hB9⟩
  refine Cx.region <| Lx.y (Yx.val (add rfl rfl (by first | exact wrap64 (by omega) (by omega) | rfl)) (show _ = i64 ((i + 1 : Nat) : Int) from rfl)) rfl <| Lx.y (mv rfl) rfl <| Lx.nil <| ?_
  exact Xx.againK ⟨i + 1, _, _, ⟨by omega, hcl9, Frag.le_trans hB2 hB9⟩, rfl, rfl, rfl, rfl⟩ (by omega) (Sc 16 rfl (Sc 0 rfl (Sc 1 rfl (Sc 2 rfl (Sc 5 rfl (Sc 6 rfl (Sc 7 rfl (Sc 8 rfl (Sc 9 rfl (Sc 10 rfl (Sc 11 rfl (Sc 12 rfl (Sc 13 rfl (Sc 14 rfl (Sc 15 rfl (Sub.nil _))))))))))))))))
 ·
  have hge := h7
  refine Cx.exit <| Xx.te <| Xx.te <| Xx.bh <| ?_
  refine Xx.tn (k3 _ _ _ _ ?_)
  refine Cx.seq (fun K10 k10 => ?_)
  refine Cx.region <| Lx.y (ldA U25 rfl sz25 rfl (Cells.own (n := 6) PickB.eq rfl) rfl) rfl <| ?_
  refine Lx.st (stA (d := .bool) sz25 rfl rfl rfl rfl (by show 0 + 6 ≤ 6; omega) rfl) ?_
  refine Lx.nil ?_
  refine Xx.tn (k10 _ _ _ _ ?_)
  refine Cx.ret ?_
  refine Xx.dropB b1 ?_
  exact Xx.retA rfl U25 rfl sz25 rfl rfl ⟨_, _, _, _, _, rfl, hcl, rfl⟩ (Frag.le_trans hB3 hB2) rfl
theorem Clone_ct : ∀ (d : Nat) (v : V) (cs : List Value) (deep : Int) (B : Frag), ValR B d v cs → checkF d v deep = 0 → CtB Tryz.prog 35 [.agg cs.toArray] B (fun r B' => ∃ cs', r = .agg cs'.toArray ∧ ValR B' d v cs') := by
  intro d
  induction d with
  | zero => intro v cs deep B h; exact h.elim
  | succ d ih =>
    intro v cs deep B h hok
    have h1 := Clone_step d ih v cs deep B h hok
    refine ⟨h1.1, fun N0 w R s => (h1.2 N0 w R (by rw [one_star]; exact s)).mono ?_⟩
    rintro x w' ⟨_, B', _, rfl, ⟨Ap, cp, An, cn, ys, rfl, hcl, rfl⟩, hB, hb, s2⟩
    obtain ⟨B2, hB2, hro, s3⟩ := frzS s2
    exact ⟨_, B2, rfl, ⟨_, rfl, hcl.val hB2 hro⟩, Frag.le_trans hB hB2, hb, s3⟩
theorem Clone_own (d : Nat) (v : V) (cs : List Value) (deep : Int) (B : Frag) (h : ValR B (d + 1) v cs) (hok : checkF (d + 1) v deep = 0) : Ct Tryz.prog 35 [.agg cs.toArray] B 1 (fun r B' H' => ∃ Ap cp An cn ys, r = .agg (vcs v Ap cp An cn).toArray ∧ ClR B' d v cp An cn ys ∧ H' = sbuf 25 6 Ap v.parts.length cp ys) :=
  Clone_step d (Clone_ct d) v cs deep B h hok
end RwA
end Go.Proofs.YtdidpocakipinaaGreatDoor
namespace Go.Proofs.YtdidpocakipinaaGreatDoor
open Go.SL Go.RowKit
set_option maxRecDepth 100000
open Ke1 Ke3 Ke4 Ke5 Ke6 Ke7 Ke8 Ke9 KeA KeB KeC KeD KeE KeF KeG KeI RgA RgB BtB BtC BtD BtE BtG BtX BtH BtI BtF BtJ BtK BtL BtM BtN BtO BtR BtY BtZ DrA DrB DrC DrD DrE DrF RwA
namespace RwB
structure Dc where
  n : BitVec 64
  ver : BitVec 64
  v : V
  cs : List Value
def Dc.cells (d : Dc) : List Value := u64 d.n :: u64 d.ver :: d.cs
def dkv (d : Dc) : BitVec 64 × Value := (d.n, .agg d.cells.toArray)
structure Ix where
  f : List UInt8
  tb : Nat
  d : Nat
  c : C
def ikv (x : Ix) : List UInt8 × Value := (x.f, .pointer (some ⟨x.tb, 0, none⟩))
def tre (tb d : Nat) (c : C) : HP := tree tb d c
def ixs : List Ix → HP
  | [] => 1
  | x :: l => tre x.tb x.d x.c * ixs l
theorem ixs_app : ∀ (a b : List Ix), ixs (a ++ b) = ixs a * ixs b := by
  intro a
  induction a with
  | nil => intro b; exact (one_star _).symm
  | cons x a ih => intro b; show tre x.tb x.d x.c * ixs (a ++ b) = (tre x.tb x.d x.c * ixs a) * ixs b; rw [ih]; exact (star_assoc _ _ _).symm
theorem ixs_mid (a b : List Ix) (x : Ix) : ixs (a ++ x :: b) = tre x.tb x.d x.c * (ixs a * ixs b) := by
  rw [ixs_app]; show ixs a * (tre x.tb x.d x.c * ixs b) = _; exact star_left _ _ _
structure Tb where
  b : Nat
  db : Nat
  xb : Nat
  ob : Nat
  od : Nat
  oc : C
  ds : List Dc
  xs : List Ix
abbrev rowT (T : Tb) : HP := row T.b 87 [.map (some T.db), .pointer (some ⟨T.ob, 0, none⟩), .map (some T.xb)]
def tab (T : Tb) : HP := rowT T * (gmap T.db (T.ds.map dkv) * (tre T.ob T.od T.oc * (gmap T.xb (T.xs.map ikv) * ixs T.xs)))
def KS (l : List (List UInt8 × List UInt8)) (S : List UInt8 → Prop) : Prop := (∀ p ∈ l, p.2 = []) ∧ ∀ k, k ∈ l.map (·.1) ↔ S k
def TK (d : Nat) (c : C) (S : List UInt8 → Prop) : Prop := Tr90 d c ∧ KS (io (d + 1) c) S
noncomputable def keyD (f : List UInt8) (d : Dc) : List UInt8 := keyF 3 (getV d.v f) ++ numL d.n
def DOk (B : Frag) (d : Dc) : Prop := ValR B 4 d.v d.cs ∧ checkF 4 d.v 1 = 0 ∧ (bytesF 4 d.v).length ≤ 1024
theorem DOk.mono {B B' : Frag} {d : Dc} (h : DOk B d) (hB : B.le B') : DOk B' d := ⟨h.1.mono hB, h.2⟩
structure TabOk (B : Frag) (T : Tb) : Prop where
  docs : ∀ d ∈ T.ds, DOk B d
  nd : (T.ds.map (·.n)).Nodup
  ord : TK T.od T.oc (fun k => ∃ d ∈ T.ds, k = numL d.n)
  nf : (T.xs.map (·.f)).Nodup
  idx : ∀ x ∈ T.xs, TK x.d x.c (fun k => ∃ d ∈ T.ds, k = keyD x.f d)
theorem TabOk.mono {B B' : Frag} {T : Tb} (h : TabOk B T) (hB : B.le B') : TabOk B' T := ⟨fun d hd => (h.docs d hd).mono hB, h.nd, h.ord, h.nf, h.idx⟩
theorem insP_keys {k v : List UInt8} : ∀ {l : List (List UInt8 × List UInt8)} (k' : List UInt8), k' ∈ (insP k v l).map (·.1) ↔ k' = k ∨ k' ∈ l.map (·.1) := by
  intro l
  induction l with
  | nil => intro k'; simp [insP]
  | cons p l ih =>
    intro k'
    unfold insP
    split
    · rw [List.map_cons, List.mem_cons, ih, List.map_cons, List.mem_cons]
      constructor
      · rintro (h | h | h)
        · exact .inr (.inl h)
        · exact .inl h
        · exact .inr (.inr h)
      · rintro (h | h | h)
        · exact .inr (.inl h)
        · exact .inl h
        · exact .inr (.inr h)
    · split
      · rename_i e
        rw [List.map_cons, List.mem_cons, List.map_cons, List.mem_cons]
        constructor
        · rintro (h | h)
          · exact .inl h
          · exact .inr (.inr h)
        · rintro (h | h | h)
          · exact .inl h
          · exact .inl (h.trans e)
          · exact .inr h
      · rw [List.map_cons, List.mem_cons]
theorem delP_keys {k : List UInt8} {l : List (List UInt8 × List UInt8)} (k' : List UInt8) : k' ∈ (delP k l).map (·.1) ↔ k' ≠ k ∧ k' ∈ l.map (·.1) := by
  unfold delP
  constructor
  · intro h
    obtain ⟨p, hp, rfl⟩ := List.mem_map.1 h
    obtain ⟨h1, h2⟩ := List.mem_filter.1 hp
    exact ⟨by simpa using h2, List.mem_map.2 ⟨p, h1, rfl⟩⟩
  · rintro ⟨h1, h2⟩
    obtain ⟨p, hp, rfl⟩ := List.mem_map.1 h2
    exact List.mem_map.2 ⟨p, List.mem_filter.2 ⟨hp, by simpa using h1⟩, rfl⟩
theorem TK.congr {d : Nat} {c : C} {S S' : List UInt8 → Prop} (h : TK d c S) (e : ∀ k, S k ↔ S' k) : TK d c S' := ⟨h.1, h.2.1, fun k => (h.2.2 k).trans (e k)⟩
theorem TK.put {d d' : Nat} {c c' : C} {S : List UInt8 → Prop} {k : List UInt8} (h : TK d c S) (hok : Ok 90 (d' + 1) c') (hio : io (d' + 1) c' = insP k [] (io (d + 1) c)) (hm : Mn (d + 1) c → Mn (d' + 1) c') (hr : d = 0 ∨ 1 ≤ c.ks.length → d' = 0 ∨ 1 ≤ c'.ks.length) : TK d' c' (fun k' => k' = k ∨ S k') := by
  obtain ⟨⟨_, h2, h3, h4⟩, h5, h6⟩ := h
  refine ⟨⟨hok, hm h2, by rw [hio]; exact insP_ord h3, hr h4⟩, fun p hp => ?_, fun k' => ?_⟩
  · rw [hio] at hp
    rcases insP_mem hp with rfl | hp
    · rfl
    · exact h5 p hp
  · rw [hio, insP_keys, h6]
theorem TK.drop {d d' : Nat} {c c' : C} {S : List UInt8 → Prop} {k : List UInt8} (h : TK d c S) (ht : Tr90 d' c') (hio : io (d' + 1) c' = delP k (io (d + 1) c)) : TK d' c' (fun k' => k' ≠ k ∧ S k') := by
  refine ⟨ht, fun p hp => ?_, fun k' => ?_⟩
  · rw [hio] at hp
    exact h.2.1 p (List.mem_filter.1 hp).1
  · rw [hio, delP_keys, h.2.2]
theorem PutT_ct {S : List UInt8 → Prop} (d : Nat) (c : C) (tb : Nat) (k : List UInt8) (B : Frag) (h : TK d c S) (hlen : (io (d + 1) c).length ≤ 80) :
    Ct Tryz.prog 36 [.pointer (some ⟨tb, 0, none⟩), str k, str []] B (tre tb d c) (fun r B' H' => B' = B ∧ ∃ d' c' t, r = .bool t ∧ H' = tre tb d' c' ∧ TK d' c' (fun k' => k' = k ∨ S k')) := by
  refine ctTo (Put_ct d c tb k [] B h.1.1 h.1.2.2.1 hlen) rfl ?_
  rintro v B' H' ⟨rfl, d', c', rfl, rfl, h1, h2, _, h4, h5⟩
  exact ⟨rfl, d', c', _, rfl, rfl, h.put h1 h2 h4 h5⟩
theorem DropT_ct {S : List UInt8 → Prop} (d : Nat) (c : C) (tb : Nat) (k : List UInt8) (B : Frag) (h : TK d c S) (hlen : (io (d + 1) c).length ≤ 80) :
    Ct Tryz.prog 41 [.pointer (some ⟨tb, 0, none⟩), str k] B (tre tb d c) (fun r B' H' => B' = B ∧ ∃ d' c' t, r = .bool t ∧ H' = tre tb d' c' ∧ TK d' c' (fun k' => k' ≠ k ∧ S k')) := by
  refine ctTo (Drop_ct d c tb k B h.1 hlen) rfl ?_
  rintro v B' H' ⟨rfl, d', c', rfl, rfl, h1, h2⟩
  exact ⟨rfl, d', c', _, rfl, rfl, h.drop h1 h2⟩
theorem ord_nodup {l : List (List UInt8 × List UInt8)} (h : Ord l) : (l.map (·.1)).Nodup := by
  have h2 : (l.map (·.1)).Pairwise (fun a b => bless a b = true) := List.pairwise_map.2 h
  exact h2.imp fun hab e => by rw [e, bless_irrefl] at hab; cases hab
theorem TK.len {d : Nat} {c : C} {ds : List Dc} {g : Dc → List UInt8} (h : TK d c (fun k => ∃ x ∈ ds, k = g x)) : (io (d + 1) c).length ≤ ds.length := by
  have h1 := nodup_len _ (ds.map g) (ord_nodup h.1.2.2.1) fun k hk => by
    obtain ⟨x, hx, rfl⟩ := (h.2.2 k).1 hk
    exact List.mem_map.2 ⟨x, hx, rfl⟩
  simpa using h1
theorem num_tri (a b : BitVec 64) : Tri (cmpN a.toNat b.toNat) (numL a) (numL b) := by
  rw [numL_be, numL_be]
  exact beN_tri 8 _ _ (by have := a.isLt; omega) (by have := b.isLt; omega)
theorem numC_inj {a b : BitVec 64} (h : numL a = numL b) : a = b := by
  have h2 := tri_eq (num_tri a b)
  rw [decide_eq_true h] at h2
  have h1 : cmpN a.toNat b.toNat = .eq := by simpa using h2.symm
  exact BitVec.eq_of_toNat_eq (by
    rcases Nat.lt_trichotomy a.toNat b.toNat with hl | hl | hl
    · rw [cmpN_lt hl] at h1; cases h1
    · exact hl
    · rw [cmpN_gt hl] at h1; cases h1)
theorem keyD_n {f g : List UInt8} {d e : Dc} (h : keyD f d = keyD g e) : d.n = e.n := by
  unfold keyD at h
  have h1 := congrArg (fun l => l.drop (l.length - 8)) h
  simp only [List.length_append, numL_len, Nat.add_sub_cancel, List.drop_left] at h1
  exact numC_inj h1
theorem map_inj {α β : Type} (f : α → β) : ∀ {l : List α}, (l.map f).Nodup → ∀ {a b : α}, a ∈ l → b ∈ l → f a = f b → a = b := by
  intro l
  induction l with
  | nil => intro _ a b ha; cases ha
  | cons t T ih =>
    intro hn a b ha hb e
    rw [List.map_cons, List.nodup_cons] at hn
    rcases List.mem_cons.1 ha with h1 | ha
    · rcases List.mem_cons.1 hb with h2 | hb
      · rw [h1, h2]
      · exact absurd (List.mem_map.2 ⟨b, hb, by rw [← e, h1]⟩) hn.1
    · rcases List.mem_cons.1 hb with h2 | hb
      · exact absurd (List.mem_map.2 ⟨a, ha, by rw [e, h2]⟩) hn.1
      · exact ih hn.2 ha hb e
section
variable {α κ : Type} [DecidableEq κ] {kv : α → κ × Value} {ky : α → κ}
theorem gset_new (hk : ∀ x, (kv x).1 = ky x) {x : α} : ∀ {l : List α}, (∀ y ∈ l, ky y ≠ ky x) → gset (ky x) (kv x).2 (l.map kv) = (l ++ [x]).map kv := by
  intro l
  induction l with
  | nil => intro _; show [(ky x, (kv x).2)] = [kv x]; rw [← hk]
  | cons y l ih =>
    intro h
    show (if ky x = (kv y).1 then _ else (kv y) :: gset (ky x) (kv x).2 (l.map kv)) = _
    rw [if_neg (fun e => h y (by simp) (by rw [← hk, ← e])), ih fun z hz => h z (by simp [hz])]
    rfl
theorem gdel_filter (hk : ∀ x, (kv x).1 = ky x) {k : κ} : ∀ {l : List α}, (l.map ky).Nodup → gdel k (l.map kv) = (l.filter (fun x => decide (ky x ≠ k))).map kv := by
  intro l
  induction l with
  | nil => intro _; rfl
  | cons y l ih =>
    intro hn
    rw [List.map_cons, List.nodup_cons] at hn
    show (if k = (kv y).1 then l.map kv else (kv y) :: gdel k (l.map kv)) = _
    by_cases e : ky y = k
    · rw [if_pos (by rw [hk, e]), List.filter_cons_of_neg (by simp [e]), List.filter_eq_self.2]
      intro z hz
      have : ky z ≠ k := fun e2 => hn.1 (List.mem_map.2 ⟨z, hz, by rw [e2, e]⟩)
      simp [this]
    · rw [if_neg (fun e2 => e (by rw [← hk, ← e2])), List.filter_cons_of_pos (by simp [e]), ih hn.2]
      rfl
end
theorem dkv_k (d : Dc) : (dkv d).1 = d.n := rfl
theorem ikv_k (x : Ix) : (ikv x).1 = x.f := rfl
def dropD (n : BitVec 64) (ds : List Dc) : List Dc := ds.filter (fun x => decide (x.n ≠ n))
theorem dropD_mem {n : BitVec 64} {ds : List Dc} {d : Dc} : d ∈ dropD n ds ↔ d ∈ ds ∧ d.n ≠ n := by
  unfold dropD; rw [List.mem_filter]; simp
theorem dropD_nd {n : BitVec 64} {ds : List Dc} (h : (ds.map (·.n)).Nodup) : ((dropD n ds).map (·.n)).Nodup := h.sublist (List.filter_sublist.map _)
theorem dropD_len {n : BitVec 64} {ds : List Dc} : (dropD n ds).length ≤ ds.length := List.length_filter_le _ _
theorem dropD_none {n : BitVec 64} {ds : List Dc} (h : ∀ d ∈ ds, d.n ≠ n) : dropD n ds = ds := List.filter_eq_self.2 fun d hd => by simpa using h d hd
end RwB
end Go.Proofs.YtdidpocakipinaaGreatDoor
namespace Go.Proofs.YtdidpocakipinaaGreatDoor
open Go.SL Go.RowKit
set_option maxRecDepth 100000
open Ke1 Ke3 Ke4 Ke5 Ke6 Ke7 Ke8 Ke9 KeA KeB KeC KeD KeE KeF KeG KeI RgA RgB BtB BtC BtD BtE BtG BtX BtH BtI BtF BtJ BtK BtL BtM BtN BtO BtR BtY BtZ DrA DrB DrC DrD DrE DrF RwA RwB
namespace RwC
theorem sz25 : (Tryz.prog.info? 25).map (·.size) = some 6 := by kernel_rfl
theorem sz36 : (Tryz.prog.info? 36).map (·.size) = some 8 := by kernel_rfl
theorem ti36 : TI Tryz.prog 36 [.int .u64 0, .int .u64 0, .int .i64 0, .bool false, .int .i64 0, str [], .slice none 0 0, .slice none 0 0] 8 104 := TI.of (by kernel_rfl) rfl rfl
theorem ti87 : TI Tryz.prog 87 [.map none, .pointer none, .map none] 3 24 := TI.of (by kernel_rfl) rfl rfl
theorem fo36_2 : FO Tryz.prog 36 2 2 6 true := FO.of U36 rfl rfl (by kernel_rfl) U25 rfl rfl
theorem fo87_0 : FO Tryz.prog 87 0 0 1 false := FO.of U87 rfl rfl (by kernel_rfl) U82 rfl rfl
theorem fo87_1 : FO Tryz.prog 87 1 1 1 false := FO.of U87 rfl rfl (by kernel_rfl) U83 rfl rfl
theorem fo87_2 : FO Tryz.prog 87 2 2 1 false := FO.of U87 rfl rfl (by kernel_rfl) U85 rfl rfl
theorem pl36 : PL Tryz.prog 36 [(0, 1), (1, 1), (2, 6)] := PL.of U36 (by kernel_rfl)
theorem pl87 : PL Tryz.prog 87 [(0, 1), (1, 1), (2, 1)] := PL.of U87 (by kernel_rfl)
theorem tr90_new {c : C} (h : Ok 90 1 c) (e : io 1 c = []) : Tr90 0 c := by
  have h0 : c.cs = [] := by
    cases hc : c.cs with
    | nil => rfl
    | cons p l => exact (h.2.2.2 p (by rw [hc]; simp)).elim
  exact ⟨h, ⟨⟨fun _ => rfl, fun _ => h0⟩, fun p hp => (by rw [h0] at hp; cases hp)⟩, by rw [e]; exact List.Pairwise.nil, .inl rfl⟩
theorem tk_new {c : C} (h : Ok 90 1 c) (e : io 1 c = []) {S : List UInt8 → Prop} (hS : ∀ k, ¬ S k) : TK 0 c S :=
  ⟨tr90_new h e, fun p hp => (by rw [e] at hp; cases hp), fun k => (by rw [e]; exact ⟨fun h => (by cases h), fun h => (hS k h).elim⟩)⟩
def lookD (n : BitVec 64) (ds : List Dc) : List Value := match ds.find? (fun d => decide (d.n = n)) with
  | some d => d.cells
  | none => [.int .u64 0, .int .u64 0, i64 0, .bool false, i64 0, str [], .slice none 0 0, .slice none 0 0]
theorem look_get (n : BitVec 64) (ds : List Dc) : (gget n (ds.map dkv)).getD (.agg ([.int .u64 0, .int .u64 0, i64 0, .bool false, i64 0, str [], .slice none 0 0, .slice none 0 0]).toArray) = .agg (lookD n ds).toArray ∧ (gget n (ds.map dkv)).isSome = decide (∃ d ∈ ds, d.n = n) := by
  induction ds with
  | nil => exact ⟨rfl, by simp [gget]⟩
  | cons d ds ih =>
    have e : gget n ((d :: ds).map dkv) = if n = d.n then some (.agg d.cells.toArray) else gget n (ds.map dkv) := rfl
    rw [e]
    unfold lookD
    by_cases h : d.n = n
    · rw [if_pos h.symm, List.find?_cons_of_pos (by simp [h])]
      exact ⟨rfl, by simp [h]⟩
    · rw [if_neg (fun z => h z.symm), List.find?_cons_of_neg (by simp [h])]
      refine ⟨ih.1, ih.2.trans ?_⟩
      simp [h]
theorem look_some {n : BitVec 64} {ds : List Dc} (h : ∃ d ∈ ds, d.n = n) : ∃ d ∈ ds, d.n = n ∧ lookD n ds = d.cells := by
  obtain ⟨d, hd, hn⟩ := h
  unfold lookD
  cases hf : ds.find? (fun d => decide (d.n = n)) with
  | none => have := List.find?_eq_none.1 hf d hd; simp [hn] at this
  | some x => exact ⟨x, List.mem_of_find?_eq_some hf, by have := List.find?_some hf; simpa using this, rfl⟩
theorem look_none {n : BitVec 64} {ds : List Dc} (h : ¬ ∃ d ∈ ds, d.n = n) : lookD n ds = [.int .u64 0, .int .u64 0, i64 0, .bool false, i64 0, str [], .slice none 0 0, .slice none 0 0] := by
  unfold lookD
  rw [List.find?_eq_none.2 (fun d hd => by simpa using fun e => h ⟨d, hd, e⟩)]
theorem cells_shape {B : Frag} {d : Dc} (h : DOk B d) : ∃ Ap cp An cn, d.cells = u64 d.n :: u64 d.ver :: vcs d.v Ap cp An cn := by
  obtain ⟨Ap, cp, An, cn, e⟩ := ValR.shape h.1
  exact ⟨Ap, cp, An, cn, by unfold Dc.cells; rw [e]⟩
theorem look_len {B : Frag} {n : BitVec 64} {ds : List Dc} (h : ∀ d ∈ ds, DOk B d) : (lookD n ds).length = 8 ∧ (lookD n ds).all (·.oneCell') = true := by
  by_cases hx : ∃ d ∈ ds, d.n = n
  · obtain ⟨d, hd, _, e⟩ := look_some hx
    obtain ⟨Ap, cp, An, cn, e2⟩ := cells_shape (h d hd)
    rw [e, e2]; exact ⟨rfl, rfl⟩
  · rw [look_none hx]; exact ⟨rfl, rfl⟩
theorem st_all {zs vs : List Value} (h1 : zs.length = 8) (h2 : vs.length = 8) : frc (zs.take 0 ++ vs ++ zs.drop (0 + vs.length)) some = some vs := by
  rw [frc_gen]; simp; omega
def fk (x : Ix) : List UInt8 × Nat := (x.f, x.tb)
theorem fk_ikv {a b : List Ix} (h : a.map fk = b.map fk) : a.map ikv = b.map ikv := by
  have h1 := congrArg (List.map fun p : List UInt8 × Nat => (p.1, Value.pointer (some ⟨p.2, 0, none⟩))) h
  rw [List.map_map, List.map_map] at h1
  exact h1
theorem fk_f {a b : List Ix} (h : a.map fk = b.map fk) : a.map (·.f) = b.map (·.f) := by
  have h1 := congrArg (List.map Prod.fst) h
  rw [List.map_map, List.map_map] at h1
  exact h1
theorem fk_find {a b : List Ix} (h : a.map fk = b.map fk) {z : Ix} (hz : z ∈ b) : ∃ l x r, a = l ++ x :: r ∧ x.f = z.f ∧ x.tb = z.tb := by
  have h1 : fk z ∈ a.map fk := by rw [h]; exact List.mem_map.2 ⟨z, hz, rfl⟩
  obtain ⟨x, hx, e⟩ := List.mem_map.1 h1
  obtain ⟨l, r, rfl⟩ := List.append_of_mem hx
  exact ⟨l, x, r, rfl, congrArg Prod.fst e, congrArg Prod.snd e⟩
def Half (S S' : List UInt8 → List UInt8 → Prop) (fs : List (List UInt8)) (cur : List Ix) : Prop := ∀ x ∈ cur, TK x.d x.c (if x.f ∈ fs then S' x.f else S x.f)
theorem Half.step {S S' : List UInt8 → List UInt8 → Prop} {fs : List (List UInt8)} {l r : List Ix} {x : Ix} {d : Nat} {c : C} (h : Half S S' fs (l ++ x :: r)) (hn : ((l ++ x :: r).map (·.f)).Nodup) (hx : TK d c (S' x.f)) :
    Half S S' (fs ++ [x.f]) (l ++ { x with d := d, c := c } :: r) := by
  rw [List.map_append, List.map_cons, List.nodup_append] at hn
  obtain ⟨_, hr, hd⟩ := hn
  rw [List.nodup_cons] at hr
  intro y hy
  have hne : y ∈ l ∨ y ∈ r → y.f ≠ x.f ∧ y ∈ l ++ x :: r := by
    rintro (h1 | h1)
    · exact ⟨fun e => hd y.f (List.mem_map.2 ⟨y, h1, rfl⟩) x.f (by simp) e, by simp [h1]⟩
    · exact ⟨fun e => hr.1 (by rw [← e]; exact List.mem_map.2 ⟨y, h1, rfl⟩), by simp [h1]⟩
  have hold : y ∈ l ∨ y ∈ r → TK y.d y.c (if y.f ∈ fs ++ [x.f] then S' y.f else S y.f) := fun h1 => by
    obtain ⟨e, hm⟩ := hne h1
    have h2 := h y hm
    by_cases hf : y.f ∈ fs
    · rw [if_pos hf] at h2; rw [if_pos (by simp [hf])]; exact h2
    · rw [if_neg hf] at h2; rw [if_neg (by simp [hf, e])]; exact h2
  rcases List.mem_append.1 hy with h1 | h1
  · exact hold (.inl h1)
  · rcases List.mem_cons.1 h1 with rfl | h1
    · show TK d c (if x.f ∈ fs ++ [x.f] then _ else _)
      rw [if_pos (by simp)]; exact hx
    · exact hold (.inr h1)
theorem keys_drop {B : Frag} {T : Tb} (hT : TabOk B T) {g : Dc → List UInt8} (hg : ∀ a b, g a = g b → a.n = b.n) {d : Dc} (hd : d ∈ T.ds) (k : List UInt8) : (k ≠ g d ∧ ∃ x ∈ T.ds, k = g x) ↔ ∃ x ∈ dropD d.n T.ds, k = g x := by
  constructor
  · rintro ⟨h1, x, hx, rfl⟩
    refine ⟨x, dropD_mem.2 ⟨hx, fun e => h1 ?_⟩, rfl⟩
    rw [map_inj (·.n) hT.nd hx hd e]
  · rintro ⟨x, hx, rfl⟩
    obtain ⟨h1, h2⟩ := dropD_mem.1 hx
    exact ⟨fun e => h2 (hg _ _ e), x, h1, rfl⟩
set_option maxHeartbeats 1000000 in
theorem RNew_ct (B : Frag) : Ct Tryz.prog 11 [] B 1 (fun v B' H' => B' = B ∧ ∃ T, v = .pointer (some ⟨T.b, 0, none⟩) ∧ H' = tab T ∧ T.ds = [] ∧ T.xs = [] ∧ TabOk B' T) := by
 refine Ct.of_body Tryz.func11 rfl (nt := 6) rfl (by kernel_rfl) rfl ?_
 intro N0 w0 R
 rw [one_star]
 refine Cx.seq (fun K1 k1 => ?_)
 refine Cx.region <| Lx.y (asg rfl) rfl <| Lx.nil <| ?_
 refine Xx.tn (k1 _ _ _ _ ?_)
 refine Cx.seq (fun K2 k2 => ?_)
 refine Cx.region ?_
 refine Lx.o (mkG (BitVec 64)) rfl (fun v B' H' hΦ hB => ?_)
 obtain ⟨db, rfl, hBB, rfl⟩ := hΦ
 subst hBB
 rename Frag => B
 clear hB
 refine Lx.c rfl rfl rfl (New_ct _) ((one_star _).symm) rfl ?_
 rintro v B1 H1 ⟨hBB, ob, oc, rfl, rfl, ok0, e0⟩ hB1
 subst hBB
 rename Frag => B
 clear hB1
 refine Lx.o (mkG (List UInt8)) rfl (fun v B' H' hΦ hB => ?_)
 obtain ⟨xb, rfl, hBB, rfl⟩ := hΦ
 subst hBB
 rename Frag => B
 clear hB
 refine Lx.y (bld ti87 pl87 rfl rfl) rfl ?_
 refine Lx.new (boxA rfl) rfl (fun b5 => ?_)
 refine Lx.y (asg rfl) rfl <| Lx.nil <| ?_
 refine Xx.tn (k2 _ _ _ _ ?_)
 refine Cx.ret ?_
 exact Xx.ret1 rfl rfl ⟨rfl, ⟨b5, db, xb, ob, 0, oc, [], []⟩, rfl, rfl, rfl, rfl, ⟨fun d hd => (by cases hd), List.nodup_nil, tk_new ok0 e0 (fun k h => (by obtain ⟨_, h, _⟩ := h; cases h)), List.nodup_nil, fun x hx => (by cases hx)⟩⟩ (Frag.le_refl _) (by unfold tab tre; simp only [rowT, List.map_nil, ixs, star_one]; ac_rfl)
set_option maxHeartbeats 4000000 in
theorem RDrop_ct (T : Tb) (n : BitVec 64) (B : Frag) (hT : TabOk B T) (hM : MaxLenIn B) (hlen : T.ds.length ≤ 80) : Ct Tryz.prog 18 [.pointer (some ⟨T.b, 0, none⟩), u64 n] B (tab T) (fun r B' H' => B' = B ∧ ∃ T', r = .bool (decide (∃ d ∈ T.ds, d.n = n)) ∧ H' = tab T' ∧ TabOk B' T' ∧ T'.b = T.b ∧ T'.ds = dropD n T.ds ∧ T'.xs.map (·.f) = T.xs.map (·.f)) := by
 obtain ⟨hl8, hla⟩ := look_len (n := n) hT.docs
 obtain ⟨hlk1, hlk2⟩ := look_get n T.ds
 have hol := hT.ord.len
 have hg1 : ∀ a b : Dc, numL a.n = numL b.n → a.n = b.n := fun a b => numC_inj
 refine Ct.of_body Tryz.func18 rfl (nt := 52) rfl (by kernel_rfl) rfl ?_
 intro N0 w0 R
 unfold tab
 simp only [star_assoc]
 refine Cx.seq (fun K1 k1 => ?_)
 refine Cx.region <| Lx.y (asg rfl) rfl <| Lx.nil <| ?_
 refine Xx.tn (k1 _ _ _ _ ?_)
 refine Cx.seq (fun K2 k2 => ?_)
 refine Cx.seq (fun K3 k3 => ?_)
 refine Cx.region <| Lx.y (mv rfl) rfl <| Lx.y (Yx.ff (eqNilP U31 rfl rfl) rfl) rfl <| Lx.nil <| ?_
 refine Xx.tn (k3 _ _ _ _ ?_)
 refine Cx.condF rfl <| Cx.skip <| ?_
 refine Xx.tn (k2 _ _ _ _ ?_)
 refine Cx.seq (fun K4 k4 => ?_)
 refine Cx.region <| Lx.y (mv rfl) rfl <| Lx.y (nilc rfl) rfl <| Lx.y (fa' fo87_0 rfl) rfl <| Lx.y (ld U82 rfl rfl rfl) rfl <| Lx.y (mv rfl) rfl <| Lx.y (lkL2 (κ := BitVec 64) (k := n) MapL.own U82 U34 Tryz.zeroValue36 rfl rfl hlk1 hlk2) rfl <| Lx.y (mv rfl) rfl <| Lx.y (ext rfl rfl) rfl <| Lx.y (ext rfl rfl) rfl <| ?_
 refine Lx.new (allocO ti36) rfl (fun b5 => ?_)
 refine Lx.st (stA (d := .bool) (cs' := lookD n T.ds) sz36 rfl rfl hl8 hla (by rw [hl8]; show 0 + 8 ≤ 8; omega) (st_all rfl hl8)) ?_
 refine Lx.y (asg rfl) rfl <| Lx.nil <| ?_
 refine Xx.tn (k4 _ _ _ _ ?_)
 refine Cx.seq (fun K5 k5 => ?_)
 refine Cx.seq (fun K6 k6 => ?_)
 refine Cx.region <| Lx.y (mv rfl) rfl <| Lx.y (not' rfl) rfl <| Lx.nil <| ?_
 refine Xx.tn (k6 _ _ _ _ ?_)
 refine Cx.condB rfl (fun h7 => ?_) (fun h7 => ?_)
 ·
  have hno : decide (∃ d ∈ T.ds, d.n = n) = false := by simpa using h7
  refine Cx.seq (fun K8 k8 => ?_)
  refine Cx.region <| Lx.y (asg rfl) rfl <| Lx.nil <| ?_
  refine Xx.tn (k8 _ _ _ _ ?_)
  refine Cx.ret <| Xx.tr <| ?_
  refine Xx.dropB b5 ?_
  exact Xx.ret1 rfl rfl ⟨rfl, T, by rw [hno], rfl, hT, rfl, (dropD_none fun d hd e => (of_decide_eq_false hno) ⟨d, hd, e⟩).symm, rfl⟩ (Frag.le_refl _) (by ac_rfl)
 ·
  have hyes : decide (∃ d ∈ T.ds, d.n = n) = true := by simpa using h7
  obtain ⟨dc, hdc, hdn, hlc⟩ := look_some (of_decide_eq_true hyes)
  obtain ⟨Ap, cp, An, cn, hsh⟩ := cells_shape (hT.docs dc hdc)
  have hval : ValR B 4 dc.v (vcs dc.v Ap cp An cn) := by
   have h9 := (hT.docs dc hdc).1
   have e9 : dc.cs = vcs dc.v Ap cp An cn := by unfold Dc.cells at hsh; injection hsh with _ h8; injection h8
   rw [e9] at h9; exact h9
  obtain ⟨_, hchk, hbyt⟩ := hT.docs dc hdc
  refine Cx.skip ?_
  refine Xx.tn (k5 _ _ _ _ ?_)
  refine Cx.seq (fun K9 k9 => ?_)
  refine Cx.region <| Lx.y (mv rfl) rfl <| Lx.y (nilc rfl) rfl <| Lx.y (fa' fo87_0 rfl) rfl <| Lx.y (ld U82 rfl rfl rfl) rfl <| Lx.y (mv rfl) rfl <| ?_
  refine Lx.o0 (delG (κ := BitVec 64) (k := n) U82 U34 rfl rfl) (fun v B' H' hΦ hB => ?_)
  obtain ⟨rfl, hBB, rfl⟩ := hΦ
  have hBB2 := hBB.symm
  subst hBB2
  clear hB
  rw [gdel_filter dkv_k hT.nd]
  refine Lx.nil ?_
  refine Xx.tn (k9 _ _ _ _ ?_)
  refine Cx.seq (fun K10 k10 => ?_)
  refine Cx.drawn (by kernel_rfl) ?_
  refine Dx.p (i := 0) rfl (by kernel_rfl) (mv rfl) rfl ?_
  refine Dx.p (i := 1) rfl (by kernel_rfl) (nilc rfl) rfl ?_
  refine Dx.p (i := 2) rfl (by kernel_rfl) (fa' fo87_1 rfl) rfl ?_
  refine Dx.r (i := 3) rfl (by kernel_rfl) (ld U83 rfl rfl rfl) rfl ?_
  refine Dx.p (i := 4) rfl (by kernel_rfl) (mv rfl) rfl ?_
  refine Dx.one (i := 5) (by kernel_rfl) ?_
  refine Dstep.o (i := 5) rfl (Ox.cb rfl rfl rfl (Number_ct n _)) rfl (fun v B' H' hΦ hB => ?_)
  obtain ⟨rfl, rfl, hBB⟩ := hΦ; have hBB2 := hBB.symm; subst hBB2; clear hB
  refine ⟨JOk.yes (JOk.top) (ld U83 rfl rfl rfl), ?_⟩
  refine Dx.one (i := 6) (by kernel_rfl) ?_
  refine Dstep.o (i := 6) rfl (Ox.call rfl rfl rfl (DropT_ct T.od T.oc T.ob (numL n) _ hT.ord (by omega)) (Pick.eq)) rfl (fun v B' H' hΦ hB => ?_)
  obtain ⟨_, rfl, hΦ⟩ := hΦ
  obtain ⟨hBB, od2, oc2, t2, rfl, rfl, hord2⟩ := hΦ
  have hBB2 := hBB.symm
  subst hBB2
  clear hB
  refine ⟨JOk.edge (JOk.top) (by kernel_rfl), ?_⟩
  refine Dx.done (by kernel_rfl) ?_
  refine Xx.tn (k10 _ _ _ _ ?_)
  refine Cx.seq (fun K11 k11 => ?_)
  refine Cx.seq (fun K12 k12 => ?_)
  refine Cx.region <| Lx.y (mv rfl) rfl <| Lx.y (nilc rfl) rfl <| Lx.y (fa' fo87_2 rfl) rfl <| Lx.y (ld U85 rfl rfl rfl) rfl <| ?_
  refine Xx.openGF (κ := List UInt8) (kv := ikv) T.xb fun Z c9 hs hZ => ?_
  refine Lx.o (rgG (κ := List UInt8) U85 rfl) rfl (fun v B' H' hΦ hB => ?_)
  obtain ⟨it, rfl, hBB, rfl⟩ := hΦ
  have hBB2 := hBB.symm
  subst hBB2
  clear hB
  refine Lx.nil ?_
  refine Xx.tn (k12 _ _ _ _ ?_)
  refine Cx.block ?_
  refine Cx.loopK (Sc 0 rfl (Sc 1 rfl (Sc 4 rfl (Sc 5 rfl (Sc 6 rfl (Sc 9 rfl (Sc 10 rfl (Sc 11 rfl (Sc 12 rfl (Sc 13 rfl (Sc 14 rfl (Sc 15 rfl (Sc 16 rfl (Sc 17 rfl (Sc 18 rfl (Sc 19 rfl (Sc 20 rfl (Sc 21 rfl (Sc 22 rfl (Sc 23 rfl (Sc 24 rfl (Sc 25 rfl (Sc 26 rfl (Sc 27 rfl (Sc 28 rfl (Sc 29 rfl (Sc 30 rfl (Sc 31 rfl (Sc 32 rfl (Sc 34 rfl (Sc 35 rfl (Sc 36 rfl (Sc 37 rfl (Sc 38 rfl (Sub.nil _))))))))))))))))))))))))))))))))))) (fun m ρ' B' H' => ∃ (dz : List (Ix × Nat)) (cur : List Ix), (GVisF Z dz ∧ cur.map fk = T.xs.map fk ∧ Half (fun f k => ∃ x ∈ T.ds, k = keyD f x) (fun f k => ∃ x ∈ dropD n T.ds, k = keyD f x) (dz.map (·.1.f)) cur) ∧ m = Z.length - dz.length ∧ ρ' = [] ∧ B = B' ∧ blk it (gitObj T.xb c9 (dz.map (gz ikv))) * (blk T.xb (gObj (Z.map (gz ikv)) c9) * (ixs cur * (tre T.ob od2 oc2 * (gmap T.db ((dropD n T.ds).map dkv) * (row b5 36 (lookD n T.ds) * (rowT T * R)))))) = H') ⟨[], T.xs, ⟨GVisF.nil Z, rfl, fun x hx => by show TK x.d x.c (if x.f ∈ [] then _ else _); rw [if_neg List.not_mem_nil]; exact hT.idx x hx⟩, rfl, rfl, rfl, by ac_rfl⟩ (Sc 0 rfl (Sc 1 rfl (Sc 4 rfl (Sc 5 rfl (Sc 6 rfl (Sc 9 rfl (Sc 10 rfl (Sc 11 rfl (Sc 12 rfl (Sc 13 rfl (Sc 14 rfl (Sc 15 rfl (Sc 16 rfl (Sc 17 rfl (Sc 18 rfl (Sc 19 rfl (Sc 20 rfl (Sc 21 rfl (Sc 22 rfl (Sc 23 rfl (Sc 24 rfl (Sc 25 rfl (Sc 26 rfl (Sc 27 rfl (Sc 28 rfl (Sc 29 rfl (Sc 30 rfl (Sc 31 rfl (Sc 32 rfl (Sc 34 rfl (Sc 35 rfl (Sc 36 rfl (Sc 37 rfl (Sc 38 rfl (Sub.nil _))))))))))))))))))))))))))))))))))) ?_
  rintro m ρ' B' H' ⟨dz, cur, ⟨hv, hfk, hhalf⟩, rfl, rfl, rfl, rfl⟩
  refine Cx.seq (fun K13 k13 => ?_)
  refine Cx.region ?_
  refine Lx.o (nxGF hs hv rfl) rfl (fun v B' H' hΦ hB => ?_)
  obtain ⟨o, dz2, rfl, ha, hBB, rfl⟩ := hΦ
  have hBB2 := hBB.symm
  subst hBB2
  clear hB
  refine Lx.y (ext rfl (gnx0 _)) rfl <| Lx.nil <| ?_
  refine Xx.tn (k13 _ _ _ _ ?_)
  refine Cx.seq (fun K14 k14 => ?_)
  refine Cx.condB rfl (fun h15 => ?_) (fun h15 => ?_)
  ·
   obtain ⟨z, rfl⟩ : ∃ z, o = some z := by
    cases o with
    | none => exact absurd h15 (by simp)
    | some z => exact ⟨z, rfl⟩
   obtain ⟨rfl, hzZ, hzn⟩ := ha
   have hv2 := hv.step hzZ hzn
   have hvl := hv2.len
   rw [List.length_append, List.length_singleton] at hvl
   have hzx : z.1 ∈ T.xs := by rw [← hZ]; exact List.mem_map.2 ⟨z, hzZ, rfl⟩
   obtain ⟨l, x, r, rfl, hxf, hxt⟩ := fk_find hfk hzx
   obtain ⟨xf, xt, xd, xc⟩ := x
   obtain rfl : xf = z.1.f := hxf
   obtain rfl : xt = z.1.tb := hxt
   rw [ixs_mid]
   simp only [star_assoc]
   have hnf : ((l ++ (⟨z.1.f, z.1.tb, xd, xc⟩ : Ix) :: r).map (·.f)).Nodup := by rw [fk_f hfk]; exact hT.nf
   have hxd : z.1.f ∉ dz.map (·.1.f) := by
    intro hm
    obtain ⟨z2, hz2, e2⟩ := List.mem_map.1 hm
    have hZf : (Z.map (fun z : Ix × Nat => z.1.f)).Nodup := by have := hT.nf; rw [← hZ, List.map_map] at this; exact this
    have e3 := map_inj (fun z : Ix × Nat => z.1.f) hZf (hv.1 _ hz2) hzZ e2
    exact hzn (List.mem_map.2 ⟨z2, hz2, by rw [e3]⟩)
   have htk : TK xd xc (fun k => ∃ d ∈ T.ds, k = keyD z.1.f d) := by
    have h9 := hhalf ⟨z.1.f, z.1.tb, xd, xc⟩ (by simp)
    simp only at h9
    rw [if_neg hxd] at h9; exact h9
   have hlx := htk.len
   refine Cx.skip ?_
   refine Xx.tn (k14 _ _ _ _ ?_)
   refine Cx.block ?_
   refine Cx.seq (fun K16 k16 => ?_)
   refine Cx.region <| Lx.y (entGF hs hzZ rfl) rfl <| Lx.y (ext rfl rfl) rfl <| Lx.y (ext rfl rfl) rfl <| Lx.y (asg rfl) rfl <| Lx.y (asg rfl) rfl <| Lx.nil <| ?_
   refine Xx.tn (k16 _ _ _ _ ?_)
   refine Cx.region <| Lx.y (mv rfl) rfl <| Lx.y (fa' fo36_2 rfl) rfl <| Lx.y (ldA U25 rfl sz25 rfl (Cells.own (n := 6) PickB.eq (show ((lookD n T.ds).drop 2).take 6 = vcs dc.v Ap cp An cn by rw [hlc, hsh]; rfl)) rfl) rfl <| Lx.y (mv rfl) rfl <| ?_
   refine Lx.cb rfl rfl rfl (Get_ct 2 dc.v z.1.f 1 _ _ hval hchk) rfl ?_
   rintro r4 B9 ⟨hBB, cs9, rfl, hg9⟩ hB9
   have hBB2 := hBB.symm
   subst hBB2
   clear hB9
   refine Lx.y (mv rfl) rfl ?_
   refine Lx.cp rfl rfl rfl (Pair_ct 3 (getV dc.v z.1.f) n _ _ hg9 hM (by have h9 : (bytesF 3 (getV dc.v z.1.f)).length ≤ (bytesF 4 dc.v).length + 1 := getV_bytes (d := 2) z.1.f hchk; omega)) rfl ?_
   refine Lx.c rfl rfl rfl (DropT_ct xd xc z.1.tb (keyF 3 (getV dc.v z.1.f) ++ numL n) _ htk (by omega)) (Pick.eq) rfl ?_
   rintro r6 B9 H9 ⟨hBB, d3, c3, t3, rfl, rfl, ht3⟩ hB9
   have hBB2 := hBB.symm
   subst hBB2
   clear hB9
   have hkd : keyF 3 (getV dc.v z.1.f) ++ numL n = keyD z.1.f dc := by unfold keyD; rw [hdn]
   rw [hkd] at ht3
   have htk3 : TK d3 c3 (fun k => ∃ d ∈ dropD n T.ds, k = keyD z.1.f d) := ht3.congr (fun k => by rw [← hdn]; exact keys_drop hT (fun a b => keyD_n) hdc k)
   have hhalf2 := hhalf.step hnf htk3
   have hfk2 : (l ++ (⟨z.1.f, z.1.tb, d3, c3⟩ : Ix) :: r).map fk = T.xs.map fk := by rw [← hfk]; simp [fk]
   refine Lx.nil <| Xx.bn <| ?_
   exact Xx.againK ⟨dz ++ [z], l ++ (⟨z.1.f, z.1.tb, d3, c3⟩ : Ix) :: r, ⟨hv2, hfk2, by rw [List.map_append]; exact hhalf2⟩, rfl, rfl, rfl, (by rw [ixs_mid]; ac_rfl)⟩ (by rw [List.length_append, List.length_singleton]; omega) (Sc 0 rfl (Sc 1 rfl (Sc 4 rfl (Sc 5 rfl (Sc 6 rfl (Sc 9 rfl (Sc 10 rfl (Sc 11 rfl (Sc 12 rfl (Sc 13 rfl (Sc 14 rfl (Sc 15 rfl (Sc 16 rfl (Sc 17 rfl (Sc 18 rfl (Sc 19 rfl (Sc 20 rfl (Sc 21 rfl (Sc 22 rfl (Sc 23 rfl (Sc 24 rfl (Sc 25 rfl (Sc 26 rfl (Sc 27 rfl (Sc 28 rfl (Sc 29 rfl (Sc 30 rfl (Sc 31 rfl (Sc 32 rfl (Sc 34 rfl (Sc 35 rfl (Sc 36 rfl (Sc 37 rfl (Sc 38 rfl (Sub.nil _)))))))))))))))))))))))))))))))))))
  ·
   obtain rfl : o = none := by
    cases o with
    | none => rfl
    | some z => exact absurd h15 (by simp)
   obtain ⟨rfl, hall⟩ := ha
   have hp := hv.all hs hall
   rw [hZ] at hp
   refine Cx.exit <| Xx.te <| Xx.te <| Xx.bh <| ?_
   refine Xx.tn (k11 _ _ _ _ ?_)
   refine Cx.seq (fun K18 k18 => ?_)
   refine Cx.region <| Lx.y (asg rfl) rfl <| Lx.nil <| ?_
   refine Xx.tn (k18 _ _ _ _ ?_)
   refine Cx.ret ?_
   refine Xx.dropB it (Xx.closeGF (κ := List UInt8) T.xb hs hZ (Xx.dropB b5 ?_))
   have hfin : ∀ y ∈ cur, TK y.d y.c (fun k => ∃ d ∈ dropD n T.ds, k = keyD y.f d) := fun y hy => by
    have h9 := hhalf y hy
    rw [if_pos] at h9
    ·exact h9
    ·have h8 : y.f ∈ T.xs.map (·.f) := by rw [← fk_f hfk]; exact List.mem_map.2 ⟨y, hy, rfl⟩
     have h7 := (hp.map (·.f)).mem_iff.2 h8
     rw [List.map_map] at h7; exact h7
   exact Xx.ret1 rfl rfl ⟨rfl, ⟨T.b, T.db, T.xb, T.ob, od2, oc2, dropD n T.ds, cur⟩, by rw [hyes], rfl, ⟨fun d hd => hT.docs d (dropD_mem.1 hd).1, dropD_nd hT.nd, hord2.congr (fun k => by rw [← hdn]; exact keys_drop hT hg1 hdc k), by rw [fk_f hfk]; exact hT.nf, hfin⟩, rfl, rfl, fk_f hfk⟩ (Frag.le_refl _) (by rw [← fk_ikv hfk]; ac_rfl)
end RwC
end Go.Proofs.YtdidpocakipinaaGreatDoor
namespace Go.Proofs.YtdidpocakipinaaGreatDoor
open Go.SL Go.RowKit
set_option maxRecDepth 100000
open Ke1 Ke3 Ke4 Ke5 Ke6 Ke7 Ke8 Ke9 KeA KeB KeC KeD KeE KeF KeG KeI RgA RgB BtB BtC BtD BtE BtG BtX BtH BtI BtF BtJ BtK BtL BtM BtN BtO BtR BtY BtZ DrA DrB DrC DrD DrE DrF RwA RwB RwC
namespace RwD
theorem sz25 : (Tryz.prog.info? 25).map (·.size) = some 6 := by kernel_rfl
theorem sz36 : (Tryz.prog.info? 36).map (·.size) = some 8 := by kernel_rfl
theorem fo36_0 : FO Tryz.prog 36 0 0 1 false := FO.of U36 rfl rfl (by kernel_rfl) U34 rfl rfl
theorem fo36_2 : FO Tryz.prog 36 2 2 6 true := FO.of U36 rfl rfl (by kernel_rfl) U25 rfl rfl
theorem fo87_0 : FO Tryz.prog 87 0 0 1 false := FO.of U87 rfl rfl (by kernel_rfl) U82 rfl rfl
theorem fo87_1 : FO Tryz.prog 87 1 1 1 false := FO.of U87 rfl rfl (by kernel_rfl) U83 rfl rfl
theorem fo87_2 : FO Tryz.prog 87 2 2 1 false := FO.of U87 rfl rfl (by kernel_rfl) U85 rfl rfl
theorem Half.one {S S' : List UInt8 → List UInt8 → Prop} {fs : List (List UInt8)} {T : Tb} {B : Frag} (hT : TabOk B T) {Z dz : List (Ix × Nat)} {z : Ix × Nat} (hZ : Z.map (·.1) = T.xs) (hv : GVisF Z dz) (hzZ : z ∈ Z) (hzn : ¬ z.2 ∈ dz.map (fun z => z.2)) : z.1.f ∉ dz.map (·.1.f) := by
  intro hm
  obtain ⟨z2, hz2, e2⟩ := List.mem_map.1 hm
  have hZf : (Z.map (fun z : Ix × Nat => z.1.f)).Nodup := by have := hT.nf; rw [← hZ, List.map_map] at this; exact this
  have e3 := map_inj (fun z : Ix × Nat => z.1.f) hZf (hv.1 _ hz2) hzZ e2
  exact hzn (List.mem_map.2 ⟨z2, hz2, by rw [e3]⟩)
theorem half_fin {S S' : List UInt8 → List UInt8 → Prop} {cur xs : List Ix} {dz : List (Ix × Nat)} (hfk : cur.map fk = xs.map fk) (h : Half S S' (dz.map (·.1.f)) cur) (hp : (dz.map (·.1)).Perm xs) : ∀ y ∈ cur, TK y.d y.c (S' y.f) := fun y hy => by
  have h9 := h y hy
  rw [if_pos] at h9
  · exact h9
  · have h8 : y.f ∈ xs.map (·.f) := by rw [← fk_f hfk]; exact List.mem_map.2 ⟨y, hy, rfl⟩
    have h7 := (hp.map (·.f)).mem_iff.2 h8
    rw [List.map_map] at h7; exact h7
def Dc.abs (d : Dc) : BitVec 64 × BitVec 64 × V := (d.n, d.ver, d.v)
set_option maxHeartbeats 4000000 in
theorem RPut_ct (T : Tb) (n ver : BitVec 64) (vv : V) (cs : List Value) (B : Frag) (hT : TabOk B T) (hM : MaxLenIn B) (hlen : T.ds.length ≤ 60) (hval : ValR B 4 vv cs) (hchk : checkF 4 vv 1 = 0) (hbyt : (bytesF 4 vv).length ≤ 1024) : Ct Tryz.prog 12 [.pointer (some ⟨T.b, 0, none⟩), .agg (u64 n :: u64 ver :: cs).toArray] B (tab T) (fun r B' H' => r = .tuple #[] ∧ ∃ T', H' = tab T' ∧ TabOk B' T' ∧ T'.b = T.b ∧ T'.ds.map Dc.abs = (dropD n T.ds).map Dc.abs ++ [(n, ver, vv)] ∧ T'.xs.map (·.f) = T.xs.map (·.f)) := by
 obtain ⟨Ap, cp, An, cn, rfl⟩ := ValR.shape hval
 refine Ct.of_body Tryz.func12 rfl (nt := 50) rfl (by kernel_rfl) rfl ?_
 intro N0 w0 R
 refine Cx.seq (fun K1 k1 => ?_)
 refine Cx.region ?_
 refine Lx.new (boxA rfl) rfl (fun b3 => ?_)
 refine Lx.nil ?_
 refine Xx.tn (k1 _ _ _ _ ?_)
 refine Cx.seq (fun K2 k2 => ?_)
 refine Cx.seq (fun K3 k3 => ?_)
 refine Cx.region <| Lx.y (mv rfl) rfl <| Lx.y (Yx.ff (eqNilP U31 rfl rfl) rfl) rfl <| Lx.nil <| ?_
 refine Xx.tn (k3 _ _ _ _ ?_)
 refine Cx.condF rfl <| Cx.skip <| ?_
 refine Xx.tn (k2 _ _ _ _ ?_)
 refine Cx.seq (fun K4 k4 => ?_)
 refine Cx.region <| Lx.y (mv rfl) rfl <| Lx.y (fa' fo36_0 rfl) rfl <| Lx.y (ld U34 rfl rfl rfl) rfl <| ?_
 refine Lx.c rfl rfl rfl (RDrop_ct T n _ hT hM (by omega)) (Pick.eq) rfl ?_
 rintro r1 B4 H4 ⟨hBB, T1, rfl, rfl, hT1, hb1, hds1, hxf1⟩ hB4
 have hBB2 := hBB.symm
 subst hBB2
 clear hB4
 rw [← hb1]
 refine Lx.nil ?_
 refine Xx.tn (k4 _ _ _ _ ?_)
 refine Cx.seq (fun K5 k5 => ?_)
 refine Cx.region <| Lx.y (fa' fo36_2 rfl) rfl <| Lx.y (ldA U25 rfl sz25 rfl (Cells.own (n := 6) PickB.eq (show ((u64 n :: u64 ver :: vcs vv Ap cp An cn).drop 2).take 6 = vcs vv Ap cp An cn from rfl)) rfl) rfl <| ?_
 refine Lx.cb rfl rfl rfl (Clone_ct 4 vv _ 1 _ hval hchk) rfl ?_
 rintro r2 B5 ⟨cs2, rfl, hval2⟩ hB5
 obtain ⟨Ap2, cp2, An2, cn2, rfl⟩ := ValR.shape hval2
 refine Lx.y (fa' fo36_2 rfl) rfl ?_
 refine Lx.st (stA (d := .bool) (cs' := u64 n :: u64 ver :: vcs vv Ap2 cp2 An2 cn2) sz25 rfl rfl rfl rfl (by show 2 + 6 ≤ 8; omega) rfl) ?_
 refine Lx.nil ?_
 refine Xx.tn (k5 _ _ _ _ ?_)
 refine Cx.seq (fun K7 k7 => ?_)
 unfold tab
 simp only [star_assoc]
 have hT5 := hT1.mono hB5
 have hol := hT1.ord.len
 generalize hds9 : T1.ds = ds1 at *
 have hdl : ds1.length ≤ T.ds.length := by rw [hds1]; exact dropD_len
 obtain ⟨dn, hdn⟩ : ∃ dn : Dc, dn = ⟨n, ver, vv, vcs vv Ap2 cp2 An2 cn2⟩ := ⟨_, rfl⟩
 have hnew : ∀ y ∈ ds1, y.n ≠ dn.n := fun y hy => by rw [hds1] at hy; rw [hdn]; exact (dropD_mem.1 hy).2
 refine Cx.drawn (by kernel_rfl) ?_
 refine Dx.p (i := 0) rfl (by kernel_rfl) (mv rfl) rfl ?_
 refine Dx.p (i := 1) rfl (by kernel_rfl) (nilc rfl) rfl ?_
 refine Dx.p (i := 2) rfl (by kernel_rfl) (fa' fo87_0 rfl) rfl ?_
 refine Dx.r (i := 3) rfl (by kernel_rfl) (ld U82 rfl rfl rfl) rfl ?_
 refine Dx.p (i := 4) rfl (by kernel_rfl) (fa' fo36_0 rfl) rfl ?_
 refine Dx.r (i := 5) rfl (by kernel_rfl) (ld U34 rfl rfl rfl) rfl ?_
 refine Dx.r (i := 6) rfl (by kernel_rfl) (ldA U36 rfl sz36 rfl (Cells.own (n := 8) PickB.eq (show ((u64 n :: u64 ver :: vcs vv Ap2 cp2 An2 cn2).drop 0).take 8 = dn.cells from by rw [hdn]; rfl)) (by rw [hdn]; rfl)) rfl ?_
 refine Dx.one (i := 7) (by kernel_rfl) ?_
 refine Dstep.o0 (i := 7) rfl (stG (κ := BitVec 64) (k := n) (v := .agg dn.cells.toArray) U82 U34 rfl rfl rfl) (fun v B' H' hΦ hB => ?_)
 obtain ⟨hBB, rfl⟩ := hΦ
 have hBB2 := hBB.symm
 subst hBB2
 clear hB
 rw [show gset n (Value.agg dn.cells.toArray) (ds1.map dkv) = (ds1 ++ [dn]).map dkv from by have h9 := gset_new (kv := dkv) dkv_k hnew; rw [← h9, hdn]; rfl]
 refine ⟨JOk.edge (JOk.edge (JOk.edge (JOk.top) (by kernel_rfl)) (by kernel_rfl)) (by kernel_rfl), ?_⟩
 refine Dx.done (by kernel_rfl) ?_
 refine Xx.tn (k7 _ _ _ _ ?_)
 refine Cx.seq (fun K8 k8 => ?_)
 refine Cx.drawn (by kernel_rfl) ?_
 refine Dx.p (i := 0) rfl (by kernel_rfl) (mv rfl) rfl ?_
 refine Dx.p (i := 1) rfl (by kernel_rfl) (nilc rfl) rfl ?_
 refine Dx.p (i := 2) rfl (by kernel_rfl) (fa' fo87_1 rfl) rfl ?_
 refine Dx.r (i := 3) rfl (by kernel_rfl) (ld U83 rfl rfl rfl) rfl ?_
 refine Dx.p (i := 4) rfl (by kernel_rfl) (fa' fo36_0 rfl) rfl ?_
 refine Dx.r (i := 5) rfl (by kernel_rfl) (ld U34 rfl rfl rfl) rfl ?_
 refine Dx.one (i := 6) (by kernel_rfl) ?_
 refine Dstep.o (i := 6) rfl (Ox.cb rfl rfl rfl (Number_ct n _)) rfl (fun v B' H' hΦ hB => ?_)
 obtain ⟨rfl, rfl, hBB⟩ := hΦ; have hBB2 := hBB.symm; subst hBB2; clear hB
 refine ⟨JOk.edge (JOk.yes (JOk.top) (ld U83 rfl rfl rfl)) (by kernel_rfl), ?_⟩
 refine Dx.one (i := 7) (by kernel_rfl) ?_
 refine Dstep.o (i := 7) rfl (Ox.call rfl rfl rfl (PutT_ct T1.od T1.oc T1.ob (numL n) _ hT1.ord (by omega)) (Pick.eq)) rfl (fun v B' H' hΦ hB => ?_)
 obtain ⟨_, rfl, hΦ⟩ := hΦ
 obtain ⟨hBB, od2, oc2, t2, rfl, rfl, hord2⟩ := hΦ
 have hBB2 := hBB.symm
 subst hBB2
 clear hB
 rw [hds9] at hord2
 refine ⟨JOk.yes (JOk.edge (JOk.top) (by kernel_rfl)) (ld U34 rfl rfl rfl), ?_⟩
 refine Dx.done (by kernel_rfl) ?_
 refine Xx.tn (k8 _ _ _ _ ?_)
 refine Cx.seq (fun K9 k9 => ?_)
 refine Cx.region <| Lx.y (mv rfl) rfl <| Lx.y (nilc rfl) rfl <| Lx.y (fa' fo87_2 rfl) rfl <| Lx.y (ld U85 rfl rfl rfl) rfl <| ?_
 refine Xx.openGF (κ := List UInt8) (kv := ikv) T1.xb fun Z c9 hs hZ => ?_
 refine Lx.o (rgG (κ := List UInt8) U85 rfl) rfl (fun v B' H' hΦ hB => ?_)
 obtain ⟨it, rfl, hBB, rfl⟩ := hΦ
 have hBB2 := hBB.symm
 subst hBB2
 clear hB
 refine Lx.nil ?_
 refine Xx.tn (k9 _ _ _ _ ?_)
 refine Cx.block ?_
 refine Cx.loopK (Sc 0 rfl (Sc 1 rfl (Sc 3 rfl (Sc 6 rfl (Sc 7 rfl (Sc 8 rfl (Sc 9 rfl (Sc 10 rfl (Sc 12 rfl (Sc 13 rfl (Sc 14 rfl (Sc 15 rfl (Sc 16 rfl (Sc 17 rfl (Sc 18 rfl (Sc 19 rfl (Sc 20 rfl (Sc 21 rfl (Sc 22 rfl (Sc 23 rfl (Sc 24 rfl (Sc 25 rfl (Sc 26 rfl (Sc 27 rfl (Sc 28 rfl (Sc 29 rfl (Sc 31 rfl (Sc 32 rfl (Sc 33 rfl (Sc 34 rfl (Sc 35 rfl (Sub.nil _)))))))))))))))))))))))))))))))) (fun m ρ' B' H' => ∃ (dz : List (Ix × Nat)) (cur : List Ix), (GVisF Z dz ∧ cur.map fk = T1.xs.map fk ∧ Half (fun f k => ∃ x ∈ ds1, k = keyD f x) (fun f k => k = keyD f dn ∨ ∃ x ∈ ds1, k = keyD f x) (dz.map (·.1.f)) cur) ∧ m = Z.length - dz.length ∧ ρ' = [] ∧ B5 = B' ∧ blk it (gitObj T1.xb c9 (dz.map (gz ikv))) * (blk T1.xb (gObj (Z.map (gz ikv)) c9) * (ixs cur * (tre T1.ob od2 oc2 * (gmap T1.db ((ds1 ++ [dn]).map dkv) * (row b3 36 (u64 n :: u64 ver :: vcs vv Ap2 cp2 An2 cn2) * (rowT T1 * R)))))) = H') ⟨[], T1.xs, ⟨GVisF.nil Z, rfl, fun x hx => by show TK x.d x.c (if x.f ∈ [] then _ else _); rw [if_neg List.not_mem_nil, ← hds9]; exact hT1.idx x hx⟩, rfl, rfl, rfl, by ac_rfl⟩ (Sc 0 rfl (Sc 1 rfl (Sc 3 rfl (Sc 6 rfl (Sc 7 rfl (Sc 8 rfl (Sc 9 rfl (Sc 10 rfl (Sc 12 rfl (Sc 13 rfl (Sc 14 rfl (Sc 15 rfl (Sc 16 rfl (Sc 17 rfl (Sc 18 rfl (Sc 19 rfl (Sc 20 rfl (Sc 21 rfl (Sc 22 rfl (Sc 23 rfl (Sc 24 rfl (Sc 25 rfl (Sc 26 rfl (Sc 27 rfl (Sc 28 rfl (Sc 29 rfl (Sc 31 rfl (Sc 32 rfl (Sc 33 rfl (Sc 34 rfl (Sc 35 rfl (Sub.nil _)))))))))))))))))))))))))))))))) ?_
 rintro m ρ' B' H' ⟨dz, cur, ⟨hv, hfk, hhalf⟩, rfl, rfl, rfl, rfl⟩
 refine Cx.seq (fun K10 k10 => ?_)
 refine Cx.region ?_
 refine Lx.o (nxGF hs hv rfl) rfl (fun v B' H' hΦ hB => ?_)
 obtain ⟨o, dz2, rfl, ha, hBB, rfl⟩ := hΦ
 have hBB2 := hBB.symm
 subst hBB2
 clear hB
 refine Lx.y (ext rfl (gnx0 _)) rfl <| Lx.nil <| ?_
 refine Xx.tn (k10 _ _ _ _ ?_)
 refine Cx.seq (fun K11 k11 => ?_)
 refine Cx.condB rfl (fun h12 => ?_) (fun h12 => ?_)
 ·
  obtain ⟨z, rfl⟩ : ∃ z, o = some z := by
   cases o with
   | none => exact absurd h12 (by simp)
   | some z => exact ⟨z, rfl⟩
  obtain ⟨rfl, hzZ, hzn⟩ := ha
  have hv2 := hv.step hzZ hzn
  have hvl := hv2.len
  rw [List.length_append, List.length_singleton] at hvl
  have hzx : z.1 ∈ T1.xs := by rw [← hZ]; exact List.mem_map.2 ⟨z, hzZ, rfl⟩
  obtain ⟨l, x, r, rfl, hxf, hxt⟩ := fk_find hfk hzx
  obtain ⟨xf, xt, xd, xc⟩ := x
  obtain rfl : xf = z.1.f := hxf
  obtain rfl : xt = z.1.tb := hxt
  rw [ixs_mid]
  simp only [star_assoc]
  have hnf : ((l ++ (⟨z.1.f, z.1.tb, xd, xc⟩ : Ix) :: r).map (·.f)).Nodup := by rw [fk_f hfk]; exact hT1.nf
  have hxd := Half.one (S := fun _ _ => True) (S' := fun _ _ => True) (fs := []) hT1 hZ hv hzZ hzn
  have htk : TK xd xc (fun k => ∃ d ∈ ds1, k = keyD z.1.f d) := by
   have h9 := hhalf ⟨z.1.f, z.1.tb, xd, xc⟩ (by simp)
   simp only at h9
   rw [if_neg hxd] at h9; exact h9
  have hlx := htk.len
  refine Cx.skip ?_
  refine Xx.tn (k11 _ _ _ _ ?_)
  refine Cx.block ?_
  refine Cx.seq (fun K13 k13 => ?_)
  refine Cx.region <| Lx.y (entGF hs hzZ rfl) rfl <| Lx.y (ext rfl rfl) rfl <| Lx.y (ext rfl rfl) rfl <| Lx.y (asg rfl) rfl <| Lx.y (asg rfl) rfl <| Lx.nil <| ?_
  refine Xx.tn (k13 _ _ _ _ ?_)
  refine Cx.drawn (by kernel_rfl) ?_
  refine Dx.p (i := 0) rfl (by kernel_rfl) (mv rfl) rfl ?_
  refine Dx.p (i := 1) rfl (by kernel_rfl) (fa' fo36_2 rfl) rfl ?_
  refine Dx.r (i := 2) rfl (by kernel_rfl) (ldA U25 rfl sz25 rfl (Cells.own (n := 6) PickB.eq (show ((u64 n :: u64 ver :: vcs vv Ap2 cp2 An2 cn2).drop 2).take 6 = vcs vv Ap2 cp2 An2 cn2 from rfl)) rfl) rfl ?_
  refine Dx.p (i := 3) rfl (by kernel_rfl) (mv rfl) rfl ?_
  refine Dx.p (i := 5) rfl (by kernel_rfl) (fa' fo36_0 rfl) rfl ?_
  refine Dx.r (i := 6) rfl (by kernel_rfl) (ld U34 rfl rfl rfl) rfl ?_
  refine Dx.one (i := 4) (by kernel_rfl) ?_
  refine Dstep.o (i := 4) rfl (Ox.cb rfl rfl rfl (RgA.Get_ct 2 vv z.1.f 1 _ _ hval2 hchk)) rfl (fun v B' H' hΦ hB => ?_)
  obtain ⟨rfl, hΦ⟩ := hΦ
  obtain ⟨hBB, cs9, rfl, hg9⟩ := hΦ
  have hBB2 := hBB.symm
  subst hBB2
  clear hB
  refine ⟨JOk.yes (JOk.edge (JOk.top) (by kernel_rfl)) (ld U34 rfl rfl rfl), ?_⟩
  refine Dx.one (i := 7) (by kernel_rfl) ?_
  refine Dstep.o (i := 7) rfl (Ox.cb rfl rfl rfl (Pair_ct 3 (getV vv z.1.f) n _ _ hg9 (hM.mono hB5) (by have h9 : (bytesF 3 (getV vv z.1.f)).length ≤ (bytesF 4 vv).length + 1 := getV_bytes (d := 2) z.1.f hchk; omega))) rfl (fun v B' H' hΦ hB => ?_)
  obtain ⟨rfl, rfl, hBB⟩ := hΦ; have hBB2 := hBB.symm; subst hBB2; clear hB
  refine ⟨JOk.edge (JOk.yes (JOk.top) (ldA U25 rfl sz25 rfl (Cells.own (n := 6) PickB.eq (show ((u64 n :: u64 ver :: vcs vv Ap2 cp2 An2 cn2).drop 2).take 6 = vcs vv Ap2 cp2 An2 cn2 from rfl)) rfl)) (by kernel_rfl), ?_⟩
  refine Dx.one (i := 8) (by kernel_rfl) ?_
  refine Dstep.o (i := 8) rfl (Ox.call rfl rfl rfl (PutT_ct xd xc z.1.tb (keyF 3 (getV vv z.1.f) ++ numL n) _ htk (by omega)) (Pick.eq)) rfl (fun v B' H' hΦ hB => ?_)
  obtain ⟨_, rfl, hΦ⟩ := hΦ
  obtain ⟨hBB, d3, c3, t3, rfl, rfl, ht3⟩ := hΦ
  have hBB2 := hBB.symm
  subst hBB2
  clear hB
  have hkd : keyF 3 (getV vv z.1.f) ++ numL n = keyD z.1.f dn := by rw [hdn]; rfl
  rw [hkd] at ht3
  have hhalf2 := hhalf.step hnf ht3
  have hfk2 : (l ++ (⟨z.1.f, z.1.tb, d3, c3⟩ : Ix) :: r).map fk = T1.xs.map fk := by rw [← hfk]; simp [fk]
  refine ⟨JOk.yes (JOk.yes (JOk.top) (ldA U25 rfl sz25 rfl (Cells.own (n := 6) PickB.eq (show ((u64 n :: u64 ver :: vcs vv Ap2 cp2 An2 cn2).drop 2).take 6 = vcs vv Ap2 cp2 An2 cn2 from rfl)) rfl)) (ld U34 rfl rfl rfl), ?_⟩
  refine Dx.done (by kernel_rfl) ?_
  refine Xx.bn ?_
  exact Xx.againK ⟨dz ++ [z], l ++ (⟨z.1.f, z.1.tb, d3, c3⟩ : Ix) :: r, ⟨hv2, hfk2, by rw [List.map_append]; exact hhalf2⟩, rfl, rfl, rfl, (by rw [ixs_mid]; ac_rfl)⟩ (by rw [List.length_append, List.length_singleton]; omega) (Sc 0 rfl (Sc 1 rfl (Sc 3 rfl (Sc 6 rfl (Sc 7 rfl (Sc 8 rfl (Sc 9 rfl (Sc 10 rfl (Sc 12 rfl (Sc 13 rfl (Sc 14 rfl (Sc 15 rfl (Sc 16 rfl (Sc 17 rfl (Sc 18 rfl (Sc 19 rfl (Sc 20 rfl (Sc 21 rfl (Sc 22 rfl (Sc 23 rfl (Sc 24 rfl (Sc 25 rfl (Sc 26 rfl (Sc 27 rfl (Sc 28 rfl (Sc 29 rfl (Sc 31 rfl (Sc 32 rfl (Sc 33 rfl (Sc 34 rfl (Sc 35 rfl (Sub.nil _))))))))))))))))))))))))))))))))
 ·
  obtain rfl : o = none := by
   cases o with
   | none => rfl
   | some z => exact absurd h12 (by simp)
  obtain ⟨rfl, hall⟩ := ha
  have hp := hv.all hs hall
  rw [hZ] at hp
  refine Cx.exit <| Xx.te <| Xx.te <| Xx.bh <| ?_
  refine Xx.dropB it (Xx.closeGF (κ := List UInt8) T1.xb hs hZ (Xx.dropB b3 ?_))
  have hfin := half_fin hfk hhalf hp
  have hmem : ∀ (g : Dc → List UInt8) (k : List UInt8), (k = g dn ∨ ∃ x ∈ ds1, k = g x) ↔ ∃ x ∈ ds1 ++ [dn], k = g x := fun g k => by
   constructor
   ·rintro (h | ⟨x, hx, h⟩)
    ·exact ⟨dn, by simp, h⟩
    ·exact ⟨x, by simp [hx], h⟩
   ·rintro ⟨x, hx, h⟩
    rcases List.mem_append.1 hx with hx | hx
    ·exact .inr ⟨x, hx, h⟩
    ·rw [List.mem_singleton.1 hx] at h; exact .inl h
  have hdnok : DOk B5 dn := by rw [hdn]; exact ⟨hval2, hchk, hbyt⟩
  exact Xx.end0 rfl ⟨rfl, ⟨T1.b, T1.db, T1.xb, T1.ob, od2, oc2, ds1 ++ [dn], cur⟩, rfl, ⟨fun d hd => by rcases List.mem_append.1 hd with h9 | h9; exact hT5.docs d (by rw [hds9]; exact h9); rw [List.mem_singleton.1 h9]; exact hdnok, by rw [List.map_append, List.nodup_append]; exact ⟨by rw [← hds9]; exact hT1.nd, by simp, fun a ha b hb e => by obtain ⟨y, hy, rfl⟩ := List.mem_map.1 ha; rw [List.map_singleton, List.mem_singleton] at hb; exact hnew y hy (e.trans hb)⟩, hord2.congr (fun k => by rw [show numL n = numL dn.n by rw [hdn]]; exact hmem (fun d => numL d.n) k), by rw [fk_f hfk]; exact hT1.nf, fun y hy => (hfin y hy).congr (hmem (keyD y.f))⟩, hb1, by rw [List.map_append, hds1]; rw [hdn]; rfl, by rw [fk_f hfk]; exact hxf1⟩ (hB5) (by unfold tab; rw [← fk_ikv hfk]; ac_rfl)
end RwD
end Go.Proofs.YtdidpocakipinaaGreatDoor
namespace Go.Proofs.YtdidpocakipinaaGreatDoor
open Go.SL Go.RowKit
set_option maxRecDepth 100000
open Ke1 Ke3 Ke4 Ke5 Ke6 Ke7 Ke8 Ke9 KeA KeB KeC KeD KeE KeF KeG KeI RgA RgB BtB BtC BtD BtE BtG BtX BtH BtI BtF BtJ BtK BtL BtM BtN BtO BtR BtY BtZ DrA DrB DrC DrD DrE DrF RwA RwB RwC RwD
namespace RwE
theorem sz25 : (Tryz.prog.info? 25).map (·.size) = some 6 := by kernel_rfl
theorem sz36 : (Tryz.prog.info? 36).map (·.size) = some 8 := by kernel_rfl
theorem ti36 : TI Tryz.prog 36 [.int .u64 0, .int .u64 0, .int .i64 0, .bool false, .int .i64 0, str [], .slice none 0 0, .slice none 0 0] 8 104 := TI.of (by kernel_rfl) rfl rfl
theorem fo36_0 : FO Tryz.prog 36 0 0 1 false := FO.of U36 rfl rfl (by kernel_rfl) U34 rfl rfl
theorem fo36_2 : FO Tryz.prog 36 2 2 6 true := FO.of U36 rfl rfl (by kernel_rfl) U25 rfl rfl
theorem fo87_0 : FO Tryz.prog 87 0 0 1 false := FO.of U87 rfl rfl (by kernel_rfl) U82 rfl rfl
theorem fo87_2 : FO Tryz.prog 87 2 2 1 false := FO.of U87 rfl rfl (by kernel_rfl) U85 rfl rfl
theorem keys_snoc {g : Dc → List UInt8} {xs : List Dc} {y : Dc} (k : List UInt8) : (k = g y ∨ ∃ x ∈ xs, k = g x) ↔ ∃ x ∈ xs ++ [y], k = g x := by
  constructor
  · rintro (h | ⟨x, hx, h⟩)
    · exact ⟨y, by simp, h⟩
    · exact ⟨x, by simp [hx], h⟩
  · rintro ⟨x, hx, h⟩
    rcases List.mem_append.1 hx with hx | hx
    · exact .inr ⟨x, hx, h⟩
    · rw [List.mem_singleton.1 hx] at h; exact .inl h
theorem keys_perm {g : Dc → List UInt8} {xs ys : List Dc} (hp : xs.Perm ys) (k : List UInt8) : (∃ x ∈ xs, k = g x) ↔ ∃ x ∈ ys, k = g x :=
  ⟨fun ⟨y, hy, h⟩ => ⟨y, hp.mem_iff.1 hy, h⟩, fun ⟨y, hy, h⟩ => ⟨y, hp.mem_iff.2 hy, h⟩⟩
def lookX (f : List UInt8) (xs : List Ix) : Option Addr := (xs.find? (fun x => decide (x.f = f))).map fun x => ⟨x.tb, 0, none⟩
theorem lookX_get (f : List UInt8) (xs : List Ix) : (gget f (xs.map ikv)).getD (.pointer none) = .pointer (lookX f xs) := by
  induction xs with
  | nil => rfl
  | cons x xs ih =>
    have e : gget f ((x :: xs).map ikv) = if f = x.f then some (.pointer (some ⟨x.tb, 0, none⟩)) else gget f (xs.map ikv) := rfl
    rw [e]
    unfold lookX
    by_cases h : x.f = f
    · rw [if_pos h.symm, List.find?_cons_of_pos (by simp [h])]; rfl
    · rw [if_neg (fun z => h z.symm), List.find?_cons_of_neg (by simp [h])]; exact ih
theorem lookX_none {f : List UInt8} {xs : List Ix} : (lookX f xs).isNone = decide (f ∉ xs.map (·.f)) := by
  unfold lookX
  cases h : xs.find? (fun x => decide (x.f = f)) with
  | none =>
    have := List.find?_eq_none.1 h
    refine (decide_eq_true ?_).symm
    intro hm
    obtain ⟨x, hx, e⟩ := List.mem_map.1 hm
    have := this x hx
    simp [e] at this
  | some x =>
    have h1 := List.mem_of_find?_eq_some h
    have h2 := List.find?_some h
    refine (decide_eq_false ?_).symm
    intro hm
    exact hm (List.mem_map.2 ⟨x, h1, by simpa using h2⟩)
theorem NewT_ct (B : Frag) : Ct Tryz.prog 34 [] B 1 (fun v B' H' => B' = B ∧ ∃ tb c, v = .pointer (some ⟨tb, 0, none⟩) ∧ H' = tre tb 0 c ∧ TK 0 c (fun _ => False)) := by
  refine ctTo (New_ct B) rfl ?_
  rintro v B' H' ⟨rfl, tb, c, rfl, rfl, h1, h2⟩
  exact ⟨rfl, tb, c, rfl, rfl, tk_new h1 h2 (fun _ h => h)⟩
set_option maxHeartbeats 4000000 in
theorem RAdd_ct (T : Tb) (f : List UInt8) (B : Frag) (hT : TabOk B T) (hM : MaxLenIn B) (hlen : T.ds.length ≤ 60) : Ct Tryz.prog 17 [.pointer (some ⟨T.b, 0, none⟩), str f] B (tab T) (fun r B' H' => B' = B ∧ ∃ T', r = .bool (decide (f ∉ T.xs.map (·.f))) ∧ H' = tab T' ∧ TabOk B' T' ∧ T'.b = T.b ∧ T'.ds = T.ds ∧ T'.xs.map (·.f) = if f ∈ T.xs.map (·.f) then T.xs.map (·.f) else T.xs.map (·.f) ++ [f]) := by
 refine Ct.of_body Tryz.func17 rfl (nt := 44) rfl (by kernel_rfl) rfl ?_
 intro N0 w0 R
 unfold tab
 simp only [star_assoc]
 refine Cx.seq (fun K1 k1 => ?_)
 refine Cx.region <| Lx.y (asg rfl) rfl <| Lx.nil <| ?_
 refine Xx.tn (k1 _ _ _ _ ?_)
 refine Cx.seq (fun K2 k2 => ?_)
 refine Cx.seq (fun K3 k3 => ?_)
 refine Cx.region <| Lx.y (mv rfl) rfl <| Lx.y (Yx.ff (eqNilP U31 rfl rfl) rfl) rfl <| Lx.y (mv rfl) rfl <| Lx.gT rfl rfl rfl <| Lx.y (mv rfl) rfl <| Lx.gT rfl rfl rfl <| Lx.y (nilc rfl) rfl <| Lx.gT rfl rfl rfl <| Lx.y (fa' fo87_2 rfl) rfl <| Lx.gT rfl rfl rfl <| Lx.y (ld U85 rfl rfl rfl) rfl <| ?_
 refine Lx.gT rfl rfl rfl <| Lx.y (mv rfl) rfl <| Lx.gT rfl rfl rfl <| Lx.y (lkL (κ := List UInt8) (k := f) MapL.own U85 U9 Tryz.zeroValue83 rfl rfl (lookX_get f T.xs)) rfl <| Lx.gT rfl rfl rfl <| Lx.y (neNilP U83 rfl rfl) rfl <| Lx.y (pickF rfl rfl) rfl <| Lx.nil <| ?_
 refine Xx.tn (k3 _ _ _ _ ?_)
 refine Cx.condB rfl (fun h4 => ?_) (fun h4 => ?_)
 ·
  have hn := h4
  have hno : decide (f ∉ T.xs.map (·.f)) = false := by rw [← lookX_none]; simpa using hn
  refine Cx.seq (fun K5 k5 => ?_)
  refine Cx.region <| Lx.y (asg rfl) rfl <| Lx.nil <| ?_
  refine Xx.tn (k5 _ _ _ _ ?_)
  refine Cx.ret <| Xx.tr <| ?_
  exact Xx.ret1 rfl rfl ⟨rfl, T, by rw [hno], rfl, hT, rfl, rfl, (by rw [if_pos (by simpa using hno)])⟩ (Frag.le_refl _) (by ac_rfl)
 ·
  have hn := h4
  have hno : decide (f ∉ T.xs.map (·.f)) = true := by rw [← lookX_none]; simpa using hn
  have hfn := of_decide_eq_true hno
  refine Cx.skip ?_
  refine Xx.tn (k2 _ _ _ _ ?_)
  refine Cx.seq (fun K6 k6 => ?_)
  refine Cx.region ?_
  refine Lx.c rfl rfl rfl (NewT_ct _) ((one_star _).symm) rfl ?_
  rintro v B1 H1 ⟨hBB, tb, c0, rfl, rfl, htk0⟩ hB1
  have hBB2 := hBB.symm
  subst hBB2
  clear hB1
  refine Lx.y (asg rfl) rfl <| Lx.nil <| ?_
  refine Xx.tn (k6 _ _ _ _ ?_)
  refine Cx.seq (fun K7 k7 => ?_)
  refine Cx.seq (fun K8 k8 => ?_)
  refine Cx.region <| Lx.y (mv rfl) rfl <| Lx.y (nilc rfl) rfl <| Lx.y (fa' fo87_0 rfl) rfl <| Lx.y (ld U82 rfl rfl rfl) rfl <| ?_
  refine Xx.openGF (κ := BitVec 64) (kv := dkv) T.db fun Z c9 hs hZ => ?_
  have hZl : Z.length = T.ds.length := by rw [← hZ, List.length_map]
  refine Lx.o (rgG (κ := BitVec 64) U82 rfl) rfl (fun v B' H' hΦ hB => ?_)
  obtain ⟨it, rfl, hBB, rfl⟩ := hΦ
  have hBB2 := hBB.symm
  subst hBB2
  clear hB
  refine Lx.nil ?_
  refine Xx.tn (k8 _ _ _ _ ?_)
  refine Cx.block ?_
  refine Cx.loopK (Sc 0 rfl (Sc 1 rfl (Sc 4 rfl (Sc 5 rfl (Sc 8 rfl (Sc 9 rfl (Sc 10 rfl (Sc 11 rfl (Sc 12 rfl (Sc 13 rfl (Sc 14 rfl (Sc 15 rfl (Sc 16 rfl (Sc 17 rfl (Sc 18 rfl (Sc 19 rfl (Sc 20 rfl (Sc 21 rfl (Sc 22 rfl (Sc 23 rfl (Sc 24 rfl (Sub.nil _)))))))))))))))))))))) (fun m ρ' B' H' => ∃ (dz : List (Dc × Nat)) (d3 : Nat) (c3 : C), (GVisF Z dz ∧ TK d3 c3 (fun k => ∃ x ∈ dz.map (·.1), k = keyD f x)) ∧ m = Z.length - dz.length ∧ ρ' = [] ∧ B = B' ∧ blk it (gitObj T.db c9 (dz.map (gz dkv))) * (blk T.db (gObj (Z.map (gz dkv)) c9) * (tre tb d3 c3 * (tre T.ob T.od T.oc * (gmap T.xb (T.xs.map ikv) * (ixs T.xs * (rowT T * R)))))) = H') ⟨[], 0, c0, ⟨GVisF.nil Z, htk0.congr (fun k => by simp)⟩, rfl, rfl, rfl, by ac_rfl⟩ (Sc 0 rfl (Sc 1 rfl (Sc 4 rfl (Sc 5 rfl (Sc 8 rfl (Sc 9 rfl (Sc 10 rfl (Sc 11 rfl (Sc 12 rfl (Sc 13 rfl (Sc 14 rfl (Sc 15 rfl (Sc 16 rfl (Sc 17 rfl (Sc 18 rfl (Sc 19 rfl (Sc 20 rfl (Sc 21 rfl (Sc 22 rfl (Sc 23 rfl (Sc 24 rfl (Sub.nil _)))))))))))))))))))))) ?_
  rintro m ρ' B' H' ⟨dz, d3, c3, ⟨hv, htk⟩, rfl, rfl, rfl, rfl⟩
  refine Cx.seq (fun K9 k9 => ?_)
  refine Cx.region ?_
  refine Lx.o (nxGF hs hv rfl) rfl (fun v B' H' hΦ hB => ?_)
  obtain ⟨o, dz2, rfl, ha, hBB, rfl⟩ := hΦ
  have hBB2 := hBB.symm
  subst hBB2
  clear hB
  refine Lx.y (ext rfl (gnx0 _)) rfl <| Lx.nil <| ?_
  refine Xx.tn (k9 _ _ _ _ ?_)
  refine Cx.seq (fun K10 k10 => ?_)
  refine Cx.condB rfl (fun h11 => ?_) (fun h11 => ?_)
  ·
   obtain ⟨z, rfl⟩ : ∃ z, o = some z := by
    cases o with
    | none => exact absurd h11 (by simp)
    | some z => exact ⟨z, rfl⟩
   obtain ⟨rfl, hzZ, hzn⟩ := ha
   have hv2 := hv.step hzZ hzn
   have hvl := hv2.len
   rw [List.length_append, List.length_singleton] at hvl
   have hlx := htk.len
   rw [List.length_map] at hlx
   have hzx : z.1 ∈ T.ds := by rw [← hZ]; exact List.mem_map.2 ⟨z, hzZ, rfl⟩
   obtain ⟨Ap, cp, An, cn, hsh⟩ := cells_shape (hT.docs _ hzx)
   obtain ⟨hval, hchk, hbyt⟩ := hT.docs _ hzx
   rw [show z.1.cs = vcs z.1.v Ap cp An cn by unfold Dc.cells at hsh; injection hsh with _ h8; injection h8] at hval
   refine Cx.skip ?_
   refine Xx.tn (k10 _ _ _ _ ?_)
   refine Cx.block ?_
   refine Cx.seq (fun K12 k12 => ?_)
   refine Cx.region <| Lx.y (entGF hs hzZ rfl) rfl <| Lx.y (ext rfl rfl) rfl <| ?_
   refine Lx.new (allocO ti36) rfl (fun b7 => ?_)
   refine Lx.st (stA (d := .bool) (cs' := z.1.cells) sz36 rfl rfl (by rw [hsh]; rfl) (by rw [hsh]; rfl) (by rw [hsh]; show 0 + 8 ≤ 8; omega) (st_all rfl (by rw [hsh]; rfl))) ?_
   refine Lx.nil ?_
   refine Xx.tn (k12 _ _ _ _ ?_)
   refine Cx.drawn (by kernel_rfl) ?_
   refine Dx.p (i := 0) rfl (by kernel_rfl) (mv rfl) rfl ?_
   refine Dx.p (i := 1) rfl (by kernel_rfl) (fa' fo36_2 rfl) rfl ?_
   refine Dx.r (i := 2) rfl (by kernel_rfl) (ldA U25 rfl sz25 rfl (Cells.own (n := 6) PickB.eq (show (z.1.cells.drop 2).take 6 = vcs z.1.v Ap cp An cn by rw [hsh]; rfl)) rfl) rfl ?_
   refine Dx.p (i := 3) rfl (by kernel_rfl) (mv rfl) rfl ?_
   refine Dx.p (i := 5) rfl (by kernel_rfl) (fa' fo36_0 rfl) rfl ?_
   refine Dx.r (i := 6) rfl (by kernel_rfl) (ld U34 rfl rfl rfl) rfl ?_
   refine Dx.one (i := 4) (by kernel_rfl) ?_
   refine Dstep.o (i := 4) rfl (Ox.cb rfl rfl rfl (RgA.Get_ct 2 z.1.v f 1 _ _ hval hchk)) rfl (fun v B' H' hΦ hB => ?_)
   obtain ⟨rfl, hΦ⟩ := hΦ
   obtain ⟨hBB, cs9, rfl, hg9⟩ := hΦ
   have hBB2 := hBB.symm
   subst hBB2
   clear hB
   refine ⟨JOk.yes (JOk.edge (JOk.top) (by kernel_rfl)) (ld U34 rfl rfl rfl), ?_⟩
   refine Dx.one (i := 7) (by kernel_rfl) ?_
   refine Dstep.o (i := 7) rfl (Ox.cb rfl rfl rfl (Pair_ct 3 (getV z.1.v f) z.1.n _ _ hg9 hM (by have h9 : (bytesF 3 (getV z.1.v f)).length ≤ (bytesF 4 z.1.v).length + 1 := getV_bytes (d := 2) f hchk; omega))) rfl (fun v B' H' hΦ hB => ?_)
   obtain ⟨rfl, rfl, hBB⟩ := hΦ; have hBB2 := hBB.symm; subst hBB2; clear hB
   refine ⟨JOk.edge (JOk.yes (JOk.top) (ldA U25 rfl sz25 rfl (Cells.own (n := 6) PickB.eq (show (z.1.cells.drop 2).take 6 = vcs z.1.v Ap cp An cn by rw [hsh]; rfl)) rfl)) (by kernel_rfl), ?_⟩
   refine Dx.one (i := 8) (by kernel_rfl) ?_
   refine Dstep.o (i := 8) rfl (Ox.call rfl rfl rfl (PutT_ct d3 c3 tb (keyF 3 (getV z.1.v f) ++ numL z.1.n) _ htk (by omega)) (Pick.eq)) rfl (fun v B' H' hΦ hB => ?_)
   obtain ⟨_, rfl, hΦ⟩ := hΦ
   obtain ⟨hBB, d4, c4, t4, rfl, rfl, htk4⟩ := hΦ
   have hBB2 := hBB.symm
   subst hBB2
   clear hB
   skip
   refine ⟨JOk.yes (JOk.yes (JOk.top) (ldA U25 rfl sz25 rfl (Cells.own (n := 6) PickB.eq (show (z.1.cells.drop 2).take 6 = vcs z.1.v Ap cp An cn by rw [hsh]; rfl)) rfl)) (ld U34 rfl rfl rfl), ?_⟩
   refine Dx.done (by kernel_rfl) ?_
   refine Xx.bn ?_
   refine Xx.dropB b7 ?_
   exact Xx.againK ⟨dz ++ [z], d4, c4, ⟨hv2, htk4.congr (fun k => by rw [List.map_append, List.map_singleton]; exact keys_snoc (g := keyD f) (y := z.1) k)⟩, rfl, rfl, rfl, (by ac_rfl)⟩ (by rw [List.length_append, List.length_singleton]; omega) (Sc 0 rfl (Sc 1 rfl (Sc 4 rfl (Sc 5 rfl (Sc 8 rfl (Sc 9 rfl (Sc 10 rfl (Sc 11 rfl (Sc 12 rfl (Sc 13 rfl (Sc 14 rfl (Sc 15 rfl (Sc 16 rfl (Sc 17 rfl (Sc 18 rfl (Sc 19 rfl (Sc 20 rfl (Sc 21 rfl (Sc 22 rfl (Sc 23 rfl (Sc 24 rfl (Sub.nil _))))))))))))))))))))))
  ·
   obtain rfl : o = none := by
    cases o with
    | none => rfl
    | some z => exact absurd h11 (by simp)
   obtain ⟨rfl, hall⟩ := ha
   have hp := hv.all hs hall
   rw [hZ] at hp
   refine Cx.exit <| Xx.te <| Xx.te <| Xx.bh <| ?_
   refine Xx.tn (k7 _ _ _ _ ?_)
   refine Cx.seq (fun K13 k13 => ?_)
   refine Xx.dropB it (Xx.closeGF (κ := BitVec 64) T.db hs hZ ?_)
   refine Cx.region <| Lx.y (mv rfl) rfl <| Lx.y (nilc rfl) rfl <| Lx.y (fa' fo87_2 rfl) rfl <| Lx.y (ld U85 rfl rfl rfl) rfl <| Lx.y (mv rfl) rfl <| Lx.y (mv rfl) rfl <| ?_
   refine Lx.o0 (stG (κ := List UInt8) (k := f) (v := .pointer (some ⟨tb, 0, none⟩)) U85 U9 rfl rfl rfl) (fun v B' H' hΦ hB => ?_)
   obtain ⟨hBB, rfl⟩ := hΦ
   have hBB2 := hBB.symm
   subst hBB2
   clear hB
   rw [show gset f (Value.pointer (some ⟨tb, 0, none⟩)) (T.xs.map ikv) = (T.xs ++ [(⟨f, tb, d3, c3⟩ : Ix)]).map ikv from gset_new (kv := ikv) (ky := fun x => x.f) (x := ⟨f, tb, d3, c3⟩) ikv_k (fun y hy e => hfn (List.mem_map.2 ⟨y, hy, e⟩))]
   refine Lx.nil ?_
   refine Xx.tn (k13 _ _ _ _ ?_)
   refine Cx.seq (fun K14 k14 => ?_)
   refine Cx.region <| Lx.y (asg rfl) rfl <| Lx.nil <| ?_
   refine Xx.tn (k14 _ _ _ _ ?_)
   refine Cx.ret ?_
   exact Xx.ret1 rfl rfl ⟨rfl, ⟨T.b, T.db, T.xb, T.ob, T.od, T.oc, T.ds, T.xs ++ [(⟨f, tb, d3, c3⟩ : Ix)]⟩, by rw [hno], rfl, ⟨hT.docs, hT.nd, hT.ord, by rw [List.map_append, List.nodup_append]; exact ⟨hT.nf, by simp, fun a ha b hb e => by rw [List.map_singleton, List.mem_singleton] at hb; subst hb; exact hfn (e ▸ ha)⟩, fun x hx => by rcases List.mem_append.1 hx with h9 | h9; exact hT.idx x h9; rw [List.mem_singleton.1 h9]; exact htk.congr (keys_perm hp)⟩, rfl, rfl, by rw [if_neg hfn, List.map_append]; rfl⟩ (Frag.le_refl _) (by rw [ixs_app]; simp only [ixs, star_one]; ac_rfl)
end RwE
end Go.Proofs.YtdidpocakipinaaGreatDoor
namespace Go.SL
open Go.RowKit
section
variable {P : Program} {ρ : Sl} {S : World → Prop} {ty t t2 : TypeId} {x y : Operand} {v : Value}
end
section
variable {e : Env} {ds : List Deferred} {ρ : Sl} {B : Frag} {H R : HP} {t tx et et' ty tyx : TypeId} {x y : Operand} {nl nd c nx cx : Nat} {xs news : List Value} {A Ax : Option Addr} {z : Value} {bytes : Nat}
end
end Go.SL
namespace Go.SL
open Go.RowKit
section
variable {e : Env} {ds : List Deferred} {ρ : Sl} {B : Frag} {H R : HP} {t tx et ty : TypeId} {x y : Operand}
end
section
variable {e : Env} {ds : List Deferred} {ρ : Sl} {B : Frag} {H R : HP} {t tx et et' ty tyx : TypeId} {x y : Operand} {nl nd c : Nat} {xs news : List Value} {A : Option Addr} {l : List UInt8}
end
end Go.SL
namespace Go.SL
open Go.RowKit
section
variable {P : Program} {ρ : Sl} {S : World → Prop} {ty t t2 et : TypeId} {x y : Operand} {A : Option Addr} {n c : Nat}
variable {e : Env} {ds : List Deferred} {B : Frag} {H R : HP} {l : List UInt8}
end
theorem Xx.retC {P : Program} {B : Frag} {H R : HP} {ρ : Sl} {fn : Func} {N0 nt size : Nat} {w0 : World} {r : Option Nat} {B0 : Frag} {H' R1 : HP} {Φ : Value → Frag → HP → Prop} {t u : Tmp} {x : Value} {ty : TypeId} {d : TypeDesc} {vs : List Value} {b : Nat} {et : TypeId} {fz : Nat × Nat}
    (hr : fn.results = #[.cell t ty, .tmp u]) (ht : P.underlying ty = some d) (hd : aggB d = true) (hi : (P.info? ty).map (·.size) = some size) (hv : lk ρ t = some (.pointer (some ⟨b, 0, none⟩))) [hp : PickB H b (.cells vs.toArray et fz) R1] (hl : vs.length = size) (hx : lk ρ u = some x)
    (hΦ : Φ (.tuple #[.agg vs.toArray, x]) B H') (hB : B0.le B) (hH : R1 = H' * R) : Xx ⟨P, r, N0, w0, nt⟩ [] (bodyPost P fn (Fin N0 w0 R B0 Φ) .ret) ρ B H := fun a w f bl s => by
  have s' : St N0 B (blk b (.cells vs.toArray et fz) * R1) w := hp.eq ▸ s
  have hl := run_loadVar_row (P := P) w b et ty vs.toArray fz d s'.blk.1 ht (by cases d <;> simp_all [aggB]) (by rw [hi]; simp [hl])
  have h1 := f.get t _ hv
  have h2 := f.get u _ hx
  refine ⟨f.defers, .tuple #[.agg vs.toArray, x], ?_, _, B, H', rfl, hΦ, hB, bl, hH ▸ s'.drop⟩
  simp [results, hr, h1, h2, Sem.run_bind, asAddr, hl]
theorem Xx.dropT {e : Env} {ds : List Deferred} {K : Act → World → Prop} {ρ : Sl} {B : Frag} {H R : HP} (A : Option Addr) {et : TypeId} {size n c : Nat} {xs : List Value} [hp : PickS H A et size n c xs R] (h : Xx e ds K ρ B R) : Xx e ds K ρ B H := Xx.perm (Xx.drop h) hp.eq
end Go.SL
namespace Go.Proofs.YtdidpocakipinaaGreatDoor
open Go.SL Go.RowKit
set_option maxRecDepth 100000
open Ke1 Ke3 Ke4 Ke5 Ke6 Ke7 Ke8 Ke9 KeA KeB KeC KeD KeE KeF KeG KeI RgA RgB BtB BtC BtD BtE BtG BtX BtH BtI BtF BtJ BtK BtL BtM BtN BtO BtR BtY BtZ DrA DrB DrC DrD DrE DrF RwA RwB RwC RwD RwE
namespace RwF
theorem sz25 : (Tryz.prog.info? 25).map (·.size) = some 6 := by kernel_rfl
theorem sz36 : (Tryz.prog.info? 36).map (·.size) = some 8 := by kernel_rfl
theorem ti36 : TI Tryz.prog 36 [.int .u64 0, .int .u64 0, .int .i64 0, .bool false, .int .i64 0, str [], .slice none 0 0, .slice none 0 0] 8 104 := TI.of (by kernel_rfl) rfl rfl
theorem fo36_2 : FO Tryz.prog 36 2 2 6 true := FO.of U36 rfl rfl (by kernel_rfl) U25 rfl rfl
theorem fo87_0 : FO Tryz.prog 87 0 0 1 false := FO.of U87 rfl rfl (by kernel_rfl) U82 rfl rfl
def treB (B : Frag) (tb d : Nat) (c : C) : Prop := (∃ fz, B tb = some (.cells [pt c, i64 ((io (d + 1) c).length : Nat)].toArray 115 fz)) ∧ TrB B (d + 1) c
def RtB (B : Frag) (T : Tb) : Prop :=
  (∃ fz, B T.b = some (.cells [.map (some T.db), .pointer (some ⟨T.ob, 0, none⟩), .map (some T.xb)].toArray 87 fz)) ∧
  (∃ M c, GStp M c ∧ gkvs M = T.ds.map dkv ∧ B T.db = some (gObj M c)) ∧
  (∃ M c, GStp M c ∧ gkvs M = T.xs.map ikv ∧ B T.xb = some (gObj M c)) ∧
  treB B T.ob T.od T.oc ∧ ∀ x ∈ T.xs, treB B x.tb x.d x.c
theorem treB.mono {B B' : Frag} (hB : B.le B') {tb d : Nat} {c : C} (h : treB B tb d c) : treB B' tb d c := ⟨let ⟨fz, h1⟩ := h.1; ⟨fz, hB _ _ h1⟩, h.2.mono hB⟩
theorem RtB.mono {B B' : Frag} (hB : B.le B') {T : Tb} (h : RtB B T) : RtB B' T := by
  obtain ⟨⟨fz, h1⟩, ⟨M, c, h2, h3, h4⟩, ⟨M', c', h5, h6, h7⟩, h8, h9⟩ := h
  exact ⟨⟨fz, hB _ _ h1⟩, ⟨M, c, h2, h3, hB _ _ h4⟩, ⟨M', c', h5, h6, hB _ _ h7⟩, h8.mono hB, fun x hx => (h9 x hx).mono hB⟩
theorem tre_ro {B k : Frag} {tb d : Nat} {c : C} (hok : Ok 90 (d + 1) c) (h : tre tb d c k) (ha : k.apart B) : treB (Frag.un B k) tb d c := by
  obtain ⟨k1, m1, d1, e1, h1, h2⟩ := h
  have l1 := un_le (B := B) e1 d1
  exact ⟨⟨(0, 0), l1.1 _ _ (row_ro h1 (ap_left ha e1))⟩, (tr_ro _ _ _ h2 (ap_right ha e1 d1) hok.fit).mono l1.2⟩
theorem ixs_ro {B : Frag} : ∀ (xs : List Ix) (k : Frag), ixs xs k → k.apart B → (∀ x ∈ xs, Ok 90 (x.d + 1) x.c) → ∀ x ∈ xs, treB (Frag.un B k) x.tb x.d x.c := by
  intro xs
  induction xs with
  | nil => intro k _ _ _ x hx; cases hx
  | cons y xs ih =>
    rintro k ⟨k1, k2, hd, e, h1, h2⟩ ha hf x hx
    have hl := un_le (B := B) e hd
    rcases List.mem_cons.1 hx with rfl | hx
    · exact (tre_ro (hf x (by simp)) h1 (ap_left ha e)).mono hl.1
    · exact (ih k2 h2 (ap_right ha e hd) (fun q hq => hf q (by simp [hq])) x hx).mono hl.2
theorem map_ro {κ : Type} [DecidableEq κ] [MKey κ] {B k : Frag} {b : Nat} {l : List (κ × Value)} (h : gmap b l k) (ha : k.apart B) : ∃ M c, GStp M c ∧ gkvs M = l ∧ Frag.un B k b = some (gObj M c) := by
  obtain ⟨T, c, hs, hl, hb⟩ := h
  have e : k = Frag.one b (gObj T c) := hb
  subst e
  exact ⟨T, c, hs, hl, Frag.un_right ha (by simp [Frag.one])⟩
theorem tab_ro {B B0 k : Frag} {T : Tb} (hT : TabOk B0 T) (h : tab T k) (ha : k.apart B) : RtB (Frag.un B k) T := by
  obtain ⟨k1, m1, d1, e1, h1, k2, m2, d2, e2, h2, k3, m3, d3, e3, h3, k4, m4, d4, e4, h4, h5⟩ := h
  have a1 := ap_right ha e1 d1
  have a2 := ap_right a1 e2 d2
  have a3 := ap_right a2 e3 d3
  have l1 := un_le (B := B) e1 d1
  have l2 := un_le (B := B) e2 d2
  have l3 := un_le (B := B) e3 d3
  have l4 := un_le (B := B) e4 d4
  obtain ⟨M, c, g1, g2, g3⟩ := map_ro h2 (ap_left a1 e2)
  obtain ⟨M', c', g4, g5, g6⟩ := map_ro h4 (ap_left a3 e4)
  refine ⟨⟨(0, 0), l1.1 _ _ (row_ro h1 (ap_left ha e1))⟩, ⟨M, c, g1, g2, l1.2 _ _ (l2.1 _ _ g3)⟩, ⟨M', c', g4, g5, l1.2 _ _ (l2.2 _ _ (l3.2 _ _ (l4.1 _ _ g6)))⟩, ?_, fun x hx => ?_⟩
  · exact (tre_ro hT.ord.1.1 h3 (ap_left a2 e3)).mono (Frag.le_trans l3.1 (Frag.le_trans l2.2 l1.2))
  · exact (ixs_ro T.xs _ h5 (ap_right a3 e4 d4) (fun y hy => (hT.idx y hy).1.1) x hx).mono (Frag.le_trans l4.2 (Frag.le_trans l3.2 (Frag.le_trans l2.2 l1.2)))
theorem V0_val {B : Frag} : ValR B 4 V0 (vcs V0 none 0 none 0) := V0_R (d := 3)
theorem V0_byt : (bytesF 4 V0).length ≤ 1024 := by
  have : bytesF 4 V0 = [toB 0] := by unfold bytesF; rw [if_neg (by decide), if_neg (by decide), if_neg (by decide), if_neg (by decide)]; rfl
  rw [this]; decide
theorem look_ok {B : Frag} (n : BitVec 64) {ds : List Dc} (h : ∀ d ∈ ds, DOk B d) (hn : (ds.map (·.n)).Nodup) : ∃ d0 : Dc, lookD n ds = d0.cells ∧ DOk B d0 ∧ (∀ d ∈ ds, d.n = n → d0 = d) ∧ ((¬ ∃ d ∈ ds, d.n = n) → d0.n = 0 ∧ d0.v = V0) := by
  by_cases hx : ∃ d ∈ ds, d.n = n
  · obtain ⟨d, hd, e, hl⟩ := look_some hx
    exact ⟨d, hl, h d hd, fun d' hd' e' => map_inj (·.n) hn hd hd' (e.trans e'.symm), fun hno => (hno hx).elim⟩
  · exact ⟨⟨0, 0, V0, vcs V0 none 0 none 0⟩, look_none hx, ⟨V0_val, V0_check (by decide), V0_byt⟩, fun d hd e => (hx ⟨d, hd, e⟩).elim, fun _ => ⟨rfl, rfl⟩⟩
set_option maxHeartbeats 2000000 in
theorem RGet_own (T : Tb) (n : BitVec 64) (B : Frag) (hT : TabOk B T) : Ct Tryz.prog 15 [.pointer (some ⟨T.b, 0, none⟩), u64 n] B (tab T) (fun r B' H' => ∃ d0 Ap cp An cn ys, r = .tuple #[.agg (u64 d0.n :: u64 d0.ver :: vcs d0.v Ap cp An cn).toArray, .bool (decide (∃ d ∈ T.ds, d.n = n))] ∧ (∀ d ∈ T.ds, d.n = n → d0 = d) ∧ checkF 4 d0.v 1 = 0 ∧ ClR B' 3 d0.v cp An cn ys ∧ H' = tab T * sbuf 25 6 Ap d0.v.parts.length cp ys) := by
 obtain ⟨hlk1, hlk2⟩ := look_get n T.ds
 obtain ⟨d0, hd0, hok0, hsame0, hnone0⟩ := look_ok n hT.docs hT.nd
 obtain ⟨Ap, cp, An, cn, hsh⟩ := cells_shape hok0
 obtain ⟨hval, hchk, hbyt⟩ := hok0
 rw [show d0.cs = vcs d0.v Ap cp An cn by unfold Dc.cells at hsh; injection hsh with _ h8; injection h8] at hval
 refine Ct.of_body Tryz.func15 rfl (nt := 26) rfl (by kernel_rfl) rfl ?_
 intro N0 w0 R
 unfold tab
 simp only [star_assoc]
 refine Cx.seq (fun K1 k1 => ?_)
 refine Cx.region ?_
 refine Lx.new (allocO ti36) rfl (fun b4 => ?_)
 refine Lx.y (asg rfl) rfl <| Lx.nil <| ?_
 refine Xx.tn (k1 _ _ _ _ ?_)
 refine Cx.seq (fun K2 k2 => ?_)
 refine Cx.seq (fun K3 k3 => ?_)
 refine Cx.region <| Lx.y (mv rfl) rfl <| Lx.y (Yx.ff (eqNilP U31 rfl rfl) rfl) rfl <| Lx.nil <| ?_
 refine Xx.tn (k3 _ _ _ _ ?_)
 refine Cx.condF rfl <| Cx.skip <| ?_
 refine Xx.tn (k2 _ _ _ _ ?_)
 refine Cx.seq (fun K4 k4 => ?_)
 refine Cx.region <| Lx.y (mv rfl) rfl <| Lx.y (nilc rfl) rfl <| Lx.y (fa' fo87_0 rfl) rfl <| Lx.y (ld U82 rfl rfl rfl) rfl <| Lx.y (mv rfl) rfl <| Lx.y (lkL2 (κ := BitVec 64) (k := n) MapL.own U82 U34 Tryz.zeroValue36 rfl rfl hlk1 hlk2) rfl <| Lx.y (mv rfl) rfl <| Lx.y (ext rfl rfl) rfl <| Lx.y (ext rfl rfl) rfl <| ?_
 refine Lx.new (allocO ti36) rfl (fun b6 => ?_)
 refine Lx.st (stA (d := .bool) (cs' := d0.cells) sz36 rfl (show _ = some (Value.agg d0.cells.toArray) by rw [← hd0]; rfl) (by rw [hsh]; rfl) (by rw [hsh]; rfl) (by rw [hsh]; show 0 + 8 ≤ 8; omega) (st_all rfl (by rw [hsh]; rfl))) ?_
 refine Lx.y (asg rfl) rfl <| Lx.nil <| ?_
 refine Xx.tn (k4 _ _ _ _ ?_)
 refine Cx.seq (fun K5 k5 => ?_)
 refine Cx.region <| Lx.y (fa' fo36_2 rfl) rfl <| Lx.y (ldA U25 rfl sz25 rfl (Cells.own (n := 6) PickB.eq (show (d0.cells.drop 2).take 6 = vcs d0.v Ap cp An cn by rw [hsh]; rfl)) rfl) rfl <| ?_
 refine Lx.c rfl rfl rfl (Clone_own 3 d0.v _ 1 _ hval hchk) ((one_star _).symm) rfl ?_
 rintro r2 B5 H5 ⟨Ap2, cp2, An2, cn2, ys, rfl, hcl, rfl⟩ hB5
 refine Lx.y (fa' fo36_2 rfl) rfl ?_
 refine Lx.st (stA (d := .bool) (cs' := u64 d0.n :: u64 d0.ver :: vcs d0.v Ap2 cp2 An2 cn2) sz25 rfl rfl rfl rfl (by rw [hsh]; show 2 + 6 ≤ 8; omega) (by rw [hsh]; rfl)) ?_
 refine Lx.nil ?_
 refine Xx.tn (k5 _ _ _ _ ?_)
 refine Cx.seq (fun K6 k6 => ?_)
 refine Cx.region <| Lx.y (ldA U36 rfl sz36 rfl (Cells.own (n := 8) PickB.eq (show ((u64 d0.n :: u64 d0.ver :: vcs d0.v Ap2 cp2 An2 cn2).drop 0).take 8 = u64 d0.n :: u64 d0.ver :: vcs d0.v Ap2 cp2 An2 cn2 from rfl)) rfl) rfl <| Lx.y (mv rfl) rfl <| ?_
 refine Lx.st (stA (d := .bool) (cs' := u64 d0.n :: u64 d0.ver :: vcs d0.v Ap2 cp2 An2 cn2) sz36 rfl rfl rfl rfl (by show 0 + 8 ≤ 8; omega) rfl) ?_
 refine Lx.y (asg rfl) rfl <| Lx.nil <| ?_
 refine Xx.tn (k6 _ _ _ _ ?_)
 refine Cx.ret ?_
 refine Xx.dropB b6 ?_
 exact Xx.retC rfl U36 rfl sz36 rfl rfl rfl ⟨d0, Ap2, cp2, An2, cn2, ys, rfl, hsame0, hchk, hcl, rfl⟩ hB5 (by ac_rfl)
set_option maxHeartbeats 2000000 in
theorem RGet_ro (T : Tb) (n : BitVec 64) (B : Frag) (hT : TabOk B T) (hR : RtB B T) : CtB Tryz.prog 15 [.pointer (some ⟨T.b, 0, none⟩), u64 n] B (fun r B' => ∃ d0 : Dc, r = .tuple #[.agg d0.cells.toArray, .bool (decide (∃ d ∈ T.ds, d.n = n))] ∧ (∀ d ∈ T.ds, d.n = n → d0.n = d.n ∧ d0.ver = d.ver ∧ d0.v = d.v) ∧ DOk B' d0) := by
 obtain ⟨hlk1, hlk2⟩ := look_get n T.ds
 obtain ⟨d0, hd0, hok0, hsame0, hnone0⟩ := look_ok n hT.docs hT.nd
 obtain ⟨Ap, cp, An, cn, hsh⟩ := cells_shape hok0
 obtain ⟨hval, hchk, hbyt⟩ := hok0
 rw [show d0.cs = vcs d0.v Ap cp An cn by unfold Dc.cells at hsh; injection hsh with _ h8; injection h8] at hval
 obtain ⟨⟨fz, hrow⟩, ⟨Md, cd, hsd, hld, hBd⟩, _⟩ := hR
 refine CtB.of_body Tryz.func15 rfl (nt := 26) rfl (by kernel_rfl) rfl ?_
 intro N0 w0 R
 refine Cx.seq (fun K1 k1 => ?_)
 refine Cx.region ?_
 refine Lx.new (allocO ti36) rfl (fun b4 => ?_)
 refine Lx.y (asg rfl) rfl <| Lx.nil <| ?_
 refine Xx.tn (k1 _ _ _ _ ?_)
 refine Cx.seq (fun K2 k2 => ?_)
 refine Cx.seq (fun K3 k3 => ?_)
 refine Cx.region <| Lx.y (mv rfl) rfl <| Lx.y (Yx.ff (eqNilP U31 rfl rfl) rfl) rfl <| Lx.nil <| ?_
 refine Xx.tn (k3 _ _ _ _ ?_)
 refine Cx.condF rfl <| Cx.skip <| ?_
 refine Xx.tn (k2 _ _ _ _ ?_)
 refine Cx.seq (fun K4 k4 => ?_)
 refine Cx.region <| Lx.y (mv rfl) rfl <| Lx.y (nilc rfl) rfl <| Lx.y (fa' fo87_0 rfl) rfl <| Lx.y (ldB U82 rfl rfl hrow rfl) rfl <| Lx.y (mv rfl) rfl <| Lx.y (lkL2 (κ := BitVec 64) (k := n) (MapL.ro hBd hsd hld) U82 U34 Tryz.zeroValue36 rfl rfl hlk1 hlk2) rfl <| Lx.y (mv rfl) rfl <| Lx.y (ext rfl rfl) rfl <| Lx.y (ext rfl rfl) rfl <| ?_
 refine Lx.new (allocO ti36) rfl (fun b6 => ?_)
 refine Lx.st (stA (d := .bool) (cs' := d0.cells) sz36 rfl (show _ = some (Value.agg d0.cells.toArray) by rw [← hd0]; rfl) (by rw [hsh]; rfl) (by rw [hsh]; rfl) (by rw [hsh]; show 0 + 8 ≤ 8; omega) (st_all rfl (by rw [hsh]; rfl))) ?_
 refine Lx.y (asg rfl) rfl <| Lx.nil <| ?_
 refine Xx.tn (k4 _ _ _ _ ?_)
 refine Cx.seq (fun K5 k5 => ?_)
 refine Cx.region <| Lx.y (fa' fo36_2 rfl) rfl <| Lx.y (ldA U25 rfl sz25 rfl (Cells.own (n := 6) PickB.eq (show (d0.cells.drop 2).take 6 = vcs d0.v Ap cp An cn by rw [hsh]; rfl)) rfl) rfl <| ?_
 refine Lx.cb rfl rfl rfl (Clone_ct 4 d0.v _ 1 _ hval hchk) rfl ?_
 rintro r2 B5 ⟨cs2, rfl, hval2⟩ hB5
 obtain ⟨Ap2, cp2, An2, cn2, rfl⟩ := ValR.shape hval2
 refine Lx.y (fa' fo36_2 rfl) rfl ?_
 refine Lx.st (stA (d := .bool) (cs' := u64 d0.n :: u64 d0.ver :: vcs d0.v Ap2 cp2 An2 cn2) sz25 rfl rfl rfl rfl (by rw [hsh]; show 2 + 6 ≤ 8; omega) (by rw [hsh]; rfl)) ?_
 refine Lx.nil ?_
 refine Xx.tn (k5 _ _ _ _ ?_)
 refine Cx.seq (fun K7 k7 => ?_)
 refine Cx.region <| Lx.y (ldA U36 rfl sz36 rfl (Cells.own (n := 8) PickB.eq (show ((u64 d0.n :: u64 d0.ver :: vcs d0.v Ap2 cp2 An2 cn2).drop 0).take 8 = u64 d0.n :: u64 d0.ver :: vcs d0.v Ap2 cp2 An2 cn2 from rfl)) rfl) rfl <| Lx.y (mv rfl) rfl <| ?_
 refine Lx.st (stA (d := .bool) (cs' := u64 d0.n :: u64 d0.ver :: vcs d0.v Ap2 cp2 An2 cn2) sz36 rfl rfl rfl rfl (by show 0 + 8 ≤ 8; omega) rfl) ?_
 refine Lx.y (asg rfl) rfl <| Lx.nil <| ?_
 refine Xx.tn (k7 _ _ _ _ ?_)
 refine Cx.ret ?_
 refine Xx.dropB b6 ?_
 exact Xx.rBc rfl U36 rfl sz36 rfl rfl rfl ⟨⟨d0.n, d0.ver, d0.v, vcs d0.v Ap2 cp2 An2 cn2⟩, rfl, fun d hd hn => (by rw [hsame0 d hd hn]; exact ⟨rfl, rfl, rfl⟩), hval2, hchk, hbyt⟩ hB5
set_option maxHeartbeats 1000000 in
theorem RLen_ro (T : Tb) (B : Frag) (hR : RtB B T) : CtP Tryz.prog 20 [.pointer (some ⟨T.b, 0, none⟩)] B (i64 ((T.ds.length : Nat) : Int)) := by
  obtain ⟨⟨fz, hrow⟩, ⟨Md, cd, hsd, hld, hBd⟩, _⟩ := hR
  refine CtB.of_body Tryz.func20 rfl (nt := 10) rfl (by kernel_rfl) rfl ?_
  intro N0 w0 R
  refine Cx.seq (fun K1 k1 => ?_)
  refine Cx.region <| Lx.y (asg rfl) rfl <| Lx.nil <| ?_
  refine Xx.tn (k1 _ _ _ _ ?_)
  refine Cx.seq (fun K2 k2 => ?_)
  refine Cx.seq (fun K3 k3 => ?_)
  refine Cx.region <| Lx.y (mv rfl) rfl <| Lx.y (Yx.ff (eqNilP U31 rfl rfl) rfl) rfl <| Lx.nil <| ?_
  refine Xx.tn (k3 _ _ _ _ ?_)
  refine Cx.condF rfl <| Cx.skip <| ?_
  refine Xx.tn (k2 _ _ _ _ ?_)
  refine Cx.seq (fun K4 k4 => ?_)
  refine Cx.region <| Lx.y (mv rfl) rfl <| Lx.y (nilc rfl) rfl <| Lx.y (fa' fo87_0 rfl) rfl <| Lx.y (ldB U82 rfl rfl hrow rfl) rfl <| Lx.y (Yx.val (lenL (MapL.ro hBd hsd hld) U82 rfl) (show _ = i64 ((T.ds.length : Nat) : Int) by rw [List.length_map])) rfl <| Lx.y (asg rfl) rfl <| Lx.nil <| ?_
  refine Xx.tn (k4 _ _ _ _ ?_)
  refine Cx.ret ?_
  exact Xx.rB1 rfl rfl ⟨rfl, rfl⟩ (Frag.le_refl _) rfl
end RwF
end Go.Proofs.YtdidpocakipinaaGreatDoor
namespace Go.Proofs.YtdidpocakipinaaGreatDoor
open Go.SL Go.RowKit
set_option maxRecDepth 100000
open Ke1 Ke3 Ke4 Ke5 Ke6 Ke7 Ke8 Ke9 KeA KeB KeC KeD KeE KeF KeG KeI RgA BtB BtC BtD BtE BtG BtH BtI BtF BtJ BtK BtL BtM BtN BtQ BtR BtX
namespace BtS
theorem sz48 : (Tryz.prog.info? 48).map (·.size) = some 2 := by kernel_rfl
theorem fo48_0 : FO Tryz.prog 48 0 0 1 false := FO.of U48 rfl rfl (by kernel_rfl) U9 rfl rfl
theorem fo48_1 : FO Tryz.prog 48 1 1 1 false := FO.of U48 rfl rfl (by kernel_rfl) U9 rfl rfl
theorem fo115_0 : FO Tryz.prog 115 0 0 1 false := FO.of U115 rfl rfl (by kernel_rfl) U110 rfl rfl
theorem From_it : ∀ (d : Nat) (nd : C) (lo : Str8) (b1 b2 : Nat) (B : Frag), TrB B d nd → Ok 90 d nd → Ord (io d nd) → FromIt d nd lo b1 b2 B := by
  intro d
  induction d with
  | zero => intro nd lo b1 b2 B h; exact h.elim
  | succ d ih => intro nd lo b1 b2 B h1 h2 h3; exact From_step d (fun nd lo b1 b2 B => ih nd lo b1 b2 B) nd lo b1 b2 B h1 h2 h3
def hasB (lo hi k : Str8) : Bool := !bless k lo && (decide (hi = []) || bless k hi)
def inS (lo hi : Str8) (l : List (Str8 × Str8)) : List (Str8 × Str8) := l.filter fun p => hasB lo hi p.1
theorem inS_from (lo hi : Str8) (l : List (Str8 × Str8)) : inS lo hi (fromL lo l) = inS lo hi l := by
  unfold inS fromL
  rw [List.filter_filter]
  refine congrArg (fun f => List.filter f l) (funext fun p => ?_)
  unfold hasB
  cases bless p.1 lo <;> simp
theorem inS_app (lo hi : Str8) (a b : List (Str8 × Str8)) : inS lo hi (a ++ b) = inS lo hi a ++ inS lo hi b := List.filter_append ..
theorem inS_all {lo hi : Str8} {l : List (Str8 × Str8)} (h : ∀ p ∈ l, hasB lo hi p.1 = true) : inS lo hi l = l := List.filter_eq_self.2 h
theorem inS_cons {lo hi : Str8} {p : Str8 × Str8} {l : List (Str8 × Str8)} (h : hasB lo hi p.1 = true) : inS lo hi (p :: l) = p :: inS lo hi l := by
  unfold inS; simp [List.filter_cons, h]
theorem inS_stop {lo hi : Str8} {x : Str8 × Str8} {post : List (Str8 × Str8)} (ho : Ord (x :: post)) (hx : bless x.1 lo = false) (hn : hasB lo hi x.1 = false) : inS lo hi (x :: post) = [] := by
  unfold inS
  rw [List.filter_eq_nil_iff]
  obtain ⟨h1, _⟩ := List.pairwise_cons.1 ho
  have hh : decide (hi = []) = false ∧ bless x.1 hi = false := by
    unfold hasB at hn
    rw [hx] at hn
    simpa using hn
  intro p hp
  rcases List.mem_cons.1 hp with rfl | hp
  · rw [hn]; decide
  · unfold hasB
    rw [hh.1]
    cases hb : bless p.1 hi with
    | false => simp
    | true => have := bless_trans (h1 p hp) hb; rw [hh.2] at this; cases this
theorem ord_from {lo : Str8} {l : List (Str8 × Str8)} (h : Ord l) : Ord (fromL lo l) := List.Pairwise.filter _ h
theorem from_mem {lo : Str8} {l : List (Str8 × Str8)} {p : Str8 × Str8} (h : p ∈ fromL lo l) : bless p.1 lo = false := by
  have := (List.mem_filter.1 h).2; simpa using this
set_option maxHeartbeats 1000000 in
theorem Has_ct (lo hi k : Str8) (B : Frag) : CtP Tryz.prog 89 [.agg [str lo, str hi].toArray, str k] B (.bool (hasB lo hi k)) := by
 refine CtB.of_body Tryz.func89 rfl (nt := 20) rfl (by kernel_rfl) rfl ?_
 intro N0 w0 R
 refine Cx.seq (fun K1 k1 => ?_)
 refine Cx.region ?_
 refine Lx.new (boxA rfl) rfl (fun b2 => ?_)
 refine Lx.y (asg rfl) rfl <| Lx.nil <| ?_
 refine Xx.tn (k1 _ _ _ _ ?_)
 refine Cx.seq (fun K2 k2 => ?_)
 refine Cx.region <| Lx.y (mv rfl) rfl <| Lx.y (fa' fo48_0 rfl) rfl <| Lx.y (ld U9 rfl rfl rfl) rfl <| Lx.y (geqS rfl rfl) rfl <| Lx.y (mv rfl) rfl <| ?_
 refine Xx.ifB (t := 9) rfl (fun h3 => ?_) (fun h3 => ?_)
 ·
  have g1 := h3
  refine Lx.gT rfl rfl rfl <| Lx.y (fa' fo48_1 rfl) rfl <| Lx.gT rfl rfl rfl <| Lx.y (ld U9 rfl rfl rfl) rfl <| Lx.gT rfl rfl rfl <| Lx.y (eqS rfl rfl) rfl <| Lx.gT rfl rfl rfl <| Lx.y (mv rfl) rfl <| ?_
  refine Xx.ifD (t := 13) rfl (fun h4 => ?_) (fun h4 => ?_)
  ·
   have g2 := h4
   refine Lx.gF rfl rfl rfl rfl <| Lx.gF rfl rfl rfl rfl <| Lx.gF rfl rfl rfl rfl <| Lx.gF rfl rfl rfl rfl <| Lx.gT rfl rfl rfl <| Lx.y (pickT rfl rfl) rfl <| Lx.y (pickT rfl rfl) rfl <| Lx.y (asg rfl) rfl <| Lx.nil <| ?_
   refine Xx.tn (k2 _ _ _ _ ?_)
   refine Cx.ret ?_
   exact Xx.dropB b2 (Xx.rB1 rfl rfl ⟨congrArg Value.bool (by unfold hasB; simp_all), rfl⟩ (Frag.le_refl _) rfl)
  ·
   have g2 := h4
   refine Lx.gT rfl rfl rfl <| Lx.y (mv rfl) rfl <| Lx.gT rfl rfl rfl <| Lx.y (fa' fo48_1 rfl) rfl <| Lx.gT rfl rfl rfl <| Lx.y (ld U9 rfl rfl rfl) rfl <| Lx.gT rfl rfl rfl <| Lx.y (lssS rfl rfl) rfl <| Lx.gT rfl rfl rfl <| Lx.y (pickF rfl rfl) rfl <| Lx.y (pickT rfl rfl) rfl <| Lx.y (asg rfl) rfl <| ?_
   refine Lx.nil ?_
   refine Xx.tn (k2 _ _ _ _ ?_)
   refine Cx.ret ?_
   exact Xx.dropB b2 (Xx.rB1 rfl rfl ⟨congrArg Value.bool (by unfold hasB; simp_all), rfl⟩ (Frag.le_refl _) rfl)
 ·
  have g1 := h3
  refine Lx.gF rfl rfl rfl rfl <| Lx.gF rfl rfl rfl rfl <| Lx.gF rfl rfl rfl rfl <| Lx.gF rfl rfl rfl rfl <| Lx.gU rfl rfl rfl rfl <| Lx.gU rfl rfl rfl rfl <| Lx.gU rfl rfl rfl rfl <| Lx.gU rfl rfl rfl rfl <| Lx.gF rfl rfl rfl rfl <| Lx.y (pickF rfl rfl) rfl <| Lx.y (asg rfl) rfl <| Lx.nil <| ?_
  refine Xx.tn (k2 _ _ _ _ ?_)
  refine Cx.ret ?_
  exact Xx.dropB b2 (Xx.rB1 rfl rfl ⟨congrArg Value.bool (by unfold hasB; simp_all), rfl⟩ (Frag.le_refl _) rfl)
set_option maxHeartbeats 4000000 in
theorem Range_it (d : Nat) (nd : C) (tb : Nat) (n : Int) (fz : Nat × Nat) (lo hi : Str8) (B : Frag) (hT : B tb = some (.cells [pt nd, i64 n].toArray 115 fz)) (hR : TrB B (d + 1) nd) (hok : Ok 90 (d + 1) nd) (ho : Ord (io (d + 1) nd)) (b1 b2 : Nat) (h1 : B b1 = some (.cells [.pointer (some ⟨tb, 0, none⟩)].toArray 83 (0, 0))) (h2 : B b2 = some (.cells [str lo, str hi].toArray 48 (0, 0))) : It Tryz.prog 87 [.pointer (some ⟨b1, 0, none⟩), .pointer (some ⟨b2, 0, none⟩)] kv (inS lo hi (io (d + 1) nd)) B 1 := by
 refine ⟨Go.SL.enters_of Tryz.func87 rfl (by kernel_rfl), fun lp J Jx hy Bz Hz hBz hJ0 => ?_⟩
 have h1 := hBz _ _ h1
 have h2 := hBz _ _ h2
 have hT := hBz _ _ hT
 have hR2 := hR.mono hBz
 have hxs0 := inS_from lo hi (io (d + 1) nd)
 refine Ct.of_bodyM Tryz.func87 rfl (nt := 28) rfl (by kernel_rfl) rfl ?_
 intro N0 w0 R
 rw [one_star]
 refine Cx.seq (fun K1 k1 => ?_)
 refine Cx.region ?_
 refine Lx.new (boxO rfl rfl) rfl (fun b3 => ?_)
 refine Lx.nil ?_
 refine Xx.tn (k1 _ _ _ _ ?_)
 refine Cx.seq (fun K2 k2 => ?_)
 refine Cx.seq (fun K3 k3 => ?_)
 refine Cx.region <| Lx.y (ldB U83 rfl rfl (by first | exact h1 | exact hB _ _ h1) rfl) rfl <| Lx.y (Yx.ff (eqNilP U83 rfl rfl) rfl) rfl <| Lx.nil <| ?_
 refine Xx.tn (k3 _ _ _ _ ?_)
 refine Cx.condF rfl <| Cx.skip <| ?_
 refine Xx.tn (k2 _ _ _ _ ?_)
 refine Cx.seq (fun K4 k4 => ?_)
 refine Cx.drawn (by kernel_rfl) ?_
 refine Dx.r (i := 0) rfl (by kernel_rfl) (ldB U83 rfl rfl (by first | exact h1 | exact hB _ _ h1) rfl) rfl ?_
 refine Dx.p (i := 1) rfl (by kernel_rfl) (nilc rfl) rfl ?_
 refine Dx.p (i := 2) rfl (by kernel_rfl) (fa' fo115_0 rfl) rfl ?_
 refine Dx.r (i := 3) rfl (by kernel_rfl) (ldB U110 rfl rfl (by first | exact hT | exact hB _ _ hT) rfl) rfl ?_
 refine Dx.p (i := 4) rfl (by kernel_rfl) (fa' fo48_0 rfl) rfl ?_
 refine Dx.r (i := 5) rfl (by kernel_rfl) (ldB U9 rfl rfl (by first | exact h2 | exact hB _ _ h2) rfl) rfl ?_
 refine Dx.one (i := 6) (by kernel_rfl) ?_
 refine Dstep.o (i := 6) rfl (Ox.call rfl rfl rfl (From_ct nd lo _) ((one_star _).symm)) rfl (fun v B' H' hΦ hB => ?_)
 obtain ⟨_, rfl, hΦ⟩ := hΦ
 obtain ⟨hBB, b4, b5, rfl, rfl⟩ := hΦ
 have hBB2 := hBB.symm
 subst hBB2
 refine ⟨JOk.edge (JOk.edge (JOk.yes (JOk.top) (ldB U83 rfl rfl (by first | exact h1 | exact hB _ _ h1) rfl)) (by kernel_rfl)) (by kernel_rfl), ?_⟩
 refine Dx.done (by kernel_rfl) ?_
 refine Xx.tn (k4 _ _ _ _ ?_)
 refine Cx.block ?_
 refine Cx.rangeK (σ := _) (Sc 2 rfl (Sc 3 rfl (Sub.nil _))) rfl rfl (From_it (d + 1) nd lo b4 b5 Bz hR2 hok ho) (show _ = (row b4 110 [pt nd] * row b5 9 [str lo]) * ((row b3 89 [.func (.yield lp) #[] #[]] * Hz) * R) by ac_rfl) rfl (fun _ => rfl) (fun pre B' H' => ∃ Hj, J pre B' Hj ∧ (∀ p ∈ pre, hasB lo hi p.1 = true) ∧ H' = row b3 89 [.func (.yield lp) #[] #[]] * Hj) (fun cd pre B' H' => cd = .ret ∧ ∃ Hj, H' = row b3 89 [.func (.yield lp) #[] #[]] * Hj ∧ (J (inS lo hi (io (d + 1) nd)) B' Hj ∨ ∃ pre post, (inS lo hi (io (d + 1) nd)) = pre ++ post ∧ Jx pre B' Hj)) (fun pre x B1 ρ' B' H' => ∃ Hj, ρ' = [(4, str x.1), (5, str x.2)] ∧ B' = B1 ∧ J pre B' Hj ∧ (∀ p ∈ pre, hasB lo hi p.1 = true) ∧ H' = row b3 89 [.func (.yield lp) #[] #[]] * Hj) (⟨Hz, hJ0, fun _ hp => absurd hp List.not_mem_nil, rfl⟩) ?_ ?_ ?_ ?_
 ·rintro lz Nz wz pre x post B1 H1 F K hxs hB1 hJ hK
  obtain ⟨Hj, hJj, hall, rfl⟩ := hJ
  refine Cx.seq (fun K5 k5 => ?_)
  refine Cx.region <| Lx.y (asg rfl) rfl <| Lx.nil <| ?_
  refine Xx.tn (k5 _ _ _ _ ?_)
  refine Cx.region <| Lx.y (asg rfl) rfl <| Lx.nil <| ?_
  refine Xx.tn ?_
  exact Xx.sub (hK _ _ _ ⟨Hj, rfl, rfl, hJj, hall, rfl⟩ (Frag.le_refl _)) (Sc 4 rfl (Sc 5 rfl (Sc 2 rfl (Sc 3 rfl (Sub.nil _)))))
 ·rintro lz Nz wz pre x post B1 F ρ' B' H' hxs hB1 hBx hAS
  obtain ⟨Hj, rfl, hBB, hJj, hall, rfl⟩ := hAS
  subst hBB
  rename Frag => B6
  clear hBx
  simp only [star_assoc]
  have hb2 := hB1 _ _ h2
  have hxp : (inS lo hi (io (d + 1) nd)) = pre ++ inS lo hi (x :: post) := by rw [← hxs0, hxs, inS_app, inS_all hall]
  have hox : Ord (x :: post) := by have := ord_from (lo := lo) ho; rw [hxs] at this; exact Ord.right this
  have hxl : bless x.1 lo = false := from_mem (l := (io (d + 1) nd)) (by rw [hxs]; simp)
  refine Cx.block ?_
  refine Cx.seq (fun K6 k6 => ?_)
  refine Cx.region <| Lx.y (ldA U48 rfl sz48 rfl (Cells.base (n := 2) hb2 rfl) rfl) rfl <| Lx.y (mv rfl) rfl <| ?_
  refine Lx.cp rfl rfl rfl (Has_ct lo hi x.1 _) rfl ?_
  refine Lx.y (not' rfl) rfl <| Lx.y (mv rfl) rfl <| ?_
  refine Xx.ifB (t := 21) rfl (fun h7 => ?_) (fun h7 => ?_)
  ·
   have hout : hasB lo hi x.1 = false := by simpa using h7
   refine Lx.gF rfl rfl rfl rfl <| Lx.gF rfl rfl rfl rfl <| Lx.gF rfl rfl rfl rfl <| Lx.gF rfl rfl rfl rfl <| Lx.gF rfl rfl rfl rfl <| Lx.y (pickT rfl rfl) rfl <| Lx.nil <| ?_
   refine Xx.tn (k6 _ _ _ _ ?_)
   refine Cx.condT rfl <| Cx.ret <| ?_
   refine Xx.br ?_
   exact Xx.rqr ⟨rfl, Hj, rfl, .inl (by rw [hxp, inS_stop hox hxl hout, List.append_nil]; exact hJj)⟩ (Frag.le_refl _) (by ac_rfl)
  ·
   have hin : hasB lo hi x.1 = true := by simpa using h7
   refine Lx.gT rfl rfl rfl <| Lx.y (ld U89 rfl rfl rfl) rfl <| Lx.gT rfl rfl rfl <| Lx.y (mv rfl) rfl <| Lx.gT rfl rfl rfl <| Lx.y (mv rfl) rfl <| Lx.gT rfl rfl rfl <| ?_
   refine Lx.yield rfl rfl (hy pre x (inS lo hi post) B6 Hj (by rw [hxp, inS_cons hin]) (Frag.le_trans hBz hB1) hJj) (star_left _ _ _) rfl ?_
   rintro t B7 H7 hΦ hB7
   refine Lx.gT rfl rfl rfl <| Lx.y (not' rfl) rfl <| Lx.y (pickF rfl rfl) rfl <| Lx.nil <| ?_
   refine Xx.tn (k6 _ _ _ _ ?_)
   refine Cx.condB rfl (fun h8 => ?_) (fun h8 => ?_)
   ·
    obtain ⟨_, hΦ⟩ : t = false ∧ Jx (pre ++ [x]) B7 H7 := by simpa [show t = false by simpa using h8] using hΦ
    refine Cx.ret ?_
    refine Xx.br ?_
    exact Xx.rqr ⟨rfl, _, rfl, .inr ⟨_, inS lo hi post, by rw [hxp, inS_cons hin]; simp, hΦ⟩⟩ hB7 (by ac_rfl)
   ·
    obtain ⟨_, hΦ⟩ : t = true ∧ J (pre ++ [x]) B7 H7 := by simpa [show t = true by simpa using h8] using hΦ
    refine Cx.skip <| Xx.bn <| ?_
    exact Xx.rqn ⟨_, hΦ, fun p hp => by rcases List.mem_append.1 hp with h | h; exact hall p h; rw [List.mem_singleton.1 h]; exact hin, rfl⟩ hB7 (by ac_rfl)
 ·rintro D B' H' hBx hJ
  obtain ⟨Hc, hJc, hall, rfl⟩ := hJ
  simp only [star_assoc]
  refine Xx.dropB b4 (Xx.dropB b5 ?_)
  refine Xx.bn ?_
  refine Xx.dropB b3 ?_
  exact Xx.eM [D] rfl (fun a w f _ => results_none rfl _ _ _) ⟨Hc, (one_star _).symm, .inl (by rw [← hxs0, inS_all hall]; exact hJc)⟩ hBx (by rw [marks_cons, marks_nil, star_one]; ac_rfl)
 ·rintro D c pre post B' H' hxs hBx hJx
  obtain ⟨rfl, Hc, rfl, hJc⟩ := hJx
  simp only [star_assoc]
  refine Cx.ret ?_
  refine Xx.br ?_
  refine Xx.dropB b3 (Xx.dropB b4 (Xx.dropB b5 ?_))
  exact Xx.rM (Ds := [D]) (fun a w f _ => results_none rfl _ _ _) ⟨Hc, (one_star _).symm, hJc⟩ hBx (by rw [marks_cons, marks_nil, star_one]; ac_rfl)
end BtS
end Go.Proofs.YtdidpocakipinaaGreatDoor
namespace Go.Proofs.YtdidpocakipinaaGreatDoor
open Go.SL Go.RowKit
set_option maxRecDepth 100000
open Ke1 Ke3 Ke4 Ke5 Ke6 Ke7 Ke8 Ke9 KeA KeB KeC KeD KeE KeF KeG KeI RgA RgB BtB BtC BtD BtE BtG BtX BtH BtI BtF BtJ BtK BtL BtM BtN BtO BtR BtY BtZ DrA DrB DrC DrD DrE DrF RwA RwB BtQ BtS RwC RwD RwE RwF
namespace RwG
theorem sz5 : (Tryz.prog.info? 5).map (·.size) = some 1 := by kernel_rfl
theorem sz9 : (Tryz.prog.info? 9).map (·.size) = some 1 := by kernel_rfl
theorem sz25 : (Tryz.prog.info? 25).map (·.size) = some 6 := by kernel_rfl
theorem sz36 : (Tryz.prog.info? 36).map (·.size) = some 8 := by kernel_rfl
theorem sz48 : (Tryz.prog.info? 48).map (·.size) = some 2 := by kernel_rfl
theorem ti48 : TI Tryz.prog 48 [str [], str []] 2 32 := TI.of (by kernel_rfl) rfl rfl
theorem fo87_1 : FO Tryz.prog 87 1 1 1 false := FO.of U87 rfl rfl (by kernel_rfl) U83 rfl rfl
theorem fo87_2 : FO Tryz.prog 87 2 2 1 false := FO.of U87 rfl rfl (by kernel_rfl) U85 rfl rfl
theorem pl48 : PL Tryz.prog 48 [(0, 1), (1, 1)] := PL.of U48 (by kernel_rfl)
theorem num_step (n : BitVec 64) {i : Nat} (h : i < 8) : ((n >>> (8 * (8 - i))) <<< 8) ||| BitVec.ofInt 64 (((numB n i).toNat : Nat) : Int) = n >>> (8 * (7 - i)) := by
  obtain ⟨k, hk⟩ : ∃ k, k = 8 * (7 - i) := ⟨_, rfl⟩
  rw [show 8 * (8 - i) = k + 8 by omega, ← hk]
  unfold numB
  rw [← hk]
  have e : (toB (((n >>> k).toNat : Nat) : Int)).toNat = (n >>> k).toNat % 2 ^ 8 := by
    unfold toB
    rw [UInt8.toNat_ofNat']
    omega
  rw [e, BitVec.ofInt_natCast]
  apply BitVec.eq_of_getLsbD_eq
  intro j hj
  simp only [BitVec.getLsbD_or, BitVec.getLsbD_shiftLeft, BitVec.getLsbD_ushiftRight, BitVec.getLsbD_ofNat, Nat.testBit_mod_two_pow, BitVec.toNat_ushiftRight, Nat.testBit_shiftRight, hj, decide_true, Bool.true_and]
  by_cases hj8 : j < 8
  · simp [hj8, BitVec.getLsbD]
  · simp [hj8, show k + 8 + (j - 8) = k + j by omega]
theorem num_zero (n : BitVec 64) : n >>> (8 * (8 - 0)) = 0 := by
  apply BitVec.eq_of_toNat_eq
  rw [BitVec.toNat_ushiftRight, Nat.shiftRight_eq_div_pow]
  have := n.isLt
  simp; omega
theorem num_cell {n : BitVec 64} {i c : Nat} (h : i < 8) : (cells (numL n) c)[0 + i * 1]? = some (.int .u8 (((numB n i).toNat : Nat) : Int)) := by
  rw [cells_get (by simpa using h)]
  unfold numL
  simp [List.getD, h]
set_option maxHeartbeats 1000000 in
theorem number_ct (p : List UInt8) (n : BitVec 64) (B : Frag) (hp : p.length ≤ 4611686018427387904) : CtP Tryz.prog 70 [str (p ++ numL n)] B (u64 n) := by
 have hl : (p ++ numL n).length = p.length + 8 := by simp
 have hdr : (p ++ numL n).drop p.length = numL n := List.drop_left
 refine CtB.of_body Tryz.func70 rfl (nt := 24) rfl (by kernel_rfl) rfl ?_
 intro N0 w0 R
 refine Cx.seq (fun K1 k1 => ?_)
 refine Cx.region <| Lx.y (asg rfl) rfl <| Lx.nil <| ?_
 refine Xx.tn (k1 _ _ _ _ ?_)
 refine Cx.seq (fun K2 k2 => ?_)
 refine Cx.region <| Lx.y (asg rfl) rfl <| Lx.nil <| ?_
 refine Xx.tn (k2 _ _ _ _ ?_)
 refine Cx.seq (fun K3 k3 => ?_)
 refine Cx.seq (fun K4 k4 => ?_)
 refine Cx.region <| Lx.y (mv rfl) rfl <| Lx.y (mv rfl) rfl <| Lx.y (lenS U9 rfl) rfl <| Lx.y (Yx.val (sub rfl rfl (show IntKind.i64.wrap _ = ((p.length : Nat) : Int) by rw [wrap64 (by rw [hl]; omega) (by rw [hl]; omega), hl]; omega)) (show _ = i64 ((p.length : Nat) : Int) from rfl)) rfl <| Lx.y (Yx.val (sl1S U9 rfl rfl (Int.toNat_natCast _) (by omega) (by rw [hl]; omega)) (show _ = str (numL n) by rw [hdr])) rfl <| ?_
 refine Lx.o (s2bO U9 U106 U5 rfl) rfl (fun v B' H' hΦ hB => ?_)
 obtain ⟨b9, c9, rfl, hc9, hBB, rfl⟩ := hΦ
 subst hBB
 rename Frag => B
 clear hB
 refine Lx.y (Yx.val (lenV (ty' := 0) U106 rfl) (show _ = i64 ((8 : Nat) : Int) from rfl)) rfl <| Lx.y (mv rfl) rfl <| Lx.nil <| ?_
 refine Xx.tn (k4 _ _ _ _ ?_)
 refine Cx.block ?_
 refine Cx.loopK (Sc 0 rfl (Sc 2 rfl (Sc 6 rfl (Sc 7 rfl (Sc 8 rfl (Sc 9 rfl (Sc 10 rfl (Sc 11 rfl (Sc 12 rfl (Sub.nil _)))))))))) (fun m ρ' B' H' => ∃ (i : Nat), (i ≤ 8) ∧ m = 8 - i ∧ ρ' = [(3, u64 (n >>> (8 * (8 - i)))), (13, i64 i)] ∧ B = B' ∧ blk b9 (.cells (cells (numL n) c9).toArray 5 (c9, c9 + 1)) * R = H') ⟨0, Nat.zero_le _, rfl, rfl, rfl, rfl⟩ (Sub.consE (s := 3) rfl (by rw [num_zero]; rfl) (Sc 13 rfl (Sc 0 rfl (Sc 2 rfl (Sc 6 rfl (Sc 7 rfl (Sc 8 rfl (Sc 9 rfl (Sc 10 rfl (Sc 11 rfl (Sc 12 rfl (Sub.nil _)))))))))))) ?_
 rintro m ρ' B' H' ⟨i, hi, rfl, rfl, rfl, rfl⟩
 refine Cx.seq (fun K5 k5 => ?_)
 refine Cx.region <| Lx.y (lss rfl rfl) rfl <| Lx.nil <| ?_
 refine Xx.tn (k5 _ _ _ _ ?_)
 refine Cx.seq (fun K6 k6 => ?_)
 refine Cx.condD rfl (fun h7 => ?_) (fun h7 => ?_)
 ·
  have hi8 := h7
  have hi8 : i < 8 := by omega
  refine Cx.skip ?_
  refine Xx.tn (k6 _ _ _ _ ?_)
  refine Cx.seq (fun K8 k8 => ?_)
  refine Cx.block ?_
  refine Cx.seq (fun K9 k9 => ?_)
  refine Cx.region <| Lx.y (ia U106 sz5 rfl rfl (Int.toNat_natCast _) (by omega) (by show ((i : Nat) : Int) < ((numL n).length : Nat); rw [numL_len]; omega)) rfl <| Lx.y (ld (v := .int .u8 (((numB n i).toNat : Nat) : Int)) U5 rfl rfl (num_cell hi8)) rfl <| Lx.y (asg rfl) rfl <| Lx.nil <| ?_
  refine Xx.tn (k9 _ _ _ _ ?_)
  refine Cx.region <| Lx.y (mv rfl) rfl <| Lx.y (shlW64 (c := 8) rfl rfl rfl) rfl <| Lx.y (mv rfl) rfl <| Lx.y (cvW64 rfl U5 U34) rfl <| Lx.y (orW64 rfl rfl) rfl <| Lx.y (asg rfl) rfl <| Lx.nil <| Xx.bn <| ?_
  refine Xx.tn (k8 _ _ _ _ ?_)
  refine Cx.region <| Lx.y (Yx.val (add rfl rfl (by first | exact wrap64 (by omega) (by omega) | rfl)) (show _ = i64 ((i + 1 : Nat) : Int) from rfl)) rfl <| Lx.y (mv rfl) rfl <| Lx.nil <| ?_
  exact Xx.againK ⟨i + 1, by omega, rfl, rfl, rfl, rfl⟩ (by omega) (Sub.consE (s := 3) rfl (by rw [show 8 * (8 - (i + 1)) = 8 * (7 - i) by omega]; exact congrArg u64 (num_step n hi8)) (Sc 13 rfl (Sc 0 rfl (Sc 2 rfl (Sc 6 rfl (Sc 7 rfl (Sc 8 rfl (Sc 9 rfl (Sc 10 rfl (Sc 11 rfl (Sc 12 rfl (Sub.nil _))))))))))))
 ·
  have hi8 := h7
  obtain rfl : i = 8 := by omega
  refine Cx.exit <| Xx.te <| Xx.te <| Xx.bh <| ?_
  refine Xx.tn (k3 _ _ _ _ ?_)
  refine Cx.seq (fun K10 k10 => ?_)
  refine Cx.region <| Lx.y (mv rfl) rfl <| Lx.y (asg rfl) rfl <| Lx.nil <| ?_
  refine Xx.tn (k10 _ _ _ _ ?_)
  refine Cx.ret ?_
  refine Xx.dropB b9 ?_
  exact Xx.rB1 rfl rfl ⟨by rw [show 8 * (8 - 8) = 0 from rfl]; rfl, rfl⟩ (Frag.le_refl _) rfl
set_option maxHeartbeats 1000000 in
theorem All_ct (B : Frag) : CtP Tryz.prog 45 [] B (.agg [str [], str []].toArray) := by
 refine CtB.of_body Tryz.func45 rfl (nt := 2) rfl (by kernel_rfl) rfl ?_
 intro N0 w0 R
 refine Cx.seq (fun K1 k1 => ?_)
 refine Cx.region ?_
 refine Lx.new (allocO ti48) rfl (fun b0 => ?_)
 refine Lx.nil ?_
 refine Xx.tn (k1 _ _ _ _ ?_)
 refine Cx.seq (fun K2 k2 => ?_)
 refine Cx.region <| Lx.y (bld ti48 pl48 rfl rfl) rfl <| ?_
 refine Lx.st (stA (d := .bool) sz48 rfl rfl rfl rfl (by show 0 + 2 ≤ 2; omega) rfl) ?_
 refine Lx.nil ?_
 refine Xx.tn (k2 _ _ _ _ ?_)
 refine Cx.ret ?_
 exact Xx.rBa rfl U48 rfl sz48 rfl rfl ⟨rfl, rfl⟩ (Frag.le_refl _)
def DoV (B : Frag) (rp tp : Option Addr) (lo hi : List UInt8) (v : Value) : Prop := ∃ b1 b2 b3, v = .func (.func 68) #[] [.pointer (some ⟨b1, 0, none⟩), .pointer (some ⟨b2, 0, none⟩), .pointer (some ⟨b3, 0, none⟩)].toArray ∧ B b1 = some (.cells [.pointer rp].toArray 31 (0, 0)) ∧ B b2 = some (.cells [.pointer tp].toArray 83 (0, 0)) ∧ B b3 = some (.cells [str lo, str hi].toArray 48 (0, 0))
set_option maxHeartbeats 1000000 in
theorem docsOf_ct (rp tp : Option Addr) (lo hi : List UInt8) (B : Frag) : CtB Tryz.prog 43 [.pointer rp, .pointer tp, .agg [str lo, str hi].toArray] B (fun v B' => DoV B' rp tp lo hi v) := by
 refine CtB.of_body Tryz.func43 rfl (nt := 8) rfl (by kernel_rfl) rfl ?_
 intro N0 w0 R
 refine Cx.seq (fun K1 k1 => ?_)
 refine Cx.region ?_
 refine Lx.new (boxO rfl rfl) rfl (fun b1 => ?_)
 refine Lx.new (boxO rfl rfl) rfl (fun b2 => ?_)
 refine Lx.new (boxA rfl) rfl (fun b3 => ?_)
 refine Lx.y (asg rfl) rfl <| Lx.nil <| ?_
 refine Xx.tn (k1 _ _ _ _ ?_)
 refine Cx.seq (fun K2 k2 => ?_)
 refine Cx.region <| Lx.y (mkf rfl rfl) rfl <| Lx.y (asg rfl) rfl <| Lx.nil <| ?_
 refine Xx.tn (k2 _ _ _ _ ?_)
 refine Cx.ret ?_
 refine Xx.freezeB b1 fun B2 hB2 hb1 => ?_
 refine Xx.freezeB b2 fun B3 hB3 hb2 => ?_
 refine Xx.freezeB b3 fun B4 hB4 hb3 => ?_
 exact Xx.rB1 rfl rfl ⟨b1, b2, b3, rfl, hB4 _ _ (hB3 _ _ hb1), hB4 _ _ hb2, hb3⟩ (Frag.le_trans hB2 (Frag.le_trans hB3 hB4)) rfl
set_option maxHeartbeats 1000000 in
theorem RAll_ro (T : Tb) (B : Frag) (hR : RtB B T) : CtB Tryz.prog 21 [.pointer (some ⟨T.b, 0, none⟩)] B (fun v B' => DoV B' (some ⟨T.b, 0, none⟩) (some ⟨T.ob, 0, none⟩) [] [] v) := by
 obtain ⟨⟨fz, hrow⟩, _⟩ := hR
 refine CtB.of_body Tryz.func21 rfl (nt := 12) rfl (by kernel_rfl) rfl ?_
 intro N0 w0 R
 refine Cx.seq (fun K1 k1 => ?_)
 refine Cx.region <| Lx.y (asg rfl) rfl <| Lx.nil <| ?_
 refine Xx.tn (k1 _ _ _ _ ?_)
 refine Cx.seq (fun K2 k2 => ?_)
 refine Cx.seq (fun K3 k3 => ?_)
 refine Cx.region <| Lx.y (mv rfl) rfl <| Lx.y (Yx.ff (eqNilP U31 rfl rfl) rfl) rfl <| Lx.nil <| ?_
 refine Xx.tn (k3 _ _ _ _ ?_)
 refine Cx.condF rfl <| Cx.skip <| ?_
 refine Xx.tn (k2 _ _ _ _ ?_)
 refine Cx.seq (fun K4 k4 => ?_)
 refine Cx.drawn (by kernel_rfl) ?_
 refine Dx.p (i := 0) rfl (by kernel_rfl) (mv rfl) rfl ?_
 refine Dx.p (i := 1) rfl (by kernel_rfl) (mv rfl) rfl ?_
 refine Dx.p (i := 2) rfl (by kernel_rfl) (nilc rfl) rfl ?_
 refine Dx.p (i := 3) rfl (by kernel_rfl) (fa' fo87_1 rfl) rfl ?_
 refine Dx.r (i := 4) rfl (by kernel_rfl) (ldB U83 rfl rfl (by first | exact hrow | exact hB _ _ hrow) rfl) rfl ?_
 refine Dx.one (i := 5) (by kernel_rfl) ?_
 refine Dstep.o (i := 5) rfl (Ox.cb rfl rfl rfl (All_ct _)) rfl (fun v B' H' hΦ hB => ?_)
 obtain ⟨rfl, rfl, rfl⟩ := hΦ; clear hB
 refine ⟨JOk.yes (JOk.top) (ldB U83 rfl rfl (by first | exact hrow | exact hB _ _ hrow) rfl), ?_⟩
 refine Dx.one (i := 6) (by kernel_rfl) ?_
 refine Dstep.o (i := 6) rfl (Ox.cb rfl rfl rfl (docsOf_ct _ _ _ _ _)) rfl (fun v B' H' hΦ hB => ?_)
 obtain ⟨rfl, hΦ⟩ := hΦ
 have hDo := hΦ
 refine ⟨JOk.edge (JOk.top) (by kernel_rfl), ?_⟩
 refine Dx.p (i := 7) rfl (by kernel_rfl) (asg rfl) rfl ?_
 refine Dx.done (by kernel_rfl) ?_
 refine Xx.tn (k4 _ _ _ _ ?_)
 refine Cx.ret ?_
 exact Xx.rB1 rfl rfl hDo hB rfl
set_option maxHeartbeats 1000000 in
theorem RRange_ro (T : Tb) (f lo hi : List UInt8) (B : Frag) (hR : RtB B T) : CtB Tryz.prog 19 [.pointer (some ⟨T.b, 0, none⟩), str f, .agg [str lo, str hi].toArray] B (fun v B' => DoV B' (some ⟨T.b, 0, none⟩) (lookX f T.xs) lo hi v) := by
 obtain ⟨⟨fz, hrow⟩, _, ⟨Mx, cx, hsx, hlx, hBx⟩, _⟩ := hR
 refine CtB.of_body Tryz.func19 rfl (nt := 18) rfl (by kernel_rfl) rfl ?_
 intro N0 w0 R
 refine Cx.seq (fun K1 k1 => ?_)
 refine Cx.region ?_
 refine Lx.new (boxA rfl) rfl (fun b0 => ?_)
 refine Lx.y (asg rfl) rfl <| Lx.nil <| ?_
 refine Xx.tn (k1 _ _ _ _ ?_)
 refine Cx.seq (fun K2 k2 => ?_)
 refine Cx.seq (fun K3 k3 => ?_)
 refine Cx.region <| Lx.y (mv rfl) rfl <| Lx.y (Yx.ff (eqNilP U31 rfl rfl) rfl) rfl <| Lx.nil <| ?_
 refine Xx.tn (k3 _ _ _ _ ?_)
 refine Cx.condF rfl <| Cx.skip <| ?_
 refine Xx.tn (k2 _ _ _ _ ?_)
 refine Cx.seq (fun K4 k4 => ?_)
 refine Cx.drawn (by kernel_rfl) ?_
 refine Dx.p (i := 0) rfl (by kernel_rfl) (mv rfl) rfl ?_
 refine Dx.p (i := 1) rfl (by kernel_rfl) (mv rfl) rfl ?_
 refine Dx.p (i := 2) rfl (by kernel_rfl) (nilc rfl) rfl ?_
 refine Dx.p (i := 3) rfl (by kernel_rfl) (fa' fo87_2 rfl) rfl ?_
 refine Dx.r (i := 4) rfl (by kernel_rfl) (ldB U85 rfl rfl (by first | exact hrow | exact hB _ _ hrow) rfl) rfl ?_
 refine Dx.p (i := 5) rfl (by kernel_rfl) (mv rfl) rfl ?_
 refine Dx.r (i := 6) rfl (by kernel_rfl) (lkL (κ := List UInt8) (k := f) (by first | exact MapL.ro hBx hsx hlx | exact MapL.ro (hB _ _ hBx) hsx hlx) U85 U9 Tryz.zeroValue83 rfl rfl (lookX_get f T.xs)) rfl ?_
 refine Dx.r (i := 7) rfl (by kernel_rfl) (ldA U48 rfl sz48 rfl (Cells.own (n := 2) PickB.eq rfl) rfl) rfl ?_
 refine Dx.one (i := 8) (by kernel_rfl) ?_
 refine Dstep.o (i := 8) rfl (Ox.cb rfl rfl rfl (docsOf_ct _ _ _ _ _)) rfl (fun v B' H' hΦ hB => ?_)
 obtain ⟨rfl, hΦ⟩ := hΦ
 have hDo := hΦ
 refine ⟨JOk.edge (JOk.edge (JOk.yes (JOk.top) (ldB U85 rfl rfl (by first | exact hrow | exact hB _ _ hrow) rfl)) (by kernel_rfl)) (by kernel_rfl), ?_⟩
 refine Dx.p (i := 9) rfl (by kernel_rfl) (asg rfl) rfl ?_
 refine Dx.done (by kernel_rfl) ?_
 refine Xx.tn (k4 _ _ _ _ ?_)
 refine Cx.ret ?_
 refine Xx.dropB b0 ?_
 exact Xx.rB1 rfl rfl hDo hB rfl
end RwG
end Go.Proofs.YtdidpocakipinaaGreatDoor
namespace Go.Proofs.YtdidpocakipinaaGreatDoor
open Go.SL Go.RowKit
set_option maxRecDepth 100000
open Ke1 Ke3 Ke4 Ke5 Ke6 Ke7 Ke8 Ke9 KeA KeB KeC KeD KeE KeF KeG KeI RgA RgB BtB BtC BtD BtE BtG BtX BtH BtI BtF BtJ BtK BtL BtM BtN BtO BtR BtY BtZ DrA DrB DrC DrD DrE DrF RwA RwB BtQ BtS RwC RwD RwE RwF RwG
namespace RwH
theorem sz9 : (Tryz.prog.info? 9).map (·.size) = some 1 := by kernel_rfl
theorem sz25 : (Tryz.prog.info? 25).map (·.size) = some 6 := by kernel_rfl
theorem sz36 : (Tryz.prog.info? 36).map (·.size) = some 8 := by kernel_rfl
theorem sz48 : (Tryz.prog.info? 48).map (·.size) = some 2 := by kernel_rfl
theorem ti36 : TI Tryz.prog 36 [.int .u64 0, .int .u64 0, .int .i64 0, .bool false, .int .i64 0, str [], .slice none 0 0, .slice none 0 0] 8 104 := TI.of (by kernel_rfl) rfl rfl
theorem _root_.Go.SL.Xx.less {e : Env} {ds : List Deferred} {K : Act → World → Prop} {ρ : Sl} {B B0 : Frag} {H : HP} (h : B0.le B) (k : Xx e ds K ρ B0 H) : Xx e ds K ρ B H := fun a w f b s => k a w f b (s.less h)
def rcv (x : Dc) : List Value := [.agg x.cells.toArray]
def DAdm (ts : List Dc) (l : List Dc) (B : Frag) : Prop := (∃ post, ts.map Dc.abs = l.map Dc.abs ++ post) ∧ ∀ x, l.getLast? = some x → DOk B x
def DFn (ts : List Dc) (l : List Dc) : Prop := l.map Dc.abs = ts.map Dc.abs
theorem take_abs {ts l : List Dc} {n : Nat} {d0 : Dc} (h : n < ts.length) (hl : l.map Dc.abs = (ts.take n).map Dc.abs) (hd : Dc.abs d0 = Dc.abs ts[n]) : (l ++ [d0]).map Dc.abs = (ts.take (n + 1)).map Dc.abs := by
  rw [List.map_append, hl, List.take_succ_eq_append_getElem h, List.map_append]; simp [hd]
set_option maxHeartbeats 1000000 in
theorem DocsNil_it (T : Tb) (lo hi : List UInt8) (ts : List Dc) (B : Frag) (b1 b2 b3 : Nat) (h1 : B b1 = some (.cells [.pointer (some ⟨T.b, 0, none⟩)].toArray 31 (0, 0))) (h2 : B b2 = some (.cells [.pointer none].toArray 83 (0, 0))) (hts : ts = []) : ItG Tryz.prog 68 [.pointer (some ⟨b1, 0, none⟩), .pointer (some ⟨b2, 0, none⟩), .pointer (some ⟨b3, 0, none⟩)] rcv (DAdm ts) (DFn ts) B 1 := by
 refine ⟨(Go.SL.enters_of Tryz.func68 rfl (by kernel_rfl)), fun lp J Jx hy Bz Hz hBz hJ0 => ?_⟩
 have h1 := hBz _ _ h1
 have h2 := hBz _ _ h2
 subst hts
 refine Ct.of_bodyM Tryz.func68 rfl (nt := 30) rfl (by kernel_rfl) rfl ?_
 intro N0 w0 R
 rw [one_star]
 refine Cx.seq (fun K1 k1 => ?_)
 refine Cx.region ?_
 refine Lx.new (boxO rfl rfl) rfl (fun b4 => ?_)
 refine Lx.nil ?_
 refine Xx.tn (k1 _ _ _ _ ?_)
 refine Cx.seq (fun K2 k2 => ?_)
 refine Cx.seq (fun K3 k3 => ?_)
 refine Cx.region <| Lx.y (ldB U31 rfl rfl (by first | exact h1 | exact hB _ _ h1) rfl) rfl <| Lx.y (Yx.ff (eqNilP U31 rfl rfl) (rfl)) rfl <| Lx.y (mv rfl) rfl <| Lx.gT rfl rfl rfl <| Lx.y (ldB U83 rfl rfl (by first | exact h2 | exact hB _ _ h2) rfl) rfl <| Lx.gT rfl rfl rfl <| Lx.y (Yx.tt (eqNilP U83 rfl rfl) (rfl)) rfl <| Lx.y (pickF rfl rfl) rfl <| Lx.nil <| ?_
 refine Xx.tn (k3 _ _ _ _ ?_)
 refine Cx.condT rfl <| Cx.ret <| Xx.tr <| ?_
 refine Xx.dropB b4 ?_
 exact Xx.rM (Ds := []) (fun a w f _ => results_none rfl _ _ _) ⟨Hz, (one_star Hz).symm, .inl ⟨[], rfl, hJ0⟩⟩ (Frag.le_refl _) (by rw [marks_nil, one_star])
set_option maxHeartbeats 4000000 in
theorem Docs_it (T : Tb) (tb d : Nat) (c : C) (g : Dc → List UInt8) (lo hi : List UInt8) (ts : List Dc) (B : Frag) (hT : TabOk B T) (hR : RtB B T) (hTB : treB B tb d c) (hok : Tr90 d c) (hts : ∀ x ∈ ts, x ∈ T.ds) (hk : ts.map g = (inS lo hi (io (d + 1) c)).map (·.1)) (hg : ∀ x ∈ T.ds, ∃ q, g x = q ++ numL x.n ∧ q.length ≤ 4611686018427387904) (b1 b2 b3 : Nat) (h1 : B b1 = some (.cells [.pointer (some ⟨T.b, 0, none⟩)].toArray 31 (0, 0))) (h2 : B b2 = some (.cells [.pointer (some ⟨tb, 0, none⟩)].toArray 83 (0, 0))) (h3 : B b3 = some (.cells [str lo, str hi].toArray 48 (0, 0))) : ItG Tryz.prog 68 [.pointer (some ⟨b1, 0, none⟩), .pointer (some ⟨b2, 0, none⟩), .pointer (some ⟨b3, 0, none⟩)] rcv (DAdm ts) (DFn ts) B 1 := by
 refine ⟨(Go.SL.enters_of Tryz.func68 rfl (by kernel_rfl)), fun lp J Jx hy Bz Hz hBz hJ0 => ?_⟩
 have h1 := hBz _ _ h1
 have h2 := hBz _ _ h2
 have h3 := hBz _ _ h3
 have hT := hT.mono hBz
 have hR := hR.mono hBz
 obtain ⟨⟨fzt, hTB1⟩, hTB2⟩ := hTB.mono hBz
 have htl : ts.length = (inS lo hi (io (d + 1) c)).length := by have := congrArg List.length hk; simpa using this
 refine Ct.of_bodyM Tryz.func68 rfl (nt := 30) rfl (by kernel_rfl) rfl ?_
 intro N0 w0 R
 rw [one_star]
 refine Cx.seq (fun K1 k1 => ?_)
 refine Cx.region ?_
 refine Lx.new (boxO rfl rfl) rfl (fun b4 => ?_)
 refine Lx.nil ?_
 refine Xx.tn (k1 _ _ _ _ ?_)
 refine Cx.seq (fun K2 k2 => ?_)
 refine Cx.seq (fun K3 k3 => ?_)
 refine Cx.region <| Lx.y (ldB U31 rfl rfl (by first | exact h1 | exact hB _ _ h1) rfl) rfl <| Lx.y (Yx.ff (eqNilP U31 rfl rfl) rfl) rfl <| Lx.y (mv rfl) rfl <| Lx.gT rfl rfl rfl <| Lx.y (ldB U83 rfl rfl (by first | exact h2 | exact hB _ _ h2) rfl) rfl <| Lx.gT rfl rfl rfl <| Lx.y (Yx.ff (eqNilP U83 rfl rfl) rfl) rfl <| Lx.y (pickF rfl rfl) rfl <| Lx.nil <| ?_
 refine Xx.tn (k3 _ _ _ _ ?_)
 refine Cx.condF rfl <| Cx.skip <| ?_
 refine Xx.tn (k2 _ _ _ _ ?_)
 refine Cx.seq (fun K4 k4 => ?_)
 refine Cx.region <| Lx.y (ldB U83 rfl rfl (by first | exact h2 | exact hB _ _ h2) rfl) rfl <| Lx.y (ldA U48 rfl sz48 rfl (Cells.base (n := 2) h3 rfl) rfl) rfl <| ?_
 refine Lx.cb rfl rfl rfl (Range_ct (some ⟨tb, 0, none⟩) lo hi _) rfl ?_
 rintro v6 B6 ⟨b5, b6, rfl, hb5, hb6⟩ hB6
 refine Lx.nil ?_
 refine Xx.tn (k4 _ _ _ _ ?_)
 refine Cx.block ?_
 refine Cx.rangeK (σ := _) (Sc 1 rfl (Sc 4 rfl (Sub.nil _))) rfl rfl (Range_it d c tb (((io (d + 1) c).length : Nat) : Int) fzt lo hi B6 (hB6 _ _ hTB1) (hTB2.mono hB6) hok.1 hok.2.2.1 b5 b6 hb5 hb6) (show _ = 1 * ((row b4 93 [.func (.yield lp) #[] #[]] * Hz) * R) by rw [one_star]; ac_rfl) rfl (fun _ => rfl) (fun pre B' H' => ∃ l Hj B0, l.map Dc.abs = (ts.take pre.length).map Dc.abs ∧ Bz.le B0 ∧ B0.le B' ∧ J l B0 Hj ∧ H' = row b4 93 [.func (.yield lp) #[] #[]] * Hj) (fun cd pre B' H' => cd = .ret ∧ ∃ l Hj B0, Bz.le B0 ∧ B0.le B' ∧ Jx l B0 Hj ∧ H' = row b4 93 [.func (.yield lp) #[] #[]] * Hj) (fun pre x B1 ρ' B' H' => ∃ l Hj B0, ρ' = [(5, str x.1)] ∧ B' = B1 ∧ l.map Dc.abs = (ts.take pre.length).map Dc.abs ∧ Bz.le B0 ∧ B0.le B1 ∧ J l B0 Hj ∧ H' = row b4 93 [.func (.yield lp) #[] #[]] * Hj) (⟨[], Hz, Bz, rfl, Frag.le_refl _, hB6, hJ0, rfl⟩) ?_ ?_ ?_ ?_
 ·rintro lz Nz wz pre x post B1 H1 F K hxs hB1 hJ hK
  obtain ⟨l, Hj, B0, hl, hz0, h01, hJj, rfl⟩ := hJ
  refine Cx.region <| Lx.y (asg rfl) rfl <| Lx.nil <| ?_
  refine Xx.tn ?_
  exact Xx.sub (hK _ _ _ ⟨l, Hj, B0, rfl, rfl, hl, hz0, h01, hJj, rfl⟩ (Frag.le_refl _)) (Sc 5 rfl (Sc 1 rfl (Sc 4 rfl (Sub.nil _))))
 ·rintro lz Nz wz pre x post B1 F ρ' B' H' hxs hB1 hBx hAS
  obtain ⟨l, Hj, B0, rfl, hBB, hl, hz0, h01, hJj, rfl⟩ := hAS
  have hBB2 := hBB.symm
  subst hBB2
  clear hBx
  simp only [star_assoc]
  have hlt : pre.length < ts.length := by rw [htl, hxs]; simp
  obtain ⟨dx, hdx⟩ : ∃ dx, dx = ts[pre.length] := ⟨_, rfl⟩
  have hdm := hts _ (List.getElem_mem hlt)
  rw [← hdx] at hdm
  obtain ⟨q, hq, hql⟩ := hg dx hdm
  have hxk : x.1 = q ++ numL dx.n := by
   rw [← hq]
   have h9 : (ts.map g)[pre.length]? = (((inS lo hi (io (d + 1) c))).map (·.1))[pre.length]? := by rw [hk]
   rw [List.getElem?_map, List.getElem?_eq_getElem hlt, List.getElem?_map, hxs, List.getElem?_append_right (Nat.le_refl _), Nat.sub_self] at h9
   have h8 : g ts[pre.length] = x.1 := by simpa using h9
   rw [hdx]; exact h8.symm
  obtain ⟨xk, xw⟩ := x
  simp only at hxk
  subst hxk
  refine Cx.block ?_
  refine Cx.seq (fun K6 k6 => ?_)
  refine Cx.drawn (by kernel_rfl) ?_
  refine Dx.r (i := 0) rfl (by kernel_rfl) (ldB U31 rfl rfl (by first | exact hB1 _ _ (hB6 _ _ h1) | exact hB _ _ (hB1 _ _ (hB6 _ _ h1))) rfl) rfl ?_
  refine Dx.p (i := 1) rfl (by kernel_rfl) (mv rfl) rfl ?_
  refine Dx.two (i := 2) (j := 7) (by kernel_rfl) ?_ ?_
  ·
   refine Dstep.o (i := 2) rfl (Ox.cb rfl rfl rfl (number_ct q dx.n _ hql)) rfl (fun v B' H' hΦ hB => ?_)
   obtain ⟨rfl, rfl, hBB⟩ := hΦ; have hBB2 := hBB.symm; subst hBB2; clear hB
   refine ⟨JOk.yes (JOk.top) (ldB U31 rfl rfl (by first | exact hB1 _ _ (hB6 _ _ h1) | exact hB _ _ (hB1 _ _ (hB6 _ _ h1))) rfl), ?_⟩
   refine Dx.two (i := 3) (j := 7) (by kernel_rfl) ?_ ?_
   ·
    refine Dstep.o (i := 3) rfl (Ox.cb rfl rfl rfl (RGet_ro T dx.n _ (hT.mono (Frag.le_trans hB6 hB1)) (hR.mono (Frag.le_trans hB6 hB1)))) rfl (fun v B' H' hΦ hB => ?_)
    obtain ⟨rfl, hΦ⟩ := hΦ
    obtain ⟨dy, rfl, hsame, hdok⟩ := hΦ
    obtain ⟨B8, he8⟩ : ∃ B8, B8 = B' := ⟨_, rfl⟩
    subst he8
    have hB8 := hB
    obtain ⟨y1, y2, y3⟩ := hsame dx hdm rfl
    have hya : Dc.abs dy = Dc.abs dx := by unfold Dc.abs; rw [y1, y2, y3]
    obtain ⟨Ap, cp, An, cn, hsh⟩ := cells_shape hdok
    refine ⟨JOk.edge (JOk.top) (by kernel_rfl), ?_⟩
    refine Dx.p (i := 4) rfl (by kernel_rfl) (mv rfl) rfl ?_
    refine Dx.p (i := 5) rfl (by kernel_rfl) (ext rfl rfl) rfl ?_
    refine Dx.p (i := 6) rfl (by kernel_rfl) (ext rfl rfl) rfl ?_
    refine Dx.one (i := 7) (by kernel_rfl) ?_
    refine Dstep.o (i := 7) rfl (allocO ti36) rfl (fun v B' H' hΦ hB => ?_)
    obtain ⟨b7, rfl, hBB, rfl⟩ := hΦ; have hBB2 := hBB.symm; subst hBB2; clear hB
    refine ⟨JOk.yes (JOk.top) (ldB U31 rfl rfl (by first | exact hB1 _ _ (hB6 _ _ h1) | exact hB _ _ (hB1 _ _ (hB6 _ _ h1))) rfl), ?_⟩
    refine Dx.one (i := 8) (by kernel_rfl) ?_
    refine Dstep.o0 (i := 8) rfl (stA (d := .bool) (cs' := dy.cells) sz36 rfl rfl (by rw [hsh]; rfl) (by rw [hsh]; rfl) (by rw [hsh]; show 0 + 8 ≤ 8; omega) (st_all rfl (by rw [hsh]; rfl))) (fun v B' H' hΦ hB => ?_)
    obtain ⟨hBB, rfl⟩ := hΦ; have hBB2 := hBB.symm; subst hBB2; clear hB v
    refine ⟨JOk.edge (JOk.top) (by kernel_rfl), ?_⟩
    refine Dx.p (i := 9) rfl (by kernel_rfl) (asg rfl) rfl ?_
    refine Dx.done (by kernel_rfl) ?_
    refine Xx.tn (k6 _ _ _ _ ?_)
    refine Cx.seq (fun K7 k7 => ?_)
    refine Cx.region <| Lx.y (ld U93 rfl rfl rfl) rfl <| Lx.y (ldA U36 rfl sz36 rfl (Cells.own (n := 8) PickB.eq (show (dy.cells.drop 0).take 8 = dy.cells by rw [hsh]; rfl)) (by rw [hsh]; rfl)) rfl <| ?_
    refine Lx.yield rfl rfl (hy l dy B0 B8 Hj ⟨⟨(ts.drop (pre.length + 1)).map Dc.abs, by rw [take_abs hlt hl (by rw [← hdx]; exact hya), ← List.map_append, List.take_append_drop]⟩, fun x hx => by rw [List.getLast?_append] at hx; simp at hx; rw [← hx]; exact hdok⟩ (Frag.le_trans hBz hz0) (Frag.le_trans h01 hB8) hJj) (show _ = Hj * (row b7 36 dy.cells * (row b4 93 [.func (.yield lp) #[] #[]] * F)) by ac_rfl) rfl ?_
    rintro t B9 H9 hΦ hB9
    refine Lx.y (not' rfl) rfl <| Lx.nil <| ?_
    refine Xx.tn (k7 _ _ _ _ ?_)
    refine Cx.condB rfl (fun h8 => ?_) (fun h8 => ?_)
    ·
     obtain ⟨_, hΦ⟩ : t = false ∧ Jx (l ++ [dy]) B9 H9 := by simpa [show t = false by simpa using h8] using hΦ
     refine Cx.ret ?_
     refine Xx.br ?_
     refine Xx.dropB b7 ?_
     exact Xx.rqr ⟨rfl, l ++ [dy], _, _, Frag.le_trans hz0 (Frag.le_trans h01 (Frag.le_trans hB8 hB9)), Frag.le_refl _, hΦ, rfl⟩ (Frag.le_trans hB8 hB9) (by ac_rfl)
    ·
     obtain ⟨_, hΦ⟩ : t = true ∧ J (l ++ [dy]) B9 H9 := by simpa [show t = true by simpa using h8] using hΦ
     refine Cx.skip <| Xx.bn <| ?_
     refine Xx.dropB b7 ?_
     exact Xx.rqn ⟨l ++ [dy], _, _, by rw [List.length_append, List.length_singleton]; exact take_abs hlt hl (by rw [← hdx]; exact hya), Frag.le_trans hz0 (Frag.le_trans h01 (Frag.le_trans hB8 hB9)), Frag.le_refl _, hΦ, rfl⟩ (Frag.le_trans hB8 hB9) (by ac_rfl)
   refine Dstep.o (i := 7) rfl (allocO ti36) rfl (fun v B' H' hΦ hB => ?_)
   obtain ⟨b7, rfl, hBB, rfl⟩ := hΦ; have hBB2 := hBB.symm; subst hBB2; clear hB
   refine ⟨JOk.yes (JOk.top) (ldB U31 rfl rfl (by first | exact hB1 _ _ (hB6 _ _ h1) | exact hB _ _ (hB1 _ _ (hB6 _ _ h1))) rfl), ?_⟩
   refine Dx.one (i := 3) (by kernel_rfl) ?_
   refine Dstep.o (i := 3) rfl (Ox.cb rfl rfl rfl (RGet_ro T dx.n _ (hT.mono (Frag.le_trans hB6 hB1)) (hR.mono (Frag.le_trans hB6 hB1)))) rfl (fun v B' H' hΦ hB => ?_)
   obtain ⟨rfl, hΦ⟩ := hΦ
   obtain ⟨dy, rfl, hsame, hdok⟩ := hΦ
   obtain ⟨B8, he8⟩ : ∃ B8, B8 = B' := ⟨_, rfl⟩
   subst he8
   have hB8 := hB
   obtain ⟨y1, y2, y3⟩ := hsame dx hdm rfl
   have hya : Dc.abs dy = Dc.abs dx := by unfold Dc.abs; rw [y1, y2, y3]
   obtain ⟨Ap, cp, An, cn, hsh⟩ := cells_shape hdok
   refine ⟨JOk.edge (JOk.top) (by kernel_rfl), ?_⟩
   refine Dx.p (i := 4) rfl (by kernel_rfl) (mv rfl) rfl ?_
   refine Dx.p (i := 5) rfl (by kernel_rfl) (ext rfl rfl) rfl ?_
   refine Dx.p (i := 6) rfl (by kernel_rfl) (ext rfl rfl) rfl ?_
   refine Dx.one (i := 8) (by kernel_rfl) ?_
   refine Dstep.o0 (i := 8) rfl (stA (d := .bool) (cs' := dy.cells) sz36 rfl rfl (by rw [hsh]; rfl) (by rw [hsh]; rfl) (by rw [hsh]; show 0 + 8 ≤ 8; omega) (st_all rfl (by rw [hsh]; rfl))) (fun v B' H' hΦ hB => ?_)
   obtain ⟨hBB, rfl⟩ := hΦ; have hBB2 := hBB.symm; subst hBB2; clear hB v
   refine ⟨JOk.edge (JOk.top) (by kernel_rfl), ?_⟩
   refine Dx.p (i := 9) rfl (by kernel_rfl) (asg rfl) rfl ?_
   refine Dx.done (by kernel_rfl) ?_
   refine Xx.tn (k6 _ _ _ _ ?_)
   refine Cx.seq (fun K9 k9 => ?_)
   refine Cx.region <| Lx.y (ld U93 rfl rfl rfl) rfl <| Lx.y (ldA U36 rfl sz36 rfl (Cells.own (n := 8) PickB.eq (show (dy.cells.drop 0).take 8 = dy.cells by rw [hsh]; rfl)) (by rw [hsh]; rfl)) rfl <| ?_
   refine Lx.yield rfl rfl (hy l dy B0 B8 Hj ⟨⟨(ts.drop (pre.length + 1)).map Dc.abs, by rw [take_abs hlt hl (by rw [← hdx]; exact hya), ← List.map_append, List.take_append_drop]⟩, fun x hx => by rw [List.getLast?_append] at hx; simp at hx; rw [← hx]; exact hdok⟩ (Frag.le_trans hBz hz0) (Frag.le_trans h01 hB8) hJj) (show _ = Hj * (row b7 36 dy.cells * (row b4 93 [.func (.yield lp) #[] #[]] * F)) by ac_rfl) rfl ?_
   rintro t B9 H9 hΦ hB9
   refine Lx.y (not' rfl) rfl <| Lx.nil <| ?_
   refine Xx.tn (k9 _ _ _ _ ?_)
   refine Cx.condB rfl (fun h10 => ?_) (fun h10 => ?_)
   ·
    obtain ⟨_, hΦ⟩ : t = false ∧ Jx (l ++ [dy]) B9 H9 := by simpa [show t = false by simpa using h10] using hΦ
    refine Cx.ret ?_
    refine Xx.br ?_
    refine Xx.dropB b7 ?_
    exact Xx.rqr ⟨rfl, l ++ [dy], _, _, Frag.le_trans hz0 (Frag.le_trans h01 (Frag.le_trans hB8 hB9)), Frag.le_refl _, hΦ, rfl⟩ (Frag.le_trans hB8 hB9) (by ac_rfl)
   ·
    obtain ⟨_, hΦ⟩ : t = true ∧ J (l ++ [dy]) B9 H9 := by simpa [show t = true by simpa using h10] using hΦ
    refine Cx.skip <| Xx.bn <| ?_
    refine Xx.dropB b7 ?_
    exact Xx.rqn ⟨l ++ [dy], _, _, by rw [List.length_append, List.length_singleton]; exact take_abs hlt hl (by rw [← hdx]; exact hya), Frag.le_trans hz0 (Frag.le_trans h01 (Frag.le_trans hB8 hB9)), Frag.le_refl _, hΦ, rfl⟩ (Frag.le_trans hB8 hB9) (by ac_rfl)
  refine Dstep.o (i := 7) rfl (allocO ti36) rfl (fun v B' H' hΦ hB => ?_)
  obtain ⟨b7, rfl, hBB, rfl⟩ := hΦ; have hBB2 := hBB.symm; subst hBB2; clear hB
  refine ⟨JOk.yes (JOk.top) (ldB U31 rfl rfl (by first | exact hB1 _ _ (hB6 _ _ h1) | exact hB _ _ (hB1 _ _ (hB6 _ _ h1))) rfl), ?_⟩
  refine Dx.one (i := 2) (by kernel_rfl) ?_
  refine Dstep.o (i := 2) rfl (Ox.cb rfl rfl rfl (number_ct q dx.n _ hql)) rfl (fun v B' H' hΦ hB => ?_)
  obtain ⟨rfl, rfl, hBB⟩ := hΦ; have hBB2 := hBB.symm; subst hBB2; clear hB
  refine ⟨JOk.yes (JOk.top) (ldB U31 rfl rfl (by first | exact hB1 _ _ (hB6 _ _ h1) | exact hB _ _ (hB1 _ _ (hB6 _ _ h1))) rfl), ?_⟩
  refine Dx.one (i := 3) (by kernel_rfl) ?_
  refine Dstep.o (i := 3) rfl (Ox.cb rfl rfl rfl (RGet_ro T dx.n _ (hT.mono (Frag.le_trans hB6 hB1)) (hR.mono (Frag.le_trans hB6 hB1)))) rfl (fun v B' H' hΦ hB => ?_)
  obtain ⟨rfl, hΦ⟩ := hΦ
  obtain ⟨dy, rfl, hsame, hdok⟩ := hΦ
  obtain ⟨B8, he8⟩ : ∃ B8, B8 = B' := ⟨_, rfl⟩
  subst he8
  have hB8 := hB
  obtain ⟨y1, y2, y3⟩ := hsame dx hdm rfl
  have hya : Dc.abs dy = Dc.abs dx := by unfold Dc.abs; rw [y1, y2, y3]
  obtain ⟨Ap, cp, An, cn, hsh⟩ := cells_shape hdok
  refine ⟨JOk.edge (JOk.top) (by kernel_rfl), ?_⟩
  refine Dx.p (i := 4) rfl (by kernel_rfl) (mv rfl) rfl ?_
  refine Dx.p (i := 5) rfl (by kernel_rfl) (ext rfl rfl) rfl ?_
  refine Dx.p (i := 6) rfl (by kernel_rfl) (ext rfl rfl) rfl ?_
  refine Dx.one (i := 8) (by kernel_rfl) ?_
  refine Dstep.o0 (i := 8) rfl (stA (d := .bool) (cs' := dy.cells) sz36 rfl rfl (by rw [hsh]; rfl) (by rw [hsh]; rfl) (by rw [hsh]; show 0 + 8 ≤ 8; omega) (st_all rfl (by rw [hsh]; rfl))) (fun v B' H' hΦ hB => ?_)
  obtain ⟨hBB, rfl⟩ := hΦ; have hBB2 := hBB.symm; subst hBB2; clear hB v
  refine ⟨JOk.edge (JOk.top) (by kernel_rfl), ?_⟩
  refine Dx.p (i := 9) rfl (by kernel_rfl) (asg rfl) rfl ?_
  refine Dx.done (by kernel_rfl) ?_
  refine Xx.tn (k6 _ _ _ _ ?_)
  refine Cx.seq (fun K11 k11 => ?_)
  refine Cx.region <| Lx.y (ld U93 rfl rfl rfl) rfl <| Lx.y (ldA U36 rfl sz36 rfl (Cells.own (n := 8) PickB.eq (show (dy.cells.drop 0).take 8 = dy.cells by rw [hsh]; rfl)) (by rw [hsh]; rfl)) rfl <| ?_
  refine Lx.yield rfl rfl (hy l dy B0 B8 Hj ⟨⟨(ts.drop (pre.length + 1)).map Dc.abs, by rw [take_abs hlt hl (by rw [← hdx]; exact hya), ← List.map_append, List.take_append_drop]⟩, fun x hx => by rw [List.getLast?_append] at hx; simp at hx; rw [← hx]; exact hdok⟩ (Frag.le_trans hBz hz0) (Frag.le_trans h01 hB8) hJj) (show _ = Hj * (row b7 36 dy.cells * (row b4 93 [.func (.yield lp) #[] #[]] * F)) by ac_rfl) rfl ?_
  rintro t B9 H9 hΦ hB9
  refine Lx.y (not' rfl) rfl <| Lx.nil <| ?_
  refine Xx.tn (k11 _ _ _ _ ?_)
  refine Cx.condB rfl (fun h12 => ?_) (fun h12 => ?_)
  ·
   obtain ⟨_, hΦ⟩ : t = false ∧ Jx (l ++ [dy]) B9 H9 := by simpa [show t = false by simpa using h12] using hΦ
   refine Cx.ret ?_
   refine Xx.br ?_
   refine Xx.dropB b7 ?_
   exact Xx.rqr ⟨rfl, l ++ [dy], _, _, Frag.le_trans hz0 (Frag.le_trans h01 (Frag.le_trans hB8 hB9)), Frag.le_refl _, hΦ, rfl⟩ (Frag.le_trans hB8 hB9) (by ac_rfl)
  ·
   obtain ⟨_, hΦ⟩ : t = true ∧ J (l ++ [dy]) B9 H9 := by simpa [show t = true by simpa using h12] using hΦ
   refine Cx.skip <| Xx.bn <| ?_
   refine Xx.dropB b7 ?_
   exact Xx.rqn ⟨l ++ [dy], _, _, by rw [List.length_append, List.length_singleton]; exact take_abs hlt hl (by rw [← hdx]; exact hya), Frag.le_trans hz0 (Frag.le_trans h01 (Frag.le_trans hB8 hB9)), Frag.le_refl _, hΦ, rfl⟩ (Frag.le_trans hB8 hB9) (by ac_rfl)
 ·rintro D B' H' hBx hJ
  obtain ⟨l, Hc, B0, hl, hz0, h01, hJc, rfl⟩ := hJ
  simp only [star_assoc]
  refine Xx.bn ?_
  refine Xx.less h01 (Xx.dropB b4 ?_)
  exact Xx.eM [D] rfl (fun a w f _ => results_none rfl _ _ _) ⟨Hc, (one_star _).symm, .inl ⟨l, by unfold DFn; rw [hl, ← htl, List.take_length], hJc⟩⟩ hz0 (by simp only [marks_cons, marks_nil, star_one, one_star]; ac_rfl)
 ·rintro D c pre post B' H' hxs hBx hJx
  obtain ⟨rfl, l, Hc, B0, hz0, h01, hJc, rfl⟩ := hJx
  simp only [star_assoc]
  refine Cx.ret ?_
  refine Xx.br ?_
  refine Xx.less h01 (Xx.dropB b4 ?_)
  exact Xx.rM (Ds := [D]) (fun a w f _ => results_none rfl _ _ _) ⟨Hc, (one_star _).symm, .inr ⟨l, hJc⟩⟩ hz0 (by simp only [marks_cons, marks_nil, star_one, one_star]; ac_rfl)
end RwH
end Go.Proofs.YtdidpocakipinaaGreatDoor
namespace Go.Proofs.YtdidpocakipinaaGreatDoor
open Go.SL Go.RowKit
set_option maxRecDepth 100000
open Ke1 Ke3 Ke4 Ke5 Ke6 Ke7 Ke8 Ke9 KeA KeB KeC KeD KeE KeF KeG KeI RgA RgB BtB BtC BtD BtE BtG BtX BtH BtI BtF BtJ BtK BtL BtM BtN BtO BtR BtY BtZ DrA DrB DrC DrD DrE DrF RwA RwB BtQ BtS RwC RwD RwE RwF RwG RwH
namespace RwI
theorem sz3 : (Tryz.prog.info? 3).map (·.size) = some 1 := by kernel_rfl
theorem sz9 : (Tryz.prog.info? 9).map (·.size) = some 1 := by kernel_rfl
theorem sz25 : (Tryz.prog.info? 25).map (·.size) = some 6 := by kernel_rfl
theorem sz36 : (Tryz.prog.info? 36).map (·.size) = some 8 := by kernel_rfl
theorem sz48 : (Tryz.prog.info? 48).map (·.size) = some 2 := by kernel_rfl
theorem ti3 : TI Tryz.prog 3 [.int .i64 0] 1 8 := TI.of (by kernel_rfl) rfl rfl
theorem ti9 : TI Tryz.prog 9 [str []] 1 16 := TI.of (by kernel_rfl) rfl rfl
theorem ti25 : TI Tryz.prog 25 [.int .i64 0, .bool false, .int .i64 0, str [], .slice none 0 0, .slice none 0 0] 6 88 := TI.of (by kernel_rfl) rfl rfl
theorem ti36 : TI Tryz.prog 36 [.int .u64 0, .int .u64 0, .int .i64 0, .bool false, .int .i64 0, str [], .slice none 0 0, .slice none 0 0] 8 104 := TI.of (by kernel_rfl) rfl rfl
theorem ti48 : TI Tryz.prog 48 [str [], str []] 2 32 := TI.of (by kernel_rfl) rfl rfl
theorem fo36_0 : FO Tryz.prog 36 0 0 1 false := FO.of U36 rfl rfl (by kernel_rfl) U34 rfl rfl
theorem pl36 : PL Tryz.prog 36 [(0, 1), (1, 1), (2, 6)] := PL.of U36 (by kernel_rfl)
theorem pl48 : PL Tryz.prog 48 [(0, 1), (1, 1)] := PL.of U48 (by kernel_rfl)
theorem leaf_ok {n : Int} {d : Nat} {deep : Int} (h : deep ≤ 8) : checkF (d + 1) (V.mk 2 false n [] [] []) deep = 0 :=
  chk6 (by omega) (fun z => by
    rcases z with z | z | z
    · exact absurd z (by show ¬ (2 : Int) < 0; decide)
    · exact absurd z (by show ¬ (6 : Int) < 2; decide)
    · exact z ⟨.inr rfl, .inl rfl, .inr (.inr rfl), .inr (.inr rfl), .inr rfl⟩) (by show ¬ 32 < 0; decide) (namesB_yes ⟨fun i hi => absurd hi (by show ¬ i < 0; omega), fun z => absurd z (by show ¬ (2 : Int) = 6; decide)⟩) fun k hk => absurd hk (by show ¬ k < 0; omega)
theorem VA_names (n : Int) : NamesP (VA n) := by
  refine ⟨fun i hi => ?_, fun _ => rfl⟩
  have hi2 : i < 1 := hi
  obtain rfl : i = 0 := by omega
  exact ⟨⟨fun k hk => by have : k < 1 := hk; obtain rfl : k = 0 := by omega
                         exact .inl (show LP (([97] : List UInt8).getD 0 0) by decide), show 1 ≤ ([97] : List UInt8).length by decide, show ([97] : List UInt8).length ≤ 16 by decide⟩, fun z => absurd z (by decide)⟩
theorem VA_check4 (n : Int) : checkF 4 (VA n) 1 = 0 := by
  refine chk6 (by decide) (fun z => ?_) (by show ¬ 32 < 1; decide) (namesB_yes (VA_names n)) fun k hk => ?_
  · rcases z with z | z | z
    · exact absurd z (by show ¬ (6 : Int) < 0; decide)
    · exact absurd z (by show ¬ (6 : Int) < 6; decide)
    · exact z ⟨.inr rfl, .inr rfl, .inr (.inr rfl), .inr (.inl rfl), .inl rfl⟩
  · have hk2 : k < 1 := hk
    match k, hk2 with
    | 0, _ => exact leaf_ok (by decide)
theorem freezeP {e : Env} {ds : List Deferred} {K : Act → World → Prop} {ρ : Sl} {B : Frag} {p R : HP} (h : ∀ k : Frag, p k → k.apart B → Xx e ds K ρ (Frag.un B k) R) : Xx e ds K ρ B (p * R) := fun a w f b s => by
  obtain ⟨k, hk, hap, s', _⟩ := s.lend
  exact h k hk hap a w f b s'
theorem freeze_tab {e : Env} {ds : List Deferred} {K : Act → World → Prop} {ρ : Sl} {B : Frag} {R : HP} {T : Tb} (hT : TabOk B T) (h : ∀ B', B.le B' → RtB B' T → Xx e ds K ρ B' R) : Xx e ds K ρ B (tab T * R) :=
  freezeP fun k hk ha => h _ (Frag.le_un B k) (tab_ro hT hk ha)
theorem look_x {f : List UInt8} {xs : List Ix} (h : f ∈ xs.map (·.f)) : ∃ x ∈ xs, x.f = f ∧ lookX f xs = some ⟨x.tb, 0, none⟩ := by
  unfold lookX
  cases hf : xs.find? (fun x => decide (x.f = f)) with
  | none =>
    obtain ⟨x, hx, e⟩ := List.mem_map.1 h
    have := List.find?_eq_none.1 hf x hx
    simp [e] at this
  | some x => exact ⟨x, List.mem_of_find?_eq_some hf, by have := List.find?_some hf; simpa using this, rfl⟩
theorem docs_list {g : Dc → List UInt8} {ds : List Dc} : ∀ (l : List (List UInt8 × List UInt8)), (∀ p ∈ l, ∃ x ∈ ds, p.1 = g x) → ∃ ts : List Dc, (∀ x ∈ ts, x ∈ ds) ∧ ts.map g = l.map (·.1) := by
  intro l
  induction l with
  | nil => intro _; exact ⟨[], fun x h => (by cases h), rfl⟩
  | cons p l ih =>
    intro h
    obtain ⟨x, hx, e⟩ := h p (by simp)
    obtain ⟨ts, h1, h2⟩ := ih fun q hq => h q (by simp [hq])
    exact ⟨x :: ts, fun y hy => by rcases List.mem_cons.1 hy with rfl | hy; exact hx; exact h1 y hy, by rw [List.map_cons, List.map_cons, h2, e]⟩
theorem tk_list {d : Nat} {c : C} {g : Dc → List UInt8} {ds : List Dc} (h : TK d c (fun k => ∃ x ∈ ds, k = g x)) (lo hi : List UInt8) : ∃ ts : List Dc, (∀ x ∈ ts, x ∈ ds) ∧ ts.map g = (inS lo hi (io (d + 1) c)).map (·.1) :=
  docs_list _ fun p hp => (h.2.2 p.1).1 (List.mem_map.2 ⟨p, (List.mem_filter.1 hp).1, rfl⟩)
theorem inS_whole (l : List (List UInt8 × List UInt8)) : inS [] [] l = l := inS_all fun p _ => by unfold BtS.hasB; rw [bless_nil]; rfl
theorem all_len {d : Nat} {c : C} {g : Dc → List UInt8} {ds ts : List Dc} (h : TK d c (fun k => ∃ x ∈ ds, k = g x)) (hg : ∀ a b, g a = g b → a.n = b.n) (hn : (ds.map (·.n)).Nodup) (ht : ts.map g = (io (d + 1) c).map (·.1)) : ts.length = ds.length := by
  have h1 : (ts.map g).Nodup := by rw [ht]; exact ord_nodup h.1.2.2.1
  have h2 : (ds.map g).Nodup := by
    have : ds.Nodup := nodup_of_map _ hn
    rw [List.nodup_iff_pairwise_ne, List.pairwise_map]
    rw [List.nodup_iff_pairwise_ne, List.pairwise_map] at hn
    exact hn.imp fun hab e => hab (hg _ _ e)
  have a1 := nodup_len (ts.map g) (ds.map g) h1 fun k hk => by
    rw [ht] at hk
    obtain ⟨x, hx, rfl⟩ := (h.2.2 k).1 hk
    exact List.mem_map.2 ⟨x, hx, rfl⟩
  have a2 := nodup_len (ds.map g) (ts.map g) h2 fun k hk => by
    obtain ⟨x, hx, rfl⟩ := List.mem_map.1 hk
    rw [ht]; exact (h.2.2 _).2 ⟨x, hx, rfl⟩
  simp at a1 a2; omega
theorem getV_R {B : Frag} {d : Nat} {v : V} {deep : Int} {cs : List Value} (f : List UInt8) (h : ValR B (d + 2) v cs) (hok : checkF (d + 2) v deep = 0) : ∃ cs', ValR B (d + 1) (getV v f) cs' := by
  by_cases hf : f ∈ v.names
  · obtain ⟨_, h1, _, _, e⟩ := getV_in hok hf
    obtain ⟨_, _, _, _, _, _, _, _, _, _, hps⟩ := h
    obtain ⟨_, _, _, _, _, xs, _, _, _, hv⟩ := hps _ h1
    rw [e]; exact ⟨xs, hv⟩
  · rw [getV_out hf]; exact ⟨_, V0_R⟩
theorem keyD_tail {B : Frag} {f : List UInt8} {x : Dc} (h : DOk B x) : ∃ q, keyD f x = q ++ numL x.n ∧ q.length ≤ 4611686018427387904 := by
  obtain ⟨hv0, hchk, hbyt⟩ := h
  obtain ⟨cs9, hg⟩ : ∃ cs9, ValR B 3 (getV x.v f) cs9 := getV_R (d := 2) f hv0 hchk
  have h9 : (bytesF 3 (getV x.v f)).length ≤ (bytesF 4 x.v).length + 1 := getV_bytes (d := 2) f hchk
  have h8 := keyF_len _ _ _ _ hg
  exact ⟨keyF 3 (getV x.v f), rfl, by omega⟩
set_option maxHeartbeats 4000000 in
theorem awake_ct (B : Frag) (hM : MaxLenIn B) : CtB Tryz.prog 10 [] B (fun v _ => v = .bool true) := by
 refine CtB.of_bodyM Tryz.func10 rfl (nt := 35) rfl (by kernel_rfl) rfl ?_
 intro N0 w0 R
 refine Cx.seq (fun K1 k1 => ?_)
 refine Cx.region <| Lx.y (asg rfl) rfl <| Lx.nil <| ?_
 refine Xx.tn (k1 _ _ _ _ ?_)
 refine Cx.seq (fun K2 k2 => ?_)
 refine Cx.region ?_
 refine Lx.c rfl rfl rfl (RNew_ct _) ((one_star _).symm) rfl ?_
 rintro v B1 H1 ⟨hBB, T, rfl, rfl, hds, hxs, hT⟩ hB1
 have hBB2 := hBB.symm
 subst hBB2
 clear hB1
 refine Lx.y (asg rfl) rfl <| Lx.nil <| ?_
 refine Xx.tn (k2 _ _ _ _ ?_)
 refine Cx.seq (fun K3 k3 => ?_)
 refine Cx.region <| Lx.y (mv rfl) rfl <| ?_
 refine Lx.bsl (bsl1 U23 ti9 rfl rfl rfl (by decide)) rfl (fun bn => ?_)
 refine Lx.cp rfl rfl rfl (Int_ct _ _) rfl ?_
 refine Lx.bsl (bslA U22 ti25 rfl rfl (by decide)) rfl (fun bp => ?_)
 refine Xx.freezeB bn fun B1 hB1 hBn => ?_
 refine Xx.freezeB bp fun B2 hB2 hBp => ?_
 refine Lx.cb rfl rfl rfl (Struct1_ct 1 bn bp _ _ _ _ _ (by decide) (by decide) (hB2 _ _ hBn) hBp) rfl ?_
 rintro v B3 ⟨cs3, rfl, hv3⟩ hB3
 obtain ⟨Ap, cp, An, cn, rfl⟩ := ValR.shape hv3
 have hB03 := Frag.le_trans hB1 (Frag.le_trans hB2 hB3)
 refine Lx.y (bld ti36 pl36 rfl rfl) rfl ?_
 refine Lx.c rfl rfl rfl (RPut_ct T 3#64 0#64 (VA 1) _ _ (hT.mono hB03) (hM.mono hB03) (by rw [hds]; decide) (ValR.le hv3 (by decide)) (VA_check4 1) (by decide +kernel)) (Pick.eq) rfl ?_
 rintro r4 B4 H4 ⟨rfl, T2, rfl, hT2, hb2, hds2, hxs2⟩ hB4
 have hB04 := Frag.le_trans hB03 hB4
 rw [← hb2]
 rw [hds] at hds2
 have hl2 : T2.ds.length = 1 := by have := congrArg List.length hds2; simpa [dropD] using this
 rw [hxs] at hxs2
 refine Lx.nil ?_
 refine Xx.tn (k3 _ _ _ _ ?_)
 refine Cx.seq (fun K5 k5 => ?_)
 refine Cx.region ?_
 refine Lx.new (allocO ti3) rfl (fun b2 => ?_)
 refine Lx.st (stO U3 sz3 rfl rfl rfl (by decide) rfl) ?_
 refine Lx.nil ?_
 refine Xx.tn (k5 _ _ _ _ ?_)
 refine Cx.seq (fun K6 k6 => ?_)
 refine Cx.seq (fun K7 k7 => ?_)
 refine Cx.region <| Lx.y (mv rfl) rfl <| ?_
 refine Lx.c rfl rfl rfl (RAdd_ct T2 [97] _ hT2 (hM.mono hB04) (by omega)) (Pick.eq) rfl ?_
 rintro r5 B5 H5 ⟨hBB, T3, rfl, rfl, hT3, hb3, hds3, hxs3⟩ hB5
 have hBB2 := hBB.symm
 subst hBB2
 clear hB5
 rw [← hb3]
 have hx2 : T2.xs.map (·.f) = [] := by simpa using hxs2
 have hx3 : T3.xs.map (·.f) = [[97]] := by rw [hxs3, hx2]; rfl
 refine Lx.y (Yx.ff (not' rfl) (by rw [hx2]; rfl)) rfl <| Lx.y (mv rfl) rfl <| Lx.gT rfl rfl rfl <| Lx.y (mv rfl) rfl <| Lx.gT rfl rfl rfl <| ?_
 refine Lx.c rfl rfl rfl (RAdd_ct T3 [97] _ hT3 (hM.mono hB04) (by rw [hds3]; omega)) (Pick.eq) rfl ?_
 rintro r6 B6 H6 ⟨hBB, T4, rfl, rfl, hT4, hb4, hds4, hxs4⟩ hB6
 have hBB2 := hBB.symm
 subst hBB2
 clear hB6
 rw [← hb4]
 have hx4 : T4.xs.map (·.f) = [[97]] := by rw [hxs4, hx3]; rfl
 have hdd : T4.ds.map Dc.abs = [(3#64, 0#64, VA 1)] := by rw [hds4, hds3, hds2]; rfl
 have hl4 : T4.ds.length = 1 := by rw [hds4, hds3]; exact hl2
 refine Lx.y (pickF rfl rfl) rfl <| Lx.nil <| ?_
 refine Xx.tn (k7 _ _ _ _ ?_)
 refine Cx.condB rfl (fun h8 => ?_) (fun h8 => ?_)
 ·
  exact absurd h8 (by rw [hx3]; decide)
 ·
  refine Cx.skip ?_
  refine Xx.tn (k6 _ _ _ _ ?_)
  refine Cx.seq (fun K9 k9 => ?_)
  refine Cx.seq (fun K10 k10 => ?_)
  refine Xx.perm (H' := tab T4 * (row b2 3 [i64 0] * R)) ?_ (by ac_rfl)
  refine freeze_tab hT4 fun B7 hB7 hR => ?_
  obtain ⟨x0, hx0, hxf0, hlx0⟩ := look_x (f := [97]) (xs := T4.xs) (by rw [hx4]; simp)
  have htk0 := hT4.idx x0 hx0
  rw [hxf0] at htk0
  obtain ⟨ts, hts, htk⟩ := tk_list htk0 [] []
  have htl : ts.length = 1 := by rw [inS_whole] at htk; rw [all_len htk0 (fun a b => keyD_n) hT4.nd htk]; exact hl4
  obtain ⟨t0, rfl⟩ := List.length_eq_one_iff.1 htl
  have ht0 : Dc.abs t0 = (3#64, 0#64, VA 1) := by
   have h9 : Dc.abs t0 ∈ T4.ds.map Dc.abs := List.mem_map.2 ⟨t0, hts t0 (by simp), rfl⟩
   rw [hdd] at h9; simpa using h9
  refine Cx.region <| Lx.y (mv rfl) rfl <| Lx.y (bld ti48 pl48 rfl rfl) rfl <| ?_
  refine Lx.cb rfl rfl rfl (RRange_ro T4 [97] [] [] _ hR) rfl ?_
  rintro v8 B8 ⟨c1, c2, c3, rfl, hc1, hc2, hc3⟩ hB8
  rw [hlx0] at hc2
  have hB78 := Frag.le_trans hB7 hB8
  refine Lx.nil ?_
  refine Xx.tn (k10 _ _ _ _ ?_)
  refine Cx.block ?_
  refine Cx.rangeG (σ := _) (Sc 2 rfl (Sub.nil _)) rfl rfl (Docs_it T4 x0.tb x0.d x0.c (keyD [97]) [] [] [t0] B8 (hT4.mono hB78) (hR.mono hB8) ((hR.2.2.2.2 x0 hx0).mono hB8) htk0.1 hts htk (fun y hy => keyD_tail (hT4.docs y hy)) c1 c2 c3 hc1 hc2 hc3) ((one_star _).symm) rfl (fun _ => rfl) (fun pre B' H' => H' = row b2 3 [i64 ((3 * pre.length : Nat) : Int)]) (fun _ _ _ _ => False) (fun pre x B1 ρ' B' H' => ∃ ba, pre = [] ∧ x.n = 3#64 ∧ ρ' = [(3, .pointer (some ⟨ba, 0, none⟩))] ∧ B' = B1 ∧ H' = row ba 36 x.cells * row b2 3 [i64 0]) (rfl) ?_ ?_ ?_ ?_
  ·rintro lz Nz wz pre x B0 B1 H1 F K hxs hB0 hB01 hJ hK
   subst hJ
   obtain ⟨⟨post, hpo⟩, hlast⟩ := hxs
   have hxok := hlast x (by simp)
   obtain ⟨Ap, cp, An, cn, hsh⟩ := cells_shape hxok
   obtain rfl : pre = [] := by
    have := congrArg List.length hpo
    simp at this
    exact List.length_eq_zero_iff.1 (by omega)
   have hxa : Dc.abs x = (3#64, 0#64, VA 1) := by rw [← ht0]; simp at hpo; exact hpo.1.symm
   have hx3n : x.n = 3#64 := congrArg Prod.fst hxa
   refine Cx.region ?_
   refine Lx.new (allocO ti36) rfl (fun ba => ?_)
   refine Lx.st (stA (d := .bool) (cs' := x.cells) sz36 rfl rfl (by rw [hsh]; rfl) (by rw [hsh]; rfl) (by rw [hsh]; show 0 + 8 ≤ 8; omega) (st_all rfl (by rw [hsh]; rfl))) ?_
   refine Lx.nil ?_
   refine Xx.tn ?_
   exact Xx.perm (Xx.sub (hK _ _ (row ba 36 x.cells * row b2 3 [i64 0]) ⟨ba, rfl, hx3n, rfl, rfl, rfl⟩ (Frag.le_refl _)) (Sc 3 rfl (Sc 2 rfl (Sub.nil _)))) (by rw [star_assoc]; rfl)
  ·rintro lz Nz wz pre x B1 F ρ' B' H' hxs hB1 hBx hAS
   obtain ⟨ba, rfl, hx3n, rfl, hBB, rfl⟩ := hAS
   have hBB2 := hBB.symm
   subst hBB2
   simp only [star_assoc]
   refine Cx.block <| Cx.region <| Lx.y (ld U3 rfl rfl rfl) rfl <| Lx.y (fa' fo36_0 rfl) rfl <| Lx.y (Yx.val (ld U34 rfl rfl rfl) (show _ = u64 3#64 by rw [← hx3n])) rfl <| Lx.y (cvI rfl U34 U3 (by first | exact wrap64 (by omega) (by omega) | rfl)) rfl <| Lx.y (Yx.val (add rfl rfl (show IntKind.i64.wrap _ = ((3 : Nat) : Int) from rfl)) (show _ = i64 ((3 : Nat) : Int) from rfl)) rfl <| ?_
   refine Lx.st (stO U3 sz3 rfl rfl rfl (by simp) rfl) ?_
   refine Lx.nil <| Xx.bn <| ?_
   refine Xx.dropB ba ?_
   exact Xx.rqn rfl hBx rfl
  ·rintro D xs B' H' hxs hBx hJ
   subst hJ
   have hxl : xs.length = 1 := by have := congrArg List.length hxs; simpa using this
   refine Xx.bn ?_
   refine Xx.tn (k9 _ _ _ _ ?_)
   refine Cx.seq (fun K12 k12 => ?_)
   refine Cx.region <| Lx.y (ld U3 rfl rfl rfl) rfl <| Lx.y (Yx.tt (eqI rfl rfl) (decide_eq_true (by rw [hxl]; rfl))) rfl <| Lx.y (mv rfl) rfl <| Lx.gT rfl rfl rfl <| Lx.y (mv rfl) rfl <| Lx.gT rfl rfl rfl <| ?_
   refine Lx.cp rfl rfl rfl (RLen_ro T4 _ (hR.mono (Frag.le_trans hB8 hBx))) rfl ?_
   refine Lx.gT rfl rfl rfl <| Lx.y (Yx.tt (eqI rfl rfl) (decide_eq_true (by rw [hl4]; rfl))) rfl <| Lx.y (pickT rfl rfl) rfl <| Lx.y (asg rfl) rfl <| Lx.nil <| ?_
   refine Xx.tn (k12 _ _ _ _ ?_)
   refine Cx.ret ?_
   refine Xx.dropB b2 ?_
   exact Xx.rBM (Ds := [D]) (res1 rfl rfl) rfl (Frag.le_trans hB04 (Frag.le_trans hB78 hBx)) (by simp only [marks_cons, marks_nil, star_one, one_star])
  ·rintro D c pre B' H' hBx hJx
   exact hJx.elim
end RwI
end Go.Proofs.YtdidpocakipinaaGreatDoor
namespace Go.Proofs.YtdidpocakipinaaGreatDoor
open Go.SL Go.RowKit
set_option maxRecDepth 100000
open Ke1 Ke3 Ke4 Ke5 Ke6 Ke7 Ke8 Ke9 KeA KeB KeC KeD KeE KeF KeG KeI RgA RgB BtB BtC BtD BtE BtG BtX BtH BtI BtF BtJ BtK BtL BtM BtN BtO BtR BtY BtZ DrA DrB DrC DrD DrE DrF RwA RwB BtQ BtS RwC RwD RwE RwF RwG RwH RwI
namespace RwJ
theorem sz3 : (Tryz.prog.info? 3).map (·.size) = some 1 := by kernel_rfl
theorem sz9 : (Tryz.prog.info? 9).map (·.size) = some 1 := by kernel_rfl
theorem sz25 : (Tryz.prog.info? 25).map (·.size) = some 6 := by kernel_rfl
theorem sz36 : (Tryz.prog.info? 36).map (·.size) = some 8 := by kernel_rfl
theorem sz48 : (Tryz.prog.info? 48).map (·.size) = some 2 := by kernel_rfl
theorem ti3 : TI Tryz.prog 3 [.int .i64 0] 1 8 := TI.of (by kernel_rfl) rfl rfl
theorem ti36 : TI Tryz.prog 36 [.int .u64 0, .int .u64 0, .int .i64 0, .bool false, .int .i64 0, str [], .slice none 0 0, .slice none 0 0] 8 104 := TI.of (by kernel_rfl) rfl rfl
theorem ti48 : TI Tryz.prog 48 [str [], str []] 2 32 := TI.of (by kernel_rfl) rfl rfl
theorem pl36 : PL Tryz.prog 36 [(0, 1), (1, 1), (2, 6)] := PL.of U36 (by kernel_rfl)
theorem pl48 : PL Tryz.prog 48 [(0, 1), (1, 1)] := PL.of U48 (by kernel_rfl)
end RwJ
end Go.Proofs.YtdidpocakipinaaGreatDoor
namespace Go.Proofs.YtdidpocakipinaaGreatDoor
open Go.SL Go.RowKit
set_option maxRecDepth 100000
open Ke1 Ke3 Ke4 Ke5 Ke6 Ke7 Ke8 Ke9 KeA KeB KeC KeD KeE KeF KeG KeI RgA RgB BtB BtC BtD BtE BtG BtX BtH BtI BtF BtJ BtK BtL BtM BtN BtO BtR BtY BtZ DrA DrB DrC DrD DrE DrF RwA RwB BtQ BtS RwC RwD RwE RwF RwG RwH RwI
namespace RwK
theorem sz9 : (Tryz.prog.info? 9).map (·.size) = some 1 := by kernel_rfl
theorem sz25 : (Tryz.prog.info? 25).map (·.size) = some 6 := by kernel_rfl
theorem sz36 : (Tryz.prog.info? 36).map (·.size) = some 8 := by kernel_rfl
theorem sz48 : (Tryz.prog.info? 48).map (·.size) = some 2 := by kernel_rfl
theorem sz51 : (Tryz.prog.info? 51).map (·.size) = some 9 := by kernel_rfl
theorem ti25 : TI Tryz.prog 25 [.int .i64 0, .bool false, .int .i64 0, str [], .slice none 0 0, .slice none 0 0] 6 88 := TI.of (by kernel_rfl) rfl rfl
theorem ti36 : TI Tryz.prog 36 [.int .u64 0, .int .u64 0, .int .i64 0, .bool false, .int .i64 0, str [], .slice none 0 0, .slice none 0 0] 8 104 := TI.of (by kernel_rfl) rfl rfl
theorem fo36_0 : FO Tryz.prog 36 0 0 1 false := FO.of U36 rfl rfl (by kernel_rfl) U34 rfl rfl
theorem fo51_0 : FO Tryz.prog 51 0 0 1 false := FO.of U51 rfl rfl (by kernel_rfl) U3 rfl rfl
theorem fo51_1 : FO Tryz.prog 51 1 1 1 false := FO.of U51 rfl rfl (by kernel_rfl) U34 rfl rfl
theorem fo51_2 : FO Tryz.prog 51 2 2 6 true := FO.of U51 rfl rfl (by kernel_rfl) U25 rfl rfl
theorem pl36 : PL Tryz.prog 36 [(0, 1), (1, 1), (2, 6)] := PL.of U36 (by kernel_rfl)
structure Ac where
  kind : Int
  doc : BitVec 64
  v : V
  cs : List Value
  f : List UInt8
def acv (a : Ac) : List Value := i64 a.kind :: u64 a.doc :: (a.cs ++ [str a.f])
def AcOk (B : Frag) (a : Ac) : Prop := a.cs.length = 6 ∧ ∃ d, ValR B d a.v a.cs
theorem AcOk.mono {B B' : Frag} {a : Ac} (h : AcOk B a) (hB : B.le B') : AcOk B' a := ⟨h.1, let ⟨d, h2⟩ := h.2; ⟨d, h2.mono hB⟩⟩
theorem ac_at {B : Frag} {A : Option Addr} {l : List Ac} (h6 : ∀ a ∈ l, a.cs.length = 6) (hR : 0 < l.length → RoS B 9 A l.length (l.flatMap acv)) {i : Nat} (hi : i < l.length) : ∃ b o cs et fz, A = some ⟨b, o, none⟩ ∧ B b = some (.cells (List.toArray cs) et fz) ∧ (cs.drop (o + i * 9)).take 9 = acv l[i] := by
  obtain ⟨hl, ⟨_, h0⟩ | ⟨b, o, cs, et, fz, hA, hB, hx⟩⟩ := hR (by omega)
  · omega
  · refine ⟨b, o, cs, et, fz, hA, hB, ?_⟩
    have hlen : ∀ m : List Ac, (∀ a ∈ m, a.cs.length = 6) → (m.flatMap acv).length = m.length * 9 := by
      intro m
      induction m with
      | nil => intro _; rfl
      | cons a m ih =>
        intro h
        rw [List.flatMap_cons, List.length_append, ih fun b hb => h b (by simp [hb])]
        have := h a (by simp)
        unfold acv
        simp [this]; omega
    have hat : ∀ (m : List Ac) (k : Nat) (hk : k < m.length), (∀ a ∈ m, a.cs.length = 6) → ((m.flatMap acv).drop (k * 9)).take 9 = acv m[k] := by
      intro m
      induction m with
      | nil => intro k hk; simp at hk
      | cons a m ih =>
        intro k hk h
        have h9 : (acv a).length = 9 := by have := h a (by simp); unfold acv; simp [this]
        rw [List.flatMap_cons]
        cases k with
        | zero => rw [Nat.zero_mul, List.drop_zero, List.take_left' h9]; rfl
        | succ k =>
          rw [show (k + 1) * 9 = (acv a).length + k * 9 by rw [h9]; omega, ← List.drop_drop, List.drop_left]
          exact ih k (by simpa using hk) fun b hb => h b (by simp [hb])
    have h1 := hat l i hi h6
    rw [← hx, List.drop_take, List.take_take, List.drop_drop, Nat.min_eq_left (by omega)] at h1
    exact h1
theorem take_at {cs vs : List Value} {o n j : Nat} {v : Value} (h : (cs.drop o).take n = vs) (hj : vs[j]? = some v) (hn : j < n) : cs[o + j]? = some v := by
  rw [← h, List.getElem?_take, if_pos hn, List.getElem?_drop] at hj; exact hj
theorem inS_keys (lo hi : List UInt8) (a : List (List UInt8 × List UInt8)) : (inS lo hi a).map (·.1) = (a.map (·.1)).filter (BtS.hasB lo hi) := by
  unfold inS
  induction a with
  | nil => rfl
  | cons p a ih =>
    by_cases h : BtS.hasB lo hi p.1 = true
    · simp [List.filter_cons, h, ih]
    · simp [List.filter_cons, h, ih]
theorem abs_drop (n : BitVec 64) (ds : List Dc) : (dropD n ds).map Dc.abs = (ds.map Dc.abs).filter (fun p => decide (p.1 ≠ n)) := by
  unfold dropD
  induction ds with
  | nil => rfl
  | cons d ds ih =>
    by_cases h : d.n = n
    · rw [List.filter_cons_of_neg (by simp [h]), ih, List.map_cons, List.filter_cons_of_neg (by simp [Dc.abs, h])]
    · rw [List.filter_cons_of_pos (by simp [h]), List.map_cons, ih, List.map_cons, List.filter_cons_of_pos (by simp [Dc.abs, h])]
theorem keys_n {f : List UInt8} : ∀ {a b : List Dc}, a.map (keyD f) = b.map (keyD f) → a.map (·.n) = b.map (·.n) := by
  intro a
  induction a with
  | nil => intro b h; cases b with
    | nil => rfl
    | cons y b => cases h
  | cons x a ih => intro b h; cases b with
    | nil => cases h
    | cons y b =>
      rw [List.map_cons, List.map_cons] at h
      injection h with h1 h2
      rw [List.map_cons, List.map_cons, keyD_n h1, ih h2]
end RwK
end Go.Proofs.YtdidpocakipinaaGreatDoor
