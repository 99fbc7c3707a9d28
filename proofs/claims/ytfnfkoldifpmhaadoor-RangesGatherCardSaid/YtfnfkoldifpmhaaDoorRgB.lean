/-
  A struct of one name and a number.
-/
import Derived.Test.YtfnfkoldifpmhaaDoorProg
import Derived.Test.YtfnfkoldifpmhaaDoorSlj
import Derived.Test.YtfnfkoldifpmhaaDoorRgA
namespace Go.Proofs.YtfnfkoldifpmhaaDoor
open Go.SL Go.RowKit
set_option linter.unusedVariables false
set_option linter.unusedSimpArgs false
set_option maxRecDepth 100000
open Ke1 Ke3 Ke4 Ke5 Ke6 Ke7 Ke8 Ke9 KeA KeB KeC KeD KeE KeF KeG KeI RgA
namespace RgB
theorem sz9 : (Tryd.prog.info? 9).map (·.size) = some 1 := by kernel_rfl
theorem sz23 : (Tryd.prog.info? 23).map (·.size) = some 1 := by kernel_rfl
theorem sz24 : (Tryd.prog.info? 24).map (·.size) = some 1 := by kernel_rfl
theorem sz26 : (Tryd.prog.info? 26).map (·.size) = some 6 := by kernel_rfl
theorem sz58 : (Tryd.prog.info? 58).map (·.size) = some 7 := by kernel_rfl
theorem ti9 : TI Tryd.prog 9 [str []] 1 16 := TI.of (by kernel_rfl) rfl rfl
theorem ti26 : TI Tryd.prog 26 [.int .i64 0, .bool false, .int .i64 0, str [], .slice none 0 0, .slice none 0 0] 6 88 := TI.of (by kernel_rfl) rfl rfl
theorem ti58 : TI Tryd.prog 58 [str [], .int .i64 0, .bool false, .int .i64 0, str [], .slice none 0 0, .slice none 0 0] 7 104 := TI.of (by kernel_rfl) rfl rfl
theorem fo26_4 : FO Tryd.prog 26 4 4 1 false := FO.of Tryd.underlying26 rfl rfl (by kernel_rfl) Tryd.underlying23 rfl rfl
theorem fo26_5 : FO Tryd.prog 26 5 5 1 false := FO.of Tryd.underlying26 rfl rfl (by kernel_rfl) Tryd.underlying24 rfl rfl
theorem fo58_0 : FO Tryd.prog 58 0 0 1 false := FO.of Tryd.underlying58 rfl rfl (by kernel_rfl) Tryd.underlying9 rfl rfl
theorem fo58_1 : FO Tryd.prog 58 1 1 6 true := FO.of Tryd.underlying58 rfl rfl (by kernel_rfl) Tryd.underlying26 rfl rfl
theorem pl26 : PL Tryd.prog 26 [(0, 1), (1, 1), (2, 1), (3, 1), (4, 1), (5, 1)] := PL.of Tryd.underlying26 (by kernel_rfl)
theorem pl58 : PL Tryd.prog 58 [(0, 1), (1, 6)] := PL.of Tryd.underlying58 (by kernel_rfl)

set_option maxHeartbeats 1000000 in
theorem InsF_end (A : Option Addr) (n c : Nat) (xs : List Value) (vb : Nat) (etv : TypeId) (news : List Value) (B : Frag) (hns : news.length = 7) (hn1 : news.all (·.oneCell') = true) (hbd : (n + 1) * 104 ≤ 140737488355328) : Ct Tryd.prog 24 [.slice A n c, i64 (n : Nat), .slice (some ⟨vb, 0, none⟩) 1 1] B (sbuf 58 7 A n c xs * row vb etv news) (fun v B' H' => ∃ A' c', v = .slice A' (n + 1) c' ∧ B' = B ∧ H' = sbuf 58 7 A' (n + 1) c' (xs ++ news) ∧ (∃ b, A' = some ⟨b, 0, none⟩) ∧ n + 1 ≤ c') := by
  refine Ct.of_body Tryd.func24 rfl (nt := 95) rfl (by kernel_rfl) rfl ?_
  intro N0 w0 R
  rw [star_assoc]
  refine Cx.seq (fun K1 k1 => ?_)
  refine Cx.region ?_
  refine Lx.y (asg rfl) rfl ?_
  refine Lx.nil ?_
  refine Xx.tn (k1 _ _ _ _ ?_)
  refine Cx.seq (fun K2 k2 => ?_)
  refine Cx.region ?_
  refine Lx.y (mv rfl) rfl ?_
  refine Lx.y (mv rfl) rfl ?_
  refine Lx.y (sl1V Tryd.underlying54 sz58 rfl rfl (Int.toNat_natCast _) (by omega) (by omega)) rfl ?_
  refine Lx.nil ?_
  refine Xx.tn (k2 _ _ _ _ ?_)
  refine Cx.seq (fun K3 k3 => ?_)
  refine Cx.region ?_
  refine Lx.y (mv rfl) rfl ?_
  refine Lx.y (lenV (ty' := 0) Tryd.underlying54 rfl) rfl ?_
  refine Lx.y (asg rfl) rfl ?_
  refine Lx.nil ?_
  refine Xx.tn (k3 _ _ _ _ ?_)
  refine Cx.seq (fun K4 k4 => ?_)
  refine Cx.seq (fun K5 k5 => ?_)
  refine Cx.region ?_
  refine Lx.y (mv rfl) rfl ?_
  refine Lx.y (eqI rfl rfl) rfl ?_
  refine Lx.nil ?_
  refine Xx.tn (k5 _ _ _ _ ?_)
  refine Cx.condD rfl (fun h6 => ?_) (fun h6 => ?_)
  · skip
    exact absurd h6 (by decide)
  · skip
    refine Cx.skip ?_
    refine Xx.tn (k4 _ _ _ _ ?_)
    refine Cx.seq (fun K7 k7 => ?_)
    refine Cx.region ?_
    refine Lx.y (mv rfl) rfl ?_
    refine Lx.y (lenV (ty' := 0) Tryd.underlying54 rfl) rfl ?_
    refine Lx.y (asg rfl) rfl ?_
    refine Lx.nil ?_
    refine Xx.tn (k7 _ _ _ _ ?_)
    refine Cx.seq (fun K8 k8 => ?_)
    refine Cx.seq (fun K9 k9 => ?_)
    refine Cx.region ?_
    refine Lx.y (mv rfl) rfl ?_
    refine Lx.y (mv rfl) rfl ?_
    refine Lx.y (eqI rfl rfl) rfl ?_
    refine Lx.nil ?_
    refine Xx.tn (k9 _ _ _ _ ?_)
    refine Cx.condD rfl (fun h10 => ?_) (fun h10 => ?_)
    · skip
      refine Cx.seq (fun K11 k11 => ?_)
      refine Cx.region ?_
      refine Lx.y (mv rfl) rfl ?_
      refine Lx.y (mv rfl) rfl ?_
      refine Lx.o (appN (et := 58) (n + 1) news (xs ++ news) Tryd.underlying54 Tryd.underlying54 ti58 rfl rfl (by rw [hns]) (by rw [List.drop_zero, List.take_of_length_le (by omega)]) hn1 (by omega) (by omega) rfl rfl) rfl (fun v B' H' hΦ hB => ?_)
      obtain ⟨A3, c3, rfl, hA3, hl3, hc3, hBB, rfl⟩ := hΦ
      obtain rfl := hBB.symm
      clear hB
      refine Lx.y (asg rfl) rfl ?_
      refine Lx.nil ?_
      refine Xx.tn (k11 _ _ _ _ ?_)
      refine Cx.ret ?_
      refine Xx.tr ?_
      exact Xx.dropB vb (Xx.ret1 rfl rfl ⟨A3, c3, rfl, rfl, rfl, hA3 (by omega), hc3⟩ (Frag.le_refl _) rfl)
    · skip
      exact absurd rfl h10

set_option maxHeartbeats 1000000 in
theorem InsF_mid (b : Nat) (sp : List Value) (i n c : Nat) (xs : List Value) (vb : Nat) (etv : TypeId) (news : List Value) (B : Frag) (hi : i < n) (hxl : xs.length = n * 7) (hnc : n ≤ c) (hcl : (xs ++ sp).length = c * 7) (hx1 : xs.all (·.oneCell') = true) (hns : news.length = 7) (hn1 : news.all (·.oneCell') = true) (hbd : (n + 1) * 104 ≤ 140737488355328) : Ct Tryd.prog 24 [.slice (some ⟨b, 0, none⟩) n c, i64 (i : Nat), .slice (some ⟨vb, 0, none⟩) 1 1] B (row vb etv news * row b 58 (xs ++ sp)) (fun v B' H' => ∃ b' c' sp', v = .slice (some ⟨b', 0, none⟩) (n + 1) c' ∧ B' = B ∧ H' = row b' 58 (xs.take (i * 7) ++ news ++ xs.drop (i * 7) ++ sp') ∧ (xs.take (i * 7) ++ news ++ xs.drop (i * 7) ++ sp').length = c' * 7 ∧ n + 1 ≤ c') := by
  have hxl2 := hcl
  rw [List.length_append] at hxl2
  have hDl : (xs.drop (i * 7)).length = (n - i) * 7 := by rw [List.length_drop]; omega
  have hD1 : (xs.drop (i * 7)).all (·.oneCell') = true := by rw [List.all_eq_true] at hx1 ⊢; exact fun v hv => hx1 v (List.mem_of_mem_drop hv)
  have hTl : (xs.take (i * 7)).length = i * 7 := by rw [List.length_take]; omega
  refine Ct.of_body Tryd.func24 rfl (nt := 95) rfl (by kernel_rfl) rfl ?_
  intro N0 w0 R
  rw [star_assoc]
  refine Cx.seq (fun K1 k1 => ?_)
  refine Cx.region ?_
  refine Lx.y (asg rfl) rfl ?_
  refine Lx.nil ?_
  refine Xx.tn (k1 _ _ _ _ ?_)
  refine Cx.seq (fun K2 k2 => ?_)
  refine Cx.region ?_
  refine Lx.y (mv rfl) rfl ?_
  refine Lx.y (mv rfl) rfl ?_
  refine Lx.y (sl1V Tryd.underlying54 sz58 rfl rfl (Int.toNat_natCast _) (by omega) (by omega)) rfl ?_
  refine Lx.nil ?_
  refine Xx.tn (k2 _ _ _ _ ?_)
  refine Cx.seq (fun K3 k3 => ?_)
  refine Cx.region ?_
  refine Lx.y (mv rfl) rfl ?_
  refine Lx.y (lenV (ty' := 0) Tryd.underlying54 rfl) rfl ?_
  refine Lx.y (asg rfl) rfl ?_
  refine Lx.nil ?_
  refine Xx.tn (k3 _ _ _ _ ?_)
  refine Cx.seq (fun K4 k4 => ?_)
  refine Cx.seq (fun K5 k5 => ?_)
  refine Cx.region ?_
  refine Lx.y (mv rfl) rfl ?_
  refine Lx.y (eqI rfl rfl) rfl ?_
  refine Lx.nil ?_
  refine Xx.tn (k5 _ _ _ _ ?_)
  refine Cx.condD rfl (fun h6 => ?_) (fun h6 => ?_)
  · skip
    exact absurd h6 (by decide)
  · skip
    refine Cx.skip ?_
    refine Xx.tn (k4 _ _ _ _ ?_)
    refine Cx.seq (fun K7 k7 => ?_)
    refine Cx.region ?_
    refine Lx.y (mv rfl) rfl ?_
    refine Lx.y (lenV (ty' := 0) Tryd.underlying54 rfl) rfl ?_
    refine Lx.y (asg rfl) rfl ?_
    refine Lx.nil ?_
    refine Xx.tn (k7 _ _ _ _ ?_)
    refine Cx.seq (fun K8 k8 => ?_)
    refine Cx.seq (fun K9 k9 => ?_)
    refine Cx.region ?_
    refine Lx.y (mv rfl) rfl ?_
    refine Lx.y (mv rfl) rfl ?_
    refine Lx.y (eqI rfl rfl) rfl ?_
    refine Lx.nil ?_
    refine Xx.tn (k9 _ _ _ _ ?_)
    refine Cx.condD rfl (fun h10 => ?_) (fun h10 => ?_)
    · skip
      exact absurd h10 (by omega)
    · skip
      refine Cx.skip ?_
      refine Xx.tn (k8 _ _ _ _ ?_)
      refine Cx.seq (fun K11 k11 => ?_)
      refine Cx.seq (fun K12 k12 => ?_)
      refine Cx.region ?_
      refine Lx.y (mv rfl) rfl ?_
      refine Lx.y (mv rfl) rfl ?_
      refine Lx.y (add rfl rfl (by first | exact wrap64 (by omega) (by omega) | rfl)) rfl ?_
      refine Lx.y (mv rfl) rfl ?_
      refine Lx.y (capV Tryd.underlying54 rfl) rfl ?_
      refine Lx.y (gtr rfl rfl) rfl ?_
      refine Lx.nil ?_
      refine Xx.tn (k12 _ _ _ _ ?_)
      refine Cx.condD rfl (fun h13 => ?_) (fun h13 => ?_)
      · skip
        have hno := h13
        refine Cx.seq (fun K14 k14 => ?_)
        refine Cx.region ?_
        refine Lx.y (mv rfl) rfl ?_
        refine Lx.y (mv rfl) rfl ?_
        refine Lx.y (sl2V Tryd.underlying54 sz58 rfl rfl (Int.toNat_natCast _) (by omega) (by omega)) rfl ?_
        refine Lx.y (mv rfl) rfl ?_
        refine Lx.y (mv rfl) rfl ?_
        refine Lx.y (add rfl rfl (by first | exact wrap64 (by omega) (by omega) | rfl)) rfl ?_
        refine Lx.y (mv rfl) rfl ?_
        refine Lx.y (sub rfl rfl (show IntKind.i64.wrap _ = ((n + 1 - i : Nat) : Int) by rw [wrap64 (by omega) (by omega)]; omega)) rfl ?_
        refine Lx.o (amO (olds := xs.take (i * 7)) (m := n + 1 - i) Tryd.underlying54 Tryd.underlying3 ti58 rfl rfl (SrcH.own (b := b) (o := 0) (i * 7) (by rw [List.drop_zero]; exact List.take_append_of_le_length (by omega))) hTl (by omega) (by omega) (by rw [show i + (n + 1 - i) = n + 1 by omega]; exact hbd)) rfl (fun v B' H' hΦ hB => ?_)
        obtain ⟨b9, c9, rest, rfl, hc9, hrl, hBB, rfl⟩ := hΦ
        obtain rfl := hBB.symm
        clear hB
        rw [show i + (n + 1 - i) = n + 1 by omega] at hc9 ⊢
        refine Lx.y (asg rfl) rfl ?_
        refine Lx.nil ?_
        refine Xx.tn (k14 _ _ _ _ ?_)
        refine Cx.seq (fun K15 k15 => ?_)
        refine Cx.region ?_
        refine Lx.y (mv rfl) rfl ?_
        refine Lx.y (mv rfl) rfl ?_
        refine Lx.y (sl1A i Tryd.underlying54 sz58 rfl rfl rfl (by omega) (by omega)) rfl ?_
        refine Lx.y (mv rfl) rfl ?_
        refine Lx.o (cpO (cs' := (xs.take (i * 7) ++ news ++ rest.drop 7)) 1 Tryd.underlying54 sz58 rfl rfl (show Nat.min _ _ = _ by first | rfl | (simp only [Nat.min_def]; split <;> omega)) (SrcH.own (b := vb) (o := 0) (news := news) 7 (by rw [List.drop_zero, List.take_of_length_le (by omega)])) (by rw [hns]) hn1 (by rw [Nat.zero_add, List.length_append, hTl]; omega) (by rw [Nat.zero_add]; exact ins_grow1 hTl hns (by omega))) rfl (fun v B' H' hΦ hB => ?_)
        obtain ⟨rfl, hBB, rfl⟩ := hΦ
        obtain rfl := hBB.symm
        clear hB
        refine Lx.nil ?_
        refine Xx.tn (k15 _ _ _ _ ?_)
        refine Cx.seq (fun K16 k16 => ?_)
        refine Cx.drawn (by kernel_rfl) ?_
        refine Dx.p (i := 0) rfl (by kernel_rfl) (mv rfl) rfl ?_
        refine Dx.p (i := 1) rfl (by kernel_rfl) (mv rfl) rfl ?_
        refine Dx.p (i := 2) rfl (by kernel_rfl) (mv rfl) rfl ?_
        refine Dx.p (i := 3) rfl (by kernel_rfl) (add rfl rfl (show IntKind.i64.wrap _ = ((i + 1 : Nat) : Int) by rw [wrap64 (by omega) (by omega)]; rfl)) rfl ?_
        refine Dx.p (i := 4) rfl (by kernel_rfl) (sl1A (i + 1) Tryd.underlying54 sz58 rfl rfl rfl (by omega) (by omega)) rfl ?_
        refine Dx.p (i := 5) rfl (by kernel_rfl) (mv rfl) rfl ?_
        refine Dx.p (i := 6) rfl (by kernel_rfl) (mv rfl) rfl ?_
        refine Dx.p (i := 7) rfl (by kernel_rfl) (sl1A i Tryd.underlying54 sz58 rfl rfl rfl (by omega) (by omega)) rfl ?_
        refine Dx.one (i := 8) (by kernel_rfl) ?_
        refine Dstep.o (i := 8) rfl (cpO (cs' := (xs.take (i * 7) ++ news ++ xs.drop (i * 7) ++ (rest.drop 7).drop (xs.drop (i * 7)).length)) (n - i) Tryd.underlying54 sz58 rfl rfl (show Nat.min _ _ = _ by first | rfl | (simp only [Nat.min_def]; split <;> omega)) (SrcH.own (b := b) (o := 0 + i * 7) (news := xs.drop (i * 7)) ((n - i) * 7) (by rw [Nat.zero_add, List.drop_append_of_le_length (by omega), List.take_append_of_le_length (by omega), List.take_of_length_le (by omega)])) hDl hD1 (by simp only [List.length_append, List.length_drop, hTl, hns, hDl]; omega) (by rw [Nat.zero_add, show (i + 1) * 7 = i * 7 + 7 by omega]; exact ins_grow2 hTl hns)) rfl (fun v B' H' hΦ hB => ?_)
        obtain ⟨rfl, rfl, rfl⟩ := hΦ
        clear hB
        refine ⟨JOk.top, ?_⟩
        refine Dx.done (by kernel_rfl) ?_
        refine Xx.tn (k16 _ _ _ _ ?_)
        refine Cx.seq (fun K17 k17 => ?_)
        refine Cx.region ?_
        refine Lx.y (mv rfl) rfl ?_
        refine Lx.y (asg rfl) rfl ?_
        refine Lx.nil ?_
        refine Xx.tn (k17 _ _ _ _ ?_)
        refine Cx.ret ?_
        refine Xx.tr ?_
        exact Xx.dropB vb (Xx.dropB b (Xx.ret1 rfl rfl ⟨b9, c9, _, rfl, rfl, rfl, by simp only [List.length_append, List.length_drop, hTl, hns, hDl]; omega, hc9⟩ (Frag.le_refl _) rfl))
      · skip
        have hno := h13
        refine Cx.skip ?_
        refine Xx.tn (k11 _ _ _ _ ?_)
        refine Cx.seq (fun K18 k18 => ?_)
        refine Cx.region ?_
        refine Lx.y (mv rfl) rfl ?_
        refine Lx.y (mv rfl) rfl ?_
        refine Lx.y (mv rfl) rfl ?_
        refine Lx.y (add rfl rfl (show IntKind.i64.wrap _ = ((n + 1 : Nat) : Int) by rw [wrap64 (by omega) (by omega)]; rfl)) rfl ?_
        refine Lx.y (sl2V Tryd.underlying54 sz58 rfl rfl (Int.toNat_natCast _) (by omega) (by omega)) rfl ?_
        refine Lx.y (asg rfl) rfl ?_
        refine Lx.nil ?_
        refine Xx.tn (k18 _ _ _ _ ?_)
        refine Cx.seq (fun K19 k19 => ?_)
        refine Cx.seq (fun K20 k20 => ?_)
        refine Cx.region ?_
        refine Lx.y (mv rfl) rfl ?_
        refine Lx.y (mv rfl) rfl ?_
        refine Lx.y (mv rfl) rfl ?_
        refine Lx.y (mv rfl) rfl ?_
        refine Lx.y (add rfl rfl (show IntKind.i64.wrap _ = ((i + 1 : Nat) : Int) by rw [wrap64 (by omega) (by omega)]; rfl)) rfl ?_
        refine Lx.y (sl1V Tryd.underlying54 sz58 rfl rfl (Int.toNat_natCast _) (by omega) (by omega)) rfl ?_
        rw [show subA (some ⟨b, 0, none⟩) c (i + 1) 7 = (if c = i + 1 then some ⟨b, 0, none⟩ else some ⟨b, 0 + (i + 1) * 7, none⟩) by unfold subA; split <;> simp [add_mk]]
        have hcne : ¬ c = i + 1 := by omega
        rw [if_neg hcne]
        refine Lx.y (extc rfl rfl (ovQ (tS := 54) (tR := 4) Tryd.func41 (by kernel_rfl) (by kernel_rfl) (by kernel_rfl) (by kernel_rfl) Tryd.underlying54 sz58 rfl (by intro z; have h9 := congrArg List.length z; rw [List.length_append, List.length_nil] at h9; omega))) rfl ?_
        refine Lx.y (not' rfl) rfl ?_
        refine Lx.nil ?_
        refine Xx.tn (k20 _ _ _ _ ?_)
        refine Cx.condT rfl ?_
        refine Cx.seq (fun K21 k21 => ?_)
        refine Cx.drawn (by kernel_rfl) ?_
        refine Dx.p (i := 0) rfl (by kernel_rfl) (mv rfl) rfl ?_
        refine Dx.p (i := 1) rfl (by kernel_rfl) (mv rfl) rfl ?_
        refine Dx.p (i := 2) rfl (by kernel_rfl) (mv rfl) rfl ?_
        refine Dx.p (i := 3) rfl (by kernel_rfl) (add rfl rfl (show IntKind.i64.wrap _ = ((i + 1 : Nat) : Int) by rw [wrap64 (by omega) (by omega)]; rfl)) rfl ?_
        refine Dx.p (i := 4) rfl (by kernel_rfl) (sl1A (i + 1) Tryd.underlying54 sz58 rfl rfl rfl (by omega) (by omega)) rfl ?_
        refine Dx.p (i := 5) rfl (by kernel_rfl) (mv rfl) rfl ?_
        refine Dx.p (i := 6) rfl (by kernel_rfl) (mv rfl) rfl ?_
        refine Dx.p (i := 7) rfl (by kernel_rfl) (sl1A i Tryd.underlying54 sz58 rfl rfl rfl (by omega) (by omega)) rfl ?_
        refine Dx.one (i := 8) (by kernel_rfl) ?_
        refine Dstep.o (i := 8) rfl (cpO (cs' := ((xs ++ sp).take (i * 7 + 7) ++ xs.drop (i * 7) ++ (xs ++ sp).drop ((n + 1) * 7))) (n - i) Tryd.underlying54 sz58 rfl rfl (show Nat.min _ _ = _ by first | rfl | (simp only [Nat.min_def]; split <;> omega)) (SrcH.own (b := b) (o := 0 + i * 7) (news := xs.drop (i * 7)) ((n - i) * 7) (by rw [Nat.zero_add, List.drop_append_of_le_length (by omega), List.take_append_of_le_length (by omega), List.take_of_length_le (by omega)])) hDl hD1 (by rw [List.length_append]; omega) (by rw [Nat.zero_add, hDl, show (i + 1) * 7 = i * 7 + 7 by omega, show i * 7 + 7 + (n - i) * 7 = (n + 1) * 7 by omega])) rfl (fun v B' H' hΦ hB => ?_)
        obtain ⟨rfl, rfl, rfl⟩ := hΦ
        clear hB
        refine ⟨JOk.top, ?_⟩
        refine Dx.done (by kernel_rfl) ?_
        refine Xx.tn (k21 _ _ _ _ ?_)
        refine Cx.seq (fun K22 k22 => ?_)
        refine Cx.region ?_
        refine Lx.y (mv rfl) rfl ?_
        refine Lx.y (mv rfl) rfl ?_
        refine Lx.y (sl1A i Tryd.underlying54 sz58 rfl rfl rfl (by omega) (by omega)) rfl ?_
        refine Lx.y (mv rfl) rfl ?_
        refine Lx.o (cpO (cs' := (xs.take (i * 7) ++ news ++ xs.drop (i * 7) ++ (xs ++ sp).drop ((n + 1) * 7))) 1 Tryd.underlying54 sz58 rfl rfl (show Nat.min _ _ = _ by first | rfl | (simp only [Nat.min_def]; split <;> omega)) (SrcH.own (b := vb) (o := 0) (news := news) 7 (by rw [List.drop_zero, List.take_of_length_le (by omega)])) (by rw [hns]) hn1 (by simp only [List.length_append, List.length_take, List.length_drop, hDl]; omega) (by rw [Nat.zero_add]; exact ins_room (by omega) hns (by rw [List.length_append]; omega) (List.take_append_of_le_length (by omega)) rfl (by omega))) rfl (fun v B' H' hΦ hB => ?_)
        obtain ⟨rfl, hBB, rfl⟩ := hΦ
        obtain rfl := hBB.symm
        clear hB
        refine Lx.nil ?_
        refine Xx.tn (k22 _ _ _ _ ?_)
        refine Cx.seq (fun K23 k23 => ?_)
        refine Cx.region ?_
        refine Lx.y (mv rfl) rfl ?_
        refine Lx.y (asg rfl) rfl ?_
        refine Lx.nil ?_
        refine Xx.tn (k23 _ _ _ _ ?_)
        refine Cx.ret ?_
        refine Xx.tr ?_
        exact Xx.dropB vb (Xx.ret1 rfl rfl ⟨b, c, _, rfl, rfl, rfl, by simp only [List.length_append, List.length_drop, hTl, hns, hDl]; omega, by omega⟩ (Frag.le_refl _) rfl)

theorem InsF_ct (A : Option Addr) (i n c : Nat) (xs : List Value) (vb : Nat) (etv : TypeId) (news : List Value) (B : Frag) (hi : i ≤ n) (hxl : xs.length = n * 7) (hx1 : xs.all (·.oneCell') = true) (hns : news.length = 7) (hn1 : news.all (·.oneCell') = true) (hbd : (n + 1) * 104 ≤ 140737488355328) :
    Ct Tryd.prog 24 [.slice A n c, i64 (i : Nat), .slice (some ⟨vb, 0, none⟩) 1 1] B (sbuf 58 7 A n c xs * row vb etv news) (fun v B' H' => ∃ A' c', v = .slice A' (n + 1) c' ∧ B' = B ∧ H' = sbuf 58 7 A' (n + 1) c' (xs.take (i * 7) ++ news ++ xs.drop (i * 7)) ∧ (∃ b, A' = some ⟨b, 0, none⟩) ∧ n + 1 ≤ c') := by
  by_cases h : i = n
  · subst h
    have h1 : xs.take (i * 7) = xs := List.take_of_length_le (by omega)
    have h2 : xs.drop (i * 7) = [] := List.drop_of_length_le (by omega)
    rw [h1, h2, List.append_nil]
    exact InsF_end A i c xs vb etv news B hns hn1 hbd
  · refine Ct.of_sbuf (by omega) (fun b sp hA hx hnc hcl => ?_) (Go.SL.enters_of Tryd.func24 rfl (by kernel_rfl))
    subst hA
    have hm := InsF_mid b sp i n c xs vb etv news B (by omega) hxl hnc hcl hx1 hns hn1 hbd
    refine ⟨hm.1, fun N0 w R s => (hm.2 N0 w R s).mono ?_⟩
    rintro x w' ⟨v, B', _, hx', ⟨b', c', sp', hv, hB, rfl, hl, hc'⟩, hBB, hb, s'⟩
    refine ⟨v, B', _, hx', ⟨some ⟨b', 0, none⟩, c', hv, hB, rfl, ⟨b', rfl⟩, hc'⟩, hBB, hb, row_sbuf ?_ hc' hl s'⟩
    simp only [List.length_append, List.length_take, List.length_drop, hns, hxl]; omega

def VA (n : Int) : V := .mk 6 false 0 [] [.mk 2 false n [] [] []] [[97]]
theorem VA_R {n : Int} {B3 B4 : Frag} {An Ap : Option Addr} {cn cp : Nat} (h1 : -9223372036854775808 ≤ n) (h2 : n ≤ 9223372036854775807) (hRo : RoS B3 6 Ap 1 [i64 2, .bool false, i64 n, str [], .slice none 0 0, .slice none 0 0]) (hRo4 : RoS B4 1 An 1 [str [97]]) (hB4 : B3.le B4) (hcn : 1 ≤ cn) (hcp : 1 ≤ cp) : ValR B4 2 (VA n) (vcs (VA n) Ap cp An cn) := by
  refine ValR.mk ⟨Nat.zero_le _, (show (-9223372036854775808 : Int) ≤ 0 by decide), (show (0 : Int) ≤ 9223372036854775807 by decide), hcn, hcp⟩ (show 1 ≤ 4611686018427387904 by decide) (show 1 ≤ 4611686018427387904 by decide) (RoS.roe hRo4) ?_ (hRo.mono hB4) ?_
  · intro x hx
    have h9 : x ∈ [[97]] := hx
    rw [List.mem_singleton.1 h9]; decide
  · intro k hk
    have hk2 : k < 1 := hk
    match k, hk2 with
    | 0, _ => exact (ValR.leaf ⟨by decide, h1, h2⟩ : ValR B4 1 (V.mk 2 false n [] [] []) (vcs (V.mk 2 false n [] [] []) none 0 none 0))

set_option maxHeartbeats 1000000 in
theorem BSF0_ct (t : List UInt8) (B : Frag) : CtP Tryd.prog 21 [.slice none 0 0, str t, .func (.func 22) #[] #[]] B (.tuple #[i64 0, .bool false]) := by
  refine CtB.of_body Tryd.func21 rfl (nt := 49) rfl (by kernel_rfl) rfl ?_
  intro N0 w0 R
  refine Cx.seq (fun K1 k1 => ?_)
  refine Cx.region ?_
  refine Lx.y (asg rfl) rfl ?_
  refine Lx.y (asg rfl) rfl ?_
  refine Lx.nil ?_
  refine Xx.tn (k1 _ _ _ _ ?_)
  refine Cx.seq (fun K2 k2 => ?_)
  refine Cx.region ?_
  refine Lx.y (mv rfl) rfl ?_
  refine Lx.y (lenV (ty' := 0) Tryd.underlying54 rfl) rfl ?_
  refine Lx.y (asg rfl) rfl ?_
  refine Lx.nil ?_
  refine Xx.tn (k2 _ _ _ _ ?_)
  refine Cx.seq (fun K3 k3 => ?_)
  refine Cx.region ?_
  refine Lx.y (mv rfl) rfl ?_
  refine Lx.y (asg rfl) rfl ?_
  refine Lx.y (asg rfl) rfl ?_
  refine Lx.nil ?_
  refine Xx.tn (k3 _ _ _ _ ?_)
  refine Cx.seq (fun K4 k4 => ?_)
  refine Cx.block ?_
  refine Cx.unroll (1) ?_
  refine Xx.rn ?_
  refine Cx.seq (fun K5 k5 => ?_)
  refine Cx.seq (fun K6 k6 => ?_)
  refine Cx.region ?_
  refine Lx.y (mv rfl) rfl ?_
  refine Lx.y (mv rfl) rfl ?_
  refine Lx.y (lss rfl rfl) rfl ?_
  refine Lx.nil ?_
  refine Xx.tn (k6 _ _ _ _ ?_)
  refine Cx.condD rfl (fun h7 => ?_) (fun h7 => ?_)
  · skip
    exact absurd h7 (by decide)
  · skip
    refine Cx.exit ?_
    refine Xx.te ?_
    refine Xx.te ?_
    refine Xx.bh ?_
    refine Xx.tn (k4 _ _ _ _ ?_)
    refine Cx.seq (fun K8 k8 => ?_)
    refine Cx.region ?_
    refine Lx.y (mv rfl) rfl ?_
    refine Lx.y (mv rfl) rfl ?_
    refine Lx.y (mv rfl) rfl ?_
    refine Lx.y (lss rfl rfl) rfl ?_
    refine Lx.y (mv rfl) rfl ?_
    refine Xx.ifD (t := 39) rfl (fun h9 => ?_) (fun h9 => ?_)
    · skip
      exact absurd h9 (by decide)
    · skip
      refine Lx.gF rfl rfl rfl rfl ?_
      refine Lx.gF rfl rfl rfl rfl ?_
      refine Lx.gF rfl rfl rfl rfl ?_
      refine Lx.gF rfl rfl rfl rfl ?_
      refine Lx.gF rfl rfl rfl rfl ?_
      refine Lx.gF rfl rfl rfl rfl ?_
      refine Lx.gF rfl rfl rfl rfl ?_
      refine Lx.gF rfl rfl rfl rfl ?_
      refine Lx.y (pickF rfl rfl) rfl ?_
      refine Lx.y (asg rfl) rfl ?_
      refine Lx.y (asg rfl) rfl ?_
      refine Lx.nil ?_
      refine Xx.tn (k8 _ _ _ _ ?_)
      refine Cx.ret ?_
      exact Xx.rB2 rfl rfl rfl ⟨rfl, rfl⟩ (Frag.le_refl _) rfl

set_option maxHeartbeats 2000000 in
theorem Struct1_ct (n : Int) (nb pb : Nat) (e1 e2 : TypeId) (f1 f2 : Nat × Nat) (B : Frag) (h1 : -9223372036854775808 ≤ n) (h2 : n ≤ 9223372036854775807) (hBn : B nb = some (.cells #[str [97]] e1 f1)) (hBp : B pb = some (.cells [i64 2, .bool false, i64 n, str [], .slice none 0 0, .slice none 0 0].toArray e2 f2)) : CtB Tryd.prog 8 [.slice (some ⟨nb, 0, none⟩) 1 1, .slice (some ⟨pb, 0, none⟩) 1 1] B (fun v B' => ∃ cs', v = .agg cs'.toArray ∧ ValR B' 2 (VA n) cs') := by
  refine CtB.of_body Tryd.func8 rfl (nt := 75) rfl (by kernel_rfl) rfl ?_
  intro N0 w0 R
  refine Cx.seq (fun K1 k1 => ?_)
  refine Cx.region ?_
  refine Lx.new (allocO ti26) rfl (fun b4 => ?_)
  refine Lx.nil ?_
  refine Xx.tn (k1 _ _ _ _ ?_)
  refine Cx.seq (fun K2 k2 => ?_)
  refine Cx.region ?_
  refine Lx.y (asg rfl) rfl ?_
  refine Lx.nil ?_
  refine Xx.tn (k2 _ _ _ _ ?_)
  refine Cx.seq (fun K3 k3 => ?_)
  refine Cx.seq (fun K4 k4 => ?_)
  refine Cx.region ?_
  refine Lx.y (mv rfl) rfl ?_
  refine Lx.y (Yx.val (lenV (ty' := 0) Tryd.underlying24 rfl) (show _ = i64 1 from rfl)) rfl ?_
  refine Lx.y (mv rfl) rfl ?_
  refine Lx.y (Yx.val (lenV (ty' := 0) Tryd.underlying23 rfl) (show _ = i64 1 from rfl)) rfl ?_
  refine Lx.y (Yx.val (minI rfl rfl) (show _ = i64 1 from rfl)) rfl ?_
  refine Lx.y (mv rfl) rfl ?_
  refine Lx.nil ?_
  refine Xx.tn (k4 _ _ _ _ ?_)
  refine Cx.block ?_
  refine Cx.unroll (2) ?_
  refine Xx.rn ?_
  refine Cx.seq (fun K5 k5 => ?_)
  refine Cx.region ?_
  refine Lx.y (Yx.tt (lss rfl rfl) (by decide)) rfl ?_
  refine Lx.nil ?_
  refine Xx.tn (k5 _ _ _ _ ?_)
  refine Cx.seq (fun K6 k6 => ?_)
  refine Cx.condT rfl ?_
  refine Cx.skip ?_
  refine Xx.tn (k6 _ _ _ _ ?_)
  refine Cx.seq (fun K7 k7 => ?_)
  refine Cx.block ?_
  refine Cx.seq (fun K8 k8 => ?_)
  refine Cx.region ?_
  refine Lx.y (mv rfl) rfl ?_
  refine Lx.y (asg rfl) rfl ?_
  refine Lx.nil ?_
  refine Xx.tn (k8 _ _ _ _ ?_)
  refine Cx.seq (fun K9 k9 => ?_)
  refine Cx.region ?_
  refine Lx.y (mv rfl) rfl ?_
  refine Lx.y (mv rfl) rfl ?_
  refine Lx.y (mv rfl) rfl ?_
  refine Lx.y (ia Tryd.underlying24 sz9 rfl rfl (show Int.toNat _ = 0 from rfl) (by decide) (by decide)) rfl ?_
  refine Lx.y (ldB Tryd.underlying9 rfl rfl hBn rfl) rfl ?_
  refine Lx.cp rfl rfl rfl (BSF0_ct [97] _) rfl ?_
  refine Lx.y (mv rfl) rfl ?_
  refine Lx.y (ext rfl rfl) rfl ?_
  refine Lx.y (ext rfl rfl) rfl ?_
  refine Lx.y (asg rfl) rfl ?_
  refine Lx.y (asg rfl) rfl ?_
  refine Lx.nil ?_
  refine Xx.tn (k9 _ _ _ _ ?_)
  refine Cx.seq (fun K10 k10 => ?_)
  refine Cx.seq (fun K11 k11 => ?_)
  refine Cx.region ?_
  refine Lx.y (mv rfl) rfl ?_
  refine Lx.nil ?_
  refine Xx.tn (k11 _ _ _ _ ?_)
  refine Cx.condF rfl ?_
  refine Cx.skip ?_
  refine Xx.tn (k10 _ _ _ _ ?_)
  refine Cx.drawn (by kernel_rfl) ?_
  refine Dx.p (i := 0) rfl (by kernel_rfl) (mv rfl) rfl ?_
  refine Dx.p (i := 1) rfl (by kernel_rfl) (mv rfl) rfl ?_
  refine Dx.p (i := 2) rfl (by kernel_rfl) (mv rfl) rfl ?_
  refine Dx.p (i := 3) rfl (by kernel_rfl) (mv rfl) rfl ?_
  refine Dx.p (i := 4) rfl (by kernel_rfl) (ia Tryd.underlying24 sz9 rfl rfl (show Int.toNat _ = 0 from rfl) (by decide) (by decide)) rfl ?_
  refine Dx.r (i := 5) rfl (by kernel_rfl) (ldB Tryd.underlying9 rfl rfl hBn rfl) rfl ?_
  refine Dx.p (i := 6) rfl (by kernel_rfl) (mv rfl) rfl ?_
  refine Dx.p (i := 7) rfl (by kernel_rfl) (mv rfl) rfl ?_
  refine Dx.p (i := 8) rfl (by kernel_rfl) (ia Tryd.underlying23 sz26 rfl rfl (show Int.toNat _ = 0 from rfl) (by decide) (by decide)) rfl ?_
  refine Dx.r (i := 9) rfl (by kernel_rfl) (ldA Tryd.underlying26 rfl sz26 rfl (Cells.base (n := 6) hBp rfl) rfl) rfl ?_
  refine Dx.p (i := 10) rfl (by kernel_rfl) (bld ti58 pl58 rfl rfl) rfl ?_
  refine Dx.one (i := 11) (by kernel_rfl) ?_
  refine Dstep.o (i := 11) rfl (bslA Tryd.underlying54 ti58 rfl rfl (by decide)) rfl (fun v B' H' hΦ hB => ?_)
  obtain ⟨b8, rfl, rfl, rfl⟩ := hΦ; clear hB
  refine ⟨JOk.yes (JOk.yes (JOk.top) (ldB Tryd.underlying9 rfl rfl hBn rfl)) (ldA Tryd.underlying26 rfl sz26 rfl (Cells.base (n := 6) hBp rfl) rfl), ?_⟩
  refine Dx.one (i := 12) (by kernel_rfl) ?_
  refine Dstep.o (i := 12) rfl (Ox.call rfl rfl rfl (InsF_ct none 0 0 0 [] b8 58 [str [97], i64 2, .bool false, i64 n, str [], .slice none 0 0, .slice none 0 0] _ (by decide) rfl rfl rfl rfl (by decide)) (by rw [sbuf_nil, one_star])) rfl (fun v B' H' hΦ hB => ?_)
  obtain ⟨_, rfl, hΦ⟩ := hΦ
  obtain ⟨A9, c9, rfl, hBB, rfl, ⟨bA, rfl⟩, hc9⟩ := hΦ
  subst hBB
  rename Frag => B
  clear hB
  refine ⟨JOk.yes (JOk.yes (JOk.top) (ldB Tryd.underlying9 rfl rfl hBn rfl)) (ldA Tryd.underlying26 rfl sz26 rfl (Cells.base (n := 6) hBp rfl) rfl), ?_⟩
  refine Dx.p (i := 13) rfl (by kernel_rfl) (asg rfl) rfl ?_
  refine Dx.done (by kernel_rfl) ?_
  refine Xx.bn ?_
  refine Xx.tn (k7 _ _ _ _ ?_)
  refine Cx.region ?_
  refine Lx.y (Yx.val (add rfl rfl (show IntKind.i64.wrap _ = _ from rfl)) (show _ = i64 1 from rfl)) rfl ?_
  refine Lx.y (mv rfl) rfl ?_
  refine Lx.nil ?_
  refine Xx.tn ?_
  refine Xx.rn ?_
  refine Cx.seq (fun K12 k12 => ?_)
  refine Cx.region ?_
  refine Lx.y (Yx.ff (lss rfl rfl) (by decide)) rfl ?_
  refine Lx.nil ?_
  refine Xx.tn (k12 _ _ _ _ ?_)
  refine Cx.seq (fun K13 k13 => ?_)
  refine Cx.condF rfl ?_
  refine Cx.exit ?_
  refine Xx.te ?_
  refine Xx.te ?_
  refine Xx.bh ?_
  refine Xx.tn (k3 _ _ _ _ ?_)
  refine Cx.seq (fun K14 k14 => ?_)
  refine Cx.region ?_
  refine Lx.y (bld ti26 pl26 rfl rfl) rfl ?_
  refine Lx.new (allocO ti26) rfl (fun b10 => ?_)
  refine Lx.st (stA (d := .bool) sz26 rfl rfl rfl rfl (by show 0 + 6 ≤ 6; omega) rfl) ?_
  refine Lx.nil ?_
  refine Xx.tn (k14 _ _ _ _ ?_)
  refine Cx.seq (fun K15 k15 => ?_)
  refine Cx.seq (fun K16 k16 => ?_)
  refine Xx.openT (some ⟨bA, 0, none⟩) (by decide) (fun bF sp hA hxl hnc hcl => ?_)
  have hbF : bA = bF := by injection hA with h; injection h
  subst hbF
  refine Xx.perm (H' := sbuf 9 1 none 0 0 [] * (sbuf 26 6 none 0 0 [] * _)) ?_ (by rw [sbuf_nil, sbuf_nil, one_star, one_star])
  refine Cx.region ?_
  refine Lx.y (mv rfl) rfl ?_
  refine Lx.y (Yx.val (lenV (ty' := 0) Tryd.underlying54 rfl) (show _ = i64 1 from rfl)) rfl ?_
  refine Lx.y (mv rfl) rfl ?_
  refine Lx.nil ?_
  refine Xx.tn (k16 _ _ _ _ ?_)
  refine Cx.block ?_
  refine Cx.unroll (2) ?_
  refine Xx.rn ?_
  refine Cx.seq (fun K17 k17 => ?_)
  refine Cx.region ?_
  refine Lx.y (Yx.tt (lss rfl rfl) (by decide)) rfl ?_
  refine Lx.nil ?_
  refine Xx.tn (k17 _ _ _ _ ?_)
  refine Cx.seq (fun K18 k18 => ?_)
  refine Cx.condT rfl ?_
  refine Cx.skip ?_
  refine Xx.tn (k18 _ _ _ _ ?_)
  refine Cx.cutK (ds' := []) (Sub.cons (s := 0) rfl (Sub.cons (s := 1) rfl (Sub.cons (s := 4) rfl (Sub.cons (s := 5) rfl (Sub.cons (s := 6) rfl (Sub.cons (s := 7) rfl (Sub.cons (s := 8) rfl (Sub.cons (s := 9) rfl (Sub.cons (s := 12) rfl (Sub.cons (s := 13) rfl (Sub.cons (s := 14) rfl (Sub.cons (s := 15) rfl (Sub.cons (s := 16) rfl (Sub.cons (s := 17) rfl (Sub.cons (s := 18) rfl (Sub.cons (s := 19) rfl (Sub.cons (s := 20) rfl (Sub.cons (s := 21) rfl (Sub.cons (s := 22) rfl (Sub.cons (s := 23) rfl (Sub.cons (s := 24) rfl (Sub.cons (s := 25) rfl (Sub.cons (s := 26) rfl (Sub.cons (s := 27) rfl (Sub.cons (s := 28) rfl (Sub.cons (s := 29) rfl (Sub.cons (s := 38) rfl (Sub.cons (s := 39) rfl (Sub.cons (s := 40) rfl (Sub.cons (s := 41) rfl (Sub.cons (s := 42) rfl (Sub.cons (s := 43) rfl (Sub.cons (s := 44) rfl (Sub.cons (s := 45) rfl (Sub.cons (s := 46) rfl (Sub.cons (s := 47) rfl (Sub.cons (s := 48) rfl (Sub.cons (s := 49) rfl (Sub.cons (s := 50) rfl (Sub.cons (s := 51) rfl (Sub.cons (s := 52) rfl (Sub.cons (s := 53) rfl (Sub.cons (s := 54) rfl (Sub.cons (s := 55) rfl (Sub.cons (s := 56) rfl (Sub.nil _)))))))))))))))))))))))))))))))))))))))))))))) (fun ρ' B' H' => ∃ An cn Ap cp, ρ' = [] ∧ B = B' ∧ 1 ≤ cn ∧ 1 ≤ cp ∧ sbuf 9 1 An 1 cn [str [97]] * (sbuf 26 6 Ap 1 cp [i64 2, .bool false, i64 n, str [], .slice none 0 0, .slice none 0 0] * (row b10 26 [i64 6, .bool false, i64 0, str [], .slice Ap 1 cp, .slice An 1 cn] * (row bA 58 ([str [97], i64 2, .bool false, i64 n, str [], .slice none 0 0, .slice none 0 0] ++ sp) * (row b4 26 [i64 0, .bool false, i64 0, str [], .slice none 0 0, .slice none 0 0] * R)))) = H') ?_ ?_
  · skip
    refine Cx.block ?_
    refine Cx.seq (fun K19 k19 => ?_)
    refine Cx.region ?_
    refine Lx.y (ia Tryd.underlying54 sz58 rfl rfl (show Int.toNat _ = 0 from rfl) (by decide) (by decide)) rfl ?_
    refine Lx.y (ldA Tryd.underlying58 rfl sz58 rfl (Cells.own (n := 7) PickB.eq rfl) rfl) rfl ?_
    refine Lx.new (allocO ti58) rfl (fun b13 => ?_)
    refine Lx.st (stA (d := .bool) sz58 rfl rfl rfl rfl (by show 0 + 7 ≤ 7; omega) rfl) ?_
    refine Lx.nil ?_
    refine Xx.tn (k19 _ _ _ _ ?_)
    refine Cx.drawn (by kernel_rfl) ?_
    refine Dx.p (i := 0) rfl (by kernel_rfl) (fa' fo26_5 rfl) rfl ?_
    refine Dx.r (i := 1) rfl (by kernel_rfl) (ld Tryd.underlying24 rfl rfl rfl) rfl ?_
    refine Dx.p (i := 2) rfl (by kernel_rfl) (fa' fo58_0 rfl) rfl ?_
    refine Dx.r (i := 3) rfl (by kernel_rfl) (ld Tryd.underlying9 rfl rfl rfl) rfl ?_
    refine Dx.p (i := 6) rfl (by kernel_rfl) (fa' fo26_4 rfl) rfl ?_
    refine Dx.r (i := 7) rfl (by kernel_rfl) (ld Tryd.underlying23 rfl rfl rfl) rfl ?_
    refine Dx.p (i := 8) rfl (by kernel_rfl) (fa' fo58_1 rfl) rfl ?_
    refine Dx.r (i := 9) rfl (by kernel_rfl) (ldA Tryd.underlying26 rfl sz26 rfl (Cells.own (n := 6) PickB.eq rfl) rfl) rfl ?_
    refine Dx.two (i := 4) (j := 10) (by kernel_rfl) ?_ ?_
    · skip
      refine Dstep.o (i := 4) rfl (bsl1 Tryd.underlying24 ti9 rfl rfl rfl (by decide)) rfl (fun v B' H' hΦ hB => ?_)
      obtain ⟨b144, rfl, rfl, rfl⟩ := hΦ; clear hB
      refine ⟨JOk.yes (JOk.yes (JOk.edge (JOk.yes (JOk.top) (ld Tryd.underlying24 rfl rfl rfl)) (by kernel_rfl)) (ld Tryd.underlying23 rfl rfl rfl)) (ldA Tryd.underlying26 rfl sz26 rfl (Cells.own (n := 6) PickB.eq rfl) rfl), ?_⟩
      refine Dx.two (i := 5) (j := 10) (by kernel_rfl) ?_ ?_
      · skip
        refine Dstep.o (i := 5) rfl (appN (et := 9) 1 [str [97]] [str [97]] Tryd.underlying24 Tryd.underlying24 ti9 rfl rfl rfl rfl rfl (by decide) (by decide) rfl rfl) rfl (fun v B' H' hΦ hB => ?_)
        obtain ⟨An1, An19, rfl, _, _, hcA, rfl, rfl⟩ := hΦ
        refine ⟨JOk.yes (JOk.yes (JOk.yes (JOk.edge (JOk.top) (by kernel_rfl)) (ld Tryd.underlying9 rfl rfl rfl)) (ld Tryd.underlying23 rfl rfl rfl)) (ldA Tryd.underlying26 rfl sz26 rfl (Cells.own (n := 6) PickB.eq rfl) rfl), ?_⟩
        refine Dx.p (i := 12) rfl (by kernel_rfl) (fa' fo26_5 rfl) rfl ?_
        refine Dx.one (i := 10) (by kernel_rfl) ?_
        refine Dstep.o (i := 10) rfl (bslA Tryd.underlying23 ti26 rfl rfl (by decide)) rfl (fun v B' H' hΦ hB => ?_)
        obtain ⟨b1410, rfl, rfl, rfl⟩ := hΦ; clear hB
        refine ⟨JOk.edge (JOk.yes (JOk.yes (JOk.yes (JOk.top) (ld Tryd.underlying24 rfl rfl rfl)) (ld Tryd.underlying9 rfl rfl rfl)) (ld Tryd.underlying23 rfl rfl rfl)) (by kernel_rfl), ?_⟩
        refine Dx.one (i := 11) (by kernel_rfl) ?_
        refine Dstep.o (i := 11) rfl (appN (et := 26) 1 [i64 2, .bool false, i64 n, str [], .slice none 0 0, .slice none 0 0] [i64 2, .bool false, i64 n, str [], .slice none 0 0, .slice none 0 0] Tryd.underlying23 Tryd.underlying23 ti26 rfl rfl rfl rfl rfl (by decide) (by decide) rfl rfl) rfl (fun v B' H' hΦ hB => ?_)
        obtain ⟨Ap1, Ap19, rfl, _, _, hcB, rfl, rfl⟩ := hΦ
        refine ⟨JOk.yes (JOk.edge (JOk.yes (JOk.yes (JOk.top) (ld Tryd.underlying24 rfl rfl rfl)) (ld Tryd.underlying9 rfl rfl rfl)) (by kernel_rfl)) (ldA Tryd.underlying26 rfl sz26 rfl (Cells.own (n := 6) PickB.eq rfl) rfl), ?_⟩
        refine Dx.one (i := 13) (by kernel_rfl) ?_
        refine Dstep.o0 (i := 13) rfl (stO Tryd.underlying24 sz24 rfl rfl rfl (by simp) rfl) (fun v B' H' hΦ hB => ?_)
        obtain ⟨rfl, rfl⟩ := hΦ; clear hB v
        refine ⟨JOk.yes (JOk.edge (JOk.edge (JOk.edge (JOk.top) (by kernel_rfl)) (by kernel_rfl)) (by kernel_rfl)) (ldA Tryd.underlying26 rfl sz26 rfl (Cells.own (n := 6) PickB.eq rfl) rfl), ?_⟩
        refine Dx.p (i := 14) rfl (by kernel_rfl) (fa' fo26_4 rfl) rfl ?_
        refine Dx.one (i := 15) (by kernel_rfl) ?_
        refine Dstep.o0 (i := 15) rfl (stO Tryd.underlying23 sz23 rfl rfl rfl (by simp) rfl) (fun v B' H' hΦ hB => ?_)
        obtain ⟨rfl, rfl⟩ := hΦ; clear hB v
        refine ⟨JOk.edge (JOk.edge (JOk.edge (JOk.edge (JOk.top) (by kernel_rfl)) (by kernel_rfl)) (by kernel_rfl)) (by kernel_rfl), ?_⟩
        refine Dx.done (by kernel_rfl) ?_
        refine Xx.bn ?_
        refine Xx.dropB b144 ?_
        refine Xx.dropB b1410 ?_
        refine Xx.dropB b13 ?_
        exact Xx.mkK (⟨_, _, _, _, rfl, rfl, hcA, hcB, by ac_rfl⟩) (Sub.cons (s := 0) rfl (Sub.cons (s := 1) rfl (Sub.cons (s := 4) rfl (Sub.cons (s := 5) rfl (Sub.cons (s := 6) rfl (Sub.cons (s := 7) rfl (Sub.cons (s := 8) rfl (Sub.cons (s := 9) rfl (Sub.cons (s := 12) rfl (Sub.cons (s := 13) rfl (Sub.cons (s := 14) rfl (Sub.cons (s := 15) rfl (Sub.cons (s := 16) rfl (Sub.cons (s := 17) rfl (Sub.cons (s := 18) rfl (Sub.cons (s := 19) rfl (Sub.cons (s := 20) rfl (Sub.cons (s := 21) rfl (Sub.cons (s := 22) rfl (Sub.cons (s := 23) rfl (Sub.cons (s := 24) rfl (Sub.cons (s := 25) rfl (Sub.cons (s := 26) rfl (Sub.cons (s := 27) rfl (Sub.cons (s := 28) rfl (Sub.cons (s := 29) rfl (Sub.cons (s := 38) rfl (Sub.cons (s := 39) rfl (Sub.cons (s := 40) rfl (Sub.cons (s := 41) rfl (Sub.cons (s := 42) rfl (Sub.cons (s := 43) rfl (Sub.cons (s := 44) rfl (Sub.cons (s := 45) rfl (Sub.cons (s := 46) rfl (Sub.cons (s := 47) rfl (Sub.cons (s := 48) rfl (Sub.cons (s := 49) rfl (Sub.cons (s := 50) rfl (Sub.cons (s := 51) rfl (Sub.cons (s := 52) rfl (Sub.cons (s := 53) rfl (Sub.cons (s := 54) rfl (Sub.cons (s := 55) rfl (Sub.cons (s := 56) rfl (Sub.nil _))))))))))))))))))))))))))))))))))))))))))))))
      refine Dstep.o (i := 10) rfl (bslA Tryd.underlying23 ti26 rfl rfl (by decide)) rfl (fun v B' H' hΦ hB => ?_)
      obtain ⟨b1410, rfl, rfl, rfl⟩ := hΦ; clear hB
      refine ⟨JOk.edge (JOk.yes (JOk.yes (JOk.yes (JOk.top) (ld Tryd.underlying24 rfl rfl rfl)) (ld Tryd.underlying9 rfl rfl rfl)) (ld Tryd.underlying23 rfl rfl rfl)) (by kernel_rfl), ?_⟩
      refine Dx.one (i := 5) (by kernel_rfl) ?_
      refine Dstep.o (i := 5) rfl (appN (et := 9) 1 [str [97]] [str [97]] Tryd.underlying24 Tryd.underlying24 ti9 rfl rfl rfl rfl rfl (by decide) (by decide) rfl rfl) rfl (fun v B' H' hΦ hB => ?_)
      obtain ⟨An1, An19, rfl, _, _, hcA, rfl, rfl⟩ := hΦ
      refine ⟨JOk.yes (JOk.yes (JOk.yes (JOk.edge (JOk.top) (by kernel_rfl)) (ld Tryd.underlying9 rfl rfl rfl)) (ld Tryd.underlying23 rfl rfl rfl)) (ldA Tryd.underlying26 rfl sz26 rfl (Cells.own (n := 6) PickB.eq rfl) rfl), ?_⟩
      refine Dx.p (i := 12) rfl (by kernel_rfl) (fa' fo26_5 rfl) rfl ?_
      refine Dx.one (i := 11) (by kernel_rfl) ?_
      refine Dstep.o (i := 11) rfl (appN (et := 26) 1 [i64 2, .bool false, i64 n, str [], .slice none 0 0, .slice none 0 0] [i64 2, .bool false, i64 n, str [], .slice none 0 0, .slice none 0 0] Tryd.underlying23 Tryd.underlying23 ti26 rfl rfl rfl rfl rfl (by decide) (by decide) rfl rfl) rfl (fun v B' H' hΦ hB => ?_)
      obtain ⟨Ap1, Ap19, rfl, _, _, hcB, rfl, rfl⟩ := hΦ
      refine ⟨JOk.yes (JOk.edge (JOk.yes (JOk.yes (JOk.top) (ld Tryd.underlying24 rfl rfl rfl)) (ld Tryd.underlying9 rfl rfl rfl)) (by kernel_rfl)) (ldA Tryd.underlying26 rfl sz26 rfl (Cells.own (n := 6) PickB.eq rfl) rfl), ?_⟩
      refine Dx.one (i := 13) (by kernel_rfl) ?_
      refine Dstep.o0 (i := 13) rfl (stO Tryd.underlying24 sz24 rfl rfl rfl (by simp) rfl) (fun v B' H' hΦ hB => ?_)
      obtain ⟨rfl, rfl⟩ := hΦ; clear hB v
      refine ⟨JOk.yes (JOk.edge (JOk.edge (JOk.edge (JOk.top) (by kernel_rfl)) (by kernel_rfl)) (by kernel_rfl)) (ldA Tryd.underlying26 rfl sz26 rfl (Cells.own (n := 6) PickB.eq rfl) rfl), ?_⟩
      refine Dx.p (i := 14) rfl (by kernel_rfl) (fa' fo26_4 rfl) rfl ?_
      refine Dx.one (i := 15) (by kernel_rfl) ?_
      refine Dstep.o0 (i := 15) rfl (stO Tryd.underlying23 sz23 rfl rfl rfl (by simp) rfl) (fun v B' H' hΦ hB => ?_)
      obtain ⟨rfl, rfl⟩ := hΦ; clear hB v
      refine ⟨JOk.edge (JOk.edge (JOk.edge (JOk.edge (JOk.top) (by kernel_rfl)) (by kernel_rfl)) (by kernel_rfl)) (by kernel_rfl), ?_⟩
      refine Dx.done (by kernel_rfl) ?_
      refine Xx.bn ?_
      refine Xx.dropB b144 ?_
      refine Xx.dropB b1410 ?_
      refine Xx.dropB b13 ?_
      exact Xx.mkK (⟨_, _, _, _, rfl, rfl, hcA, hcB, by ac_rfl⟩) (Sub.cons (s := 0) rfl (Sub.cons (s := 1) rfl (Sub.cons (s := 4) rfl (Sub.cons (s := 5) rfl (Sub.cons (s := 6) rfl (Sub.cons (s := 7) rfl (Sub.cons (s := 8) rfl (Sub.cons (s := 9) rfl (Sub.cons (s := 12) rfl (Sub.cons (s := 13) rfl (Sub.cons (s := 14) rfl (Sub.cons (s := 15) rfl (Sub.cons (s := 16) rfl (Sub.cons (s := 17) rfl (Sub.cons (s := 18) rfl (Sub.cons (s := 19) rfl (Sub.cons (s := 20) rfl (Sub.cons (s := 21) rfl (Sub.cons (s := 22) rfl (Sub.cons (s := 23) rfl (Sub.cons (s := 24) rfl (Sub.cons (s := 25) rfl (Sub.cons (s := 26) rfl (Sub.cons (s := 27) rfl (Sub.cons (s := 28) rfl (Sub.cons (s := 29) rfl (Sub.cons (s := 38) rfl (Sub.cons (s := 39) rfl (Sub.cons (s := 40) rfl (Sub.cons (s := 41) rfl (Sub.cons (s := 42) rfl (Sub.cons (s := 43) rfl (Sub.cons (s := 44) rfl (Sub.cons (s := 45) rfl (Sub.cons (s := 46) rfl (Sub.cons (s := 47) rfl (Sub.cons (s := 48) rfl (Sub.cons (s := 49) rfl (Sub.cons (s := 50) rfl (Sub.cons (s := 51) rfl (Sub.cons (s := 52) rfl (Sub.cons (s := 53) rfl (Sub.cons (s := 54) rfl (Sub.cons (s := 55) rfl (Sub.cons (s := 56) rfl (Sub.nil _))))))))))))))))))))))))))))))))))))))))))))))
    refine Dstep.o (i := 10) rfl (bslA Tryd.underlying23 ti26 rfl rfl (by decide)) rfl (fun v B' H' hΦ hB => ?_)
    obtain ⟨b1410, rfl, rfl, rfl⟩ := hΦ; clear hB
    refine ⟨JOk.edge (JOk.yes (JOk.yes (JOk.yes (JOk.top) (ld Tryd.underlying24 rfl rfl rfl)) (ld Tryd.underlying9 rfl rfl rfl)) (ld Tryd.underlying23 rfl rfl rfl)) (by kernel_rfl), ?_⟩
    refine Dx.one (i := 4) (by kernel_rfl) ?_
    refine Dstep.o (i := 4) rfl (bsl1 Tryd.underlying24 ti9 rfl rfl rfl (by decide)) rfl (fun v B' H' hΦ hB => ?_)
    obtain ⟨b144, rfl, rfl, rfl⟩ := hΦ; clear hB
    refine ⟨JOk.yes (JOk.yes (JOk.edge (JOk.yes (JOk.top) (ld Tryd.underlying24 rfl rfl rfl)) (by kernel_rfl)) (ld Tryd.underlying23 rfl rfl rfl)) (ldA Tryd.underlying26 rfl sz26 rfl (Cells.own (n := 6) PickB.eq rfl) rfl), ?_⟩
    refine Dx.one (i := 5) (by kernel_rfl) ?_
    refine Dstep.o (i := 5) rfl (appN (et := 9) 1 [str [97]] [str [97]] Tryd.underlying24 Tryd.underlying24 ti9 rfl rfl rfl rfl rfl (by decide) (by decide) rfl rfl) rfl (fun v B' H' hΦ hB => ?_)
    obtain ⟨An1, An19, rfl, _, _, hcA, rfl, rfl⟩ := hΦ
    refine ⟨JOk.yes (JOk.yes (JOk.yes (JOk.edge (JOk.top) (by kernel_rfl)) (ld Tryd.underlying9 rfl rfl rfl)) (ld Tryd.underlying23 rfl rfl rfl)) (ldA Tryd.underlying26 rfl sz26 rfl (Cells.own (n := 6) PickB.eq rfl) rfl), ?_⟩
    refine Dx.p (i := 12) rfl (by kernel_rfl) (fa' fo26_5 rfl) rfl ?_
    refine Dx.one (i := 11) (by kernel_rfl) ?_
    refine Dstep.o (i := 11) rfl (appN (et := 26) 1 [i64 2, .bool false, i64 n, str [], .slice none 0 0, .slice none 0 0] [i64 2, .bool false, i64 n, str [], .slice none 0 0, .slice none 0 0] Tryd.underlying23 Tryd.underlying23 ti26 rfl rfl rfl rfl rfl (by decide) (by decide) rfl rfl) rfl (fun v B' H' hΦ hB => ?_)
    obtain ⟨Ap1, Ap19, rfl, _, _, hcB, rfl, rfl⟩ := hΦ
    refine ⟨JOk.yes (JOk.edge (JOk.yes (JOk.yes (JOk.top) (ld Tryd.underlying24 rfl rfl rfl)) (ld Tryd.underlying9 rfl rfl rfl)) (by kernel_rfl)) (ldA Tryd.underlying26 rfl sz26 rfl (Cells.own (n := 6) PickB.eq rfl) rfl), ?_⟩
    refine Dx.one (i := 13) (by kernel_rfl) ?_
    refine Dstep.o0 (i := 13) rfl (stO Tryd.underlying24 sz24 rfl rfl rfl (by simp) rfl) (fun v B' H' hΦ hB => ?_)
    obtain ⟨rfl, rfl⟩ := hΦ; clear hB v
    refine ⟨JOk.yes (JOk.edge (JOk.edge (JOk.edge (JOk.top) (by kernel_rfl)) (by kernel_rfl)) (by kernel_rfl)) (ldA Tryd.underlying26 rfl sz26 rfl (Cells.own (n := 6) PickB.eq rfl) rfl), ?_⟩
    refine Dx.p (i := 14) rfl (by kernel_rfl) (fa' fo26_4 rfl) rfl ?_
    refine Dx.one (i := 15) (by kernel_rfl) ?_
    refine Dstep.o0 (i := 15) rfl (stO Tryd.underlying23 sz23 rfl rfl rfl (by simp) rfl) (fun v B' H' hΦ hB => ?_)
    obtain ⟨rfl, rfl⟩ := hΦ; clear hB v
    refine ⟨JOk.edge (JOk.edge (JOk.edge (JOk.edge (JOk.top) (by kernel_rfl)) (by kernel_rfl)) (by kernel_rfl)) (by kernel_rfl), ?_⟩
    refine Dx.done (by kernel_rfl) ?_
    refine Xx.bn ?_
    refine Xx.dropB b144 ?_
    refine Xx.dropB b1410 ?_
    refine Xx.dropB b13 ?_
    exact Xx.mkK (⟨_, _, _, _, rfl, rfl, hcA, hcB, by ac_rfl⟩) (Sub.cons (s := 0) rfl (Sub.cons (s := 1) rfl (Sub.cons (s := 4) rfl (Sub.cons (s := 5) rfl (Sub.cons (s := 6) rfl (Sub.cons (s := 7) rfl (Sub.cons (s := 8) rfl (Sub.cons (s := 9) rfl (Sub.cons (s := 12) rfl (Sub.cons (s := 13) rfl (Sub.cons (s := 14) rfl (Sub.cons (s := 15) rfl (Sub.cons (s := 16) rfl (Sub.cons (s := 17) rfl (Sub.cons (s := 18) rfl (Sub.cons (s := 19) rfl (Sub.cons (s := 20) rfl (Sub.cons (s := 21) rfl (Sub.cons (s := 22) rfl (Sub.cons (s := 23) rfl (Sub.cons (s := 24) rfl (Sub.cons (s := 25) rfl (Sub.cons (s := 26) rfl (Sub.cons (s := 27) rfl (Sub.cons (s := 28) rfl (Sub.cons (s := 29) rfl (Sub.cons (s := 38) rfl (Sub.cons (s := 39) rfl (Sub.cons (s := 40) rfl (Sub.cons (s := 41) rfl (Sub.cons (s := 42) rfl (Sub.cons (s := 43) rfl (Sub.cons (s := 44) rfl (Sub.cons (s := 45) rfl (Sub.cons (s := 46) rfl (Sub.cons (s := 47) rfl (Sub.cons (s := 48) rfl (Sub.cons (s := 49) rfl (Sub.cons (s := 50) rfl (Sub.cons (s := 51) rfl (Sub.cons (s := 52) rfl (Sub.cons (s := 53) rfl (Sub.cons (s := 54) rfl (Sub.cons (s := 55) rfl (Sub.cons (s := 56) rfl (Sub.nil _))))))))))))))))))))))))))))))))))))))))))))))
  · rintro ρ' B' H' ⟨An, cn, Ap, cp, rfl, rfl, hcn, hcp, rfl⟩
    refine Cx.region ?_
    refine Lx.y (Yx.val (add rfl rfl (show IntKind.i64.wrap _ = _ from rfl)) (show _ = i64 1 from rfl)) rfl ?_
    refine Lx.y (mv rfl) rfl ?_
    refine Lx.nil ?_
    refine Xx.tn ?_
    refine Xx.rn ?_
    refine Cx.seq (fun K20 k20 => ?_)
    refine Cx.region ?_
    refine Lx.y (Yx.ff (lss rfl rfl) (by decide)) rfl ?_
    refine Lx.nil ?_
    refine Xx.tn (k20 _ _ _ _ ?_)
    refine Cx.seq (fun K21 k21 => ?_)
    refine Cx.condF rfl ?_
    refine Cx.exit ?_
    refine Xx.te ?_
    refine Xx.te ?_
    refine Xx.bh ?_
    refine Xx.tn (k15 _ _ _ _ ?_)
    refine Cx.seq (fun K22 k22 => ?_)
    refine Cx.region ?_
    refine Lx.y (ldA Tryd.underlying26 rfl sz26 rfl (Cells.own (n := 6) PickB.eq rfl) rfl) rfl ?_
    refine Lx.st (stA (d := .bool) sz26 rfl rfl rfl rfl (by show 0 + 6 ≤ 6; omega) rfl) ?_
    refine Lx.nil ?_
    refine Xx.tn (k22 _ _ _ _ ?_)
    refine Cx.ret ?_
    refine Xx.freezeT Ap fun B3 hB3 hRo hnc3 _ => ?_
    refine Xx.freezeT An fun B4 hB4 hRo4 hnc4 _ => ?_
    refine Xx.dropB b10 ?_
    refine Xx.dropB bA ?_
    exact Xx.rBa rfl Tryd.underlying26 rfl sz26 rfl rfl ⟨_, rfl, VA_R h1 h2 hRo hRo4 hB4 hcn hcp⟩ (Frag.le_trans hB3 hB4)
end RgB
end Go.Proofs.YtfnfkoldifpmhaaDoor
