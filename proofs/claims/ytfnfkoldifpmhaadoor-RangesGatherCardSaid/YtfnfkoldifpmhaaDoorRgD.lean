/-
  Numbers as documents: what is hit; awake.
-/
import Derived.Test.YtfnfkoldifpmhaaDoorProg
import Derived.Test.YtfnfkoldifpmhaaDoorSlj
import Derived.Test.YtfnfkoldifpmhaaDoorRgC
namespace Go.Proofs.YtfnfkoldifpmhaaDoor
open Go.SL Go.RowKit
set_option linter.unusedVariables false
set_option linter.unusedSimpArgs false
set_option maxRecDepth 100000
open Ke1 Ke3 Ke4 Ke5 Ke6 Ke7 Ke8 Ke9 KeA KeB KeC KeD KeE KeF KeG KeI RgA RgB RgC
namespace RgD
theorem sz26 : (Tryd.prog.info? 26).map (·.size) = some 6 := by kernel_rfl
theorem sz30 : (Tryd.prog.info? 30).map (·.size) = some 16 := by kernel_rfl
theorem sz34 : (Tryd.prog.info? 34).map (·.size) = some 2 := by kernel_rfl
theorem sz36 : (Tryd.prog.info? 36).map (·.size) = some 4 := by kernel_rfl
theorem ti9 : TI Tryd.prog 9 [str []] 1 16 := TI.of (by kernel_rfl) rfl rfl
theorem ti26 : TI Tryd.prog 26 [.int .i64 0, .bool false, .int .i64 0, str [], .slice none 0 0, .slice none 0 0] 6 88 := TI.of (by kernel_rfl) rfl rfl
theorem ti30 : TI Tryd.prog 30 [str [], .bool false, .int .i64 0, .bool false, .int .i64 0, str [], .slice none 0 0, .slice none 0 0, .int .i64 0, .bool false, .int .i64 0, str [], .slice none 0 0, .slice none 0 0, .bool false, .bool false] 16 208 := TI.of (by kernel_rfl) rfl rfl
theorem ti36 : TI Tryd.prog 36 [str [], str [], str [], str []] 4 64 := TI.of (by kernel_rfl) rfl rfl
theorem pl30 : PL Tryd.prog 30 [(0, 1), (1, 1), (2, 6), (8, 6), (14, 1), (15, 1)] := PL.of Tryd.underlying30 (by kernel_rfl)

theorem ctpB {P : Program} {f : FuncId} {args : List Value} {B : Frag} {b c : Bool} (h : CtP P f args B (.bool b)) (e : b = c) : CtP P f args B (.bool c) := e ▸ h
theorem leaf_ok {n : Int} {d : Nat} {deep : Int} (h : deep ≤ 8) : checkF (d + 1) (V.mk 2 false n [] [] []) deep = 0 :=
  chk6 (by omega) (fun z => by
    rcases z with z | z | z
    · exact absurd z (by show ¬ (2 : Int) < 0; decide)
    · exact absurd z (by show ¬ (6 : Int) < 2; decide)
    · exact z ⟨.inr rfl, .inl rfl, .inr (.inr rfl), .inr (.inr rfl), .inr rfl⟩) (by show ¬ 32 < 0; decide) (namesB_yes ⟨fun i hi => absurd hi (by show ¬ i < 0; omega), fun z => absurd z (by show ¬ (2 : Int) = 6; decide)⟩) fun k hk => absurd hk (by show ¬ k < 0; omega)
theorem VA_names (n : Int) : NamesP (VA n) := by
  refine ⟨fun i hi => ?_, fun _ => rfl⟩
  have hi2 : i < 1 := hi
  obtain rfl : i = 0 := by omega
  exact ⟨⟨fun k hk => by have : k < 1 := hk; obtain rfl : k = 0 := by omega
                         exact .inl (show LP (([97] : List UInt8).getD 0 0) by decide), show 1 ≤ ([97] : List UInt8).length by decide, show ([97] : List UInt8).length ≤ 16 by decide⟩, fun z => absurd z (by decide)⟩
theorem VA_check (n : Int) : checkF 9 (VA n) 1 = 0 := by
  refine chk6 (by decide) (fun z => ?_) (by show ¬ 32 < 1; decide) (namesB_yes (VA_names n)) fun k hk => ?_
  · rcases z with z | z | z
    · exact absurd z (by show ¬ (6 : Int) < 0; decide)
    · exact absurd z (by show ¬ (6 : Int) < 6; decide)
    · exact z ⟨.inr rfl, .inr rfl, .inr (.inr rfl), .inr (.inl rfl), .inl rfl⟩
  · have hk2 : k < 1 := hk
    match k, hk2 with
    | 0, _ => exact leaf_ok (by decide)
theorem VA_bytes (n : Int) : (bytesF 9 (VA n)).length ≤ 1024 := by
  have e : bytesF 9 (VA n) = preB (bytesF 8) (VA n) 1 := by
    show bytesF (8 + 1) (VA n) = _
    unfold bytesF
    rw [if_neg (show ¬ (VA n).kind = 1 from by show ¬ (6 : Int) = 1; decide), if_neg (show ¬ (VA n).kind = 2 from by show ¬ (6 : Int) = 2; decide), if_neg (show ¬ ((VA n).kind = 3 ∨ (VA n).kind = 4) from by show ¬ ((6 : Int) = 3 ∨ (6 : Int) = 4); decide), if_pos (show (VA n).kind = 5 ∨ (VA n).kind = 6 from .inr rfl)]; rfl
  have e2 : bytesF 8 (V.mk 2 false n [] [] []) = [toB 2] ++ intL n := by
    show bytesF (7 + 1) _ = _
    unfold bytesF
    rw [if_neg (show ¬ ((V.mk 2 false n [] [] [])).kind = 1 from by show ¬ (2 : Int) = 1; decide), if_pos (show ((V.mk 2 false n [] [] [])).kind = 2 from rfl)]; rfl
  have u1 : (uvL (BitVec.ofInt 64 ((VA n).parts.length : Nat))).length ≤ 11 := uvF_len 10 _
  have u2 : (uvL (BitVec.ofInt 64 n <<< 1 ^^^ BitVec.ofInt 64 (n / 9223372036854775808))).length ≤ 11 := uvF_len 10 _
  have u3 : (uvL (BitVec.ofInt 64 (([97] : List UInt8).length : Nat))).length ≤ 11 := uvF_len 10 _
  have e3 : partB (bytesF 8) (VA n) 0 = txtL [97] ++ bytesF 8 (V.mk 2 false n [] [] []) := by
    unfold partB; rw [if_pos (show 0 < (VA n).names.length from Nat.one_pos)]; rfl
  rw [e, preB_succ, List.length_append, e3, List.length_append, e2]
  have e4 : (preB (bytesF 8) (VA n) 0).length ≤ 12 := by unfold preB; simp only [List.length_append, List.length_cons, List.length_nil, List.range_zero, List.flatMap_nil]; omega
  have e5 : (txtL [97]).length ≤ 12 := by unfold txtL; simp only [List.length_append, List.length_cons, List.length_nil] at u3 ⊢; omega
  have e6 : ([toB 2] ++ intL n).length ≤ 12 := by unfold intL; simp only [List.length_append, List.length_cons, List.length_nil]; omega
  omega
theorem VA_good {n : Int} {B : Frag} {cs : List Value} (h : ValR B 2 (VA n) cs) : GoodV B 7 (VA n) cs := ⟨ValR.le h (by decide), VA_check n, VA_bytes n⟩
theorem V0_good {B : Frag} : GoodV B 7 V0 (vcs V0 none 0 none 0) := ⟨V0_R, V0_check (by decide), by decide +kernel⟩
theorem getVA (n : Int) : getV (VA n) [97] = (V.mk 2 false n [] [] []) := by
  unfold getV; rw [if_pos (show [97] ∈ (VA n).names from List.mem_singleton.2 rfl)]; rfl
theorem cmp_leaf (a b : Int) : cmpF 8 (V.mk 2 false a [] [] []) (V.mk 2 false b [] [] []) = cmpI a b := by
  show cmpF (7 + 1) _ _ = _
  unfold cmpF
  rw [if_neg (show ¬ (V.mk 2 false a [] [] []).kind ≠ (V.mk 2 false b [] [] []).kind from fun z => z rfl), if_neg (show ¬ (V.mk 2 false a [] [] []).kind = 1 from by show ¬ (2 : Int) = 1; decide), if_pos (show (V.mk 2 false a [] [] []).kind = 2 from rfl)]; rfl
theorem cmpI_eq0 (a b : Int) : decide (cmpI a b = .eq) = decide (a = b) := by
  unfold cmpI
  by_cases h1 : a < b
  · rw [if_pos h1]; rw [decide_eq_false (show ¬ a = b by omega)]; rfl
  · rw [if_neg h1]
    by_cases h2 : b < a
    · rw [if_pos h2]; rw [decide_eq_false (show ¬ a = b by omega)]; rfl
    · rw [if_neg h2]; rw [decide_eq_true (show a = b by omega)]; rfl
theorem leaf_R {B : Frag} {d : Nat} {n : Int} (h1 : -9223372036854775808 ≤ n) (h2 : n ≤ 9223372036854775807) : ValR B (d + 1) (V.mk 2 false n [] [] []) (vcs (V.mk 2 false n [] [] []) none 0 none 0) := ValR.leaf ⟨by decide, h1, h2⟩
theorem leaf_bytes (n : Int) : (bytesF 8 (V.mk 2 false n [] [] [])).length ≤ 1024 := by
  have e2 : bytesF 8 (V.mk 2 false n [] [] []) = [toB 2] ++ intL n := by
    show bytesF (7 + 1) _ = _
    unfold bytesF
    rw [if_neg (show ¬ ((V.mk 2 false n [] [] [])).kind = 1 from by show ¬ (2 : Int) = 1; decide), if_pos (show ((V.mk 2 false n [] [] [])).kind = 2 from rfl)]; rfl
  have u2 : (uvL (BitVec.ofInt 64 n <<< 1 ^^^ BitVec.ofInt 64 (n / 9223372036854775808))).length ≤ 11 := uvF_len 10 _
  rw [e2]; unfold intL; simp only [List.length_append, List.length_cons, List.length_nil]; omega
theorem has_leaf {a b : Int} {lo hi : List UInt8} (ha1 : -9223372036854775808 ≤ a) (ha2 : a ≤ 9223372036854775807) (hb1 : -9223372036854775808 ≤ b) (hb2 : b ≤ 9223372036854775807) (hlo : keyF 8 (V.mk 2 false a [] [] []) = lo) (hn : nextP lo hi) :
    hasB lo hi (keyF 8 (V.mk 2 false b [] [] [])) = decide (a = b) := by
  subst hlo
  have hT := key_tri 8 (V.mk 2 false a [] [] []) (V.mk 2 false b [] [] []) 2 _ _ Frag.none (leaf_R ha1 ha2) (leaf_R hb1 hb2) (leaf_ok (by decide)) (leaf_ok (by decide))
  have h := tri_has hT hn (n := [])
  rw [List.append_nil, cmp_leaf, cmpI_eq0] at h
  exact h
theorem sees_leaf {a b : Int} {t lo hi : List UInt8} (ha1 : -9223372036854775808 ≤ a) (ha2 : a ≤ 9223372036854775807) (hb1 : -9223372036854775808 ≤ b) (hb2 : b ≤ 9223372036854775807) (hlo : keyF 8 (V.mk 2 false a [] [] []) = lo) (hn : nextP lo hi) :
    seesB 7 ⟨t, [97], lo, hi⟩ (VA b) = decide (a = b) := by
  unfold seesB
  show (decide (([97] : List UInt8) = []) || hasB lo hi (keyF 8 (getV (VA b) [97]))) = _
  rw [getVA, has_leaf ha1 ha2 hb1 hb2 hlo hn]; rfl
theorem hits_leaf {a b c : Int} {t tb lo hi : List UInt8} {was is : Bool} (ha1 : -9223372036854775808 ≤ a) (ha2 : a ≤ 9223372036854775807) (hb1 : -9223372036854775808 ≤ b) (hb2 : b ≤ 9223372036854775807) (hc1 : -9223372036854775808 ≤ c) (hc2 : c ≤ 9223372036854775807) (hlo : keyF 8 (V.mk 2 false a [] [] []) = lo) (hn : nextP lo hi) :
    hitsB 7 ⟨t, [97], lo, hi⟩ tb false (VA b) (VA c) was is = (decide (t = tb) && ((was && decide (a = b)) || (is && decide (a = c)))) := by
  unfold hitsB; rw [sees_leaf ha1 ha2 hb1 hb2 hlo hn, sees_leaf ha1 ha2 hc1 hc2 hlo hn]; simp
theorem hits_new {a c : Int} {t tb lo hi : List UInt8} {v : V} (ha1 : -9223372036854775808 ≤ a) (ha2 : a ≤ 9223372036854775807) (hc1 : -9223372036854775808 ≤ c) (hc2 : c ≤ 9223372036854775807) (hlo : keyF 8 (V.mk 2 false a [] [] []) = lo) (hn : nextP lo hi) :
    hitsB 7 ⟨t, [97], lo, hi⟩ tb false v (VA c) false true = (decide (t = tb) && decide (a = c)) := by
  unfold hitsB; rw [sees_leaf ha1 ha2 hc1 hc2 hlo hn]; simp
theorem hits_whole {d : Nat} {t tb : List UInt8} {sh : Bool} {vo vn : V} {was is : Bool} : hitsB d ⟨t, [], [], []⟩ tb sh vo vn was is = (decide (t = tb) && (sh || was || is)) := by
  unfold hitsB seesB; simp

set_option maxHeartbeats 1000000 in
theorem Da_ct (n : Int) (B : Frag) (h1 : -9223372036854775808 ≤ n) (h2 : n ≤ 9223372036854775807) : CtB Tryd.prog 28 [i64 n] B (fun v B' => ∃ cs', v = .agg cs'.toArray ∧ GoodV B' 7 (VA n) cs') := by
  refine CtB.of_body Tryd.func28 rfl (nt := 8) rfl (by kernel_rfl) rfl ?_
  intro N0 w0 R
  refine Cx.seq (fun K1 k1 => ?_)
  refine Cx.region ?_
  refine Lx.new (allocO ti26) rfl (fun b2 => ?_)
  refine Lx.nil ?_
  refine Xx.tn (k1 _ _ _ _ ?_)
  refine Cx.seq (fun K2 k2 => ?_)
  refine Cx.region ?_
  refine Lx.bsl (bsl1 Tryd.underlying24 ti9 rfl rfl rfl (by decide)) rfl (fun bn => ?_)
  refine Lx.y (mv rfl) rfl ?_
  refine Lx.cp rfl rfl rfl (Int_ct _ _) rfl ?_
  refine Lx.bsl (bslA Tryd.underlying23 ti26 rfl rfl (by decide)) rfl (fun bp => ?_)
  refine Xx.freezeB bn fun B1 hB1 hBn => ?_
  refine Xx.freezeB bp fun B2 hB2 hBp => ?_
  refine Lx.cb rfl rfl rfl (Struct1_ct n bn bp _ _ _ _ _ h1 h2 (hB2 _ _ hBn) hBp) rfl ?_
  rintro v B3 ⟨cs3, rfl, hv3⟩ hB3
  obtain ⟨Ap, cp, An, cn, rfl⟩ := ValR.shape hv3
  refine Lx.st (stA (d := .bool) sz26 rfl rfl rfl rfl (by show 0 + 6 ≤ 6; omega) rfl) ?_
  refine Lx.nil ?_
  refine Xx.tn (k2 _ _ _ _ ?_)
  refine Cx.ret ?_
  exact Xx.rBa rfl Tryd.underlying26 rfl sz26 rfl rfl ⟨_, rfl, VA_good hv3⟩ (Frag.le_trans hB1 (Frag.le_trans hB2 hB3))

set_option maxHeartbeats 1000000 in
theorem Ds_ct (n : Int) (B : Frag) (h1 : -9223372036854775808 ≤ n) (h2 : n ≤ 9223372036854775807) : CtB Tryd.prog 7 [i64 n] B (fun v B' => ∃ cs', v = .agg cs'.toArray ∧ GoodV B' 7 (VA n) cs') := by
  refine CtB.of_body Tryd.func7 rfl (nt := 8) rfl (by kernel_rfl) rfl ?_
  intro N0 w0 R
  refine Cx.seq (fun K1 k1 => ?_)
  refine Cx.region ?_
  refine Lx.new (allocO ti26) rfl (fun b2 => ?_)
  refine Lx.nil ?_
  refine Xx.tn (k1 _ _ _ _ ?_)
  refine Cx.seq (fun K2 k2 => ?_)
  refine Cx.region ?_
  refine Lx.bsl (bsl1 Tryd.underlying24 ti9 rfl rfl rfl (by decide)) rfl (fun bn => ?_)
  refine Lx.y (mv rfl) rfl ?_
  refine Lx.cp rfl rfl rfl (Int_ct _ _) rfl ?_
  refine Lx.bsl (bslA Tryd.underlying23 ti26 rfl rfl (by decide)) rfl (fun bp => ?_)
  refine Xx.freezeB bn fun B1 hB1 hBn => ?_
  refine Xx.freezeB bp fun B2 hB2 hBp => ?_
  refine Lx.cb rfl rfl rfl (Struct1_ct n bn bp _ _ _ _ _ h1 h2 (hB2 _ _ hBn) hBp) rfl ?_
  rintro v B3 ⟨cs3, rfl, hv3⟩ hB3
  obtain ⟨Ap, cp, An, cn, rfl⟩ := ValR.shape hv3
  refine Lx.st (stA (d := .bool) sz26 rfl rfl rfl rfl (by show 0 + 6 ≤ 6; omega) rfl) ?_
  refine Lx.nil ?_
  refine Xx.tn (k2 _ _ _ _ ?_)
  refine Cx.ret ?_
  exact Xx.rBa rfl Tryd.underlying26 rfl sz26 rfl rfl ⟨_, rfl, VA_good hv3⟩ (Frag.le_trans hB1 (Frag.le_trans hB2 hB3))

set_option maxHeartbeats 4000000 in
theorem awake_ct (B : Frag) (hM : MaxLenIn B) : CtB Tryd.prog 13 [] B (fun v _ => v = .bool true) := by
  refine CtB.of_body Tryd.func13 rfl (nt := 28) rfl (by kernel_rfl) rfl ?_
  intro N0 w0 R
  refine Cx.seq (fun K1 k1 => ?_)
  refine Cx.region ?_
  refine Lx.y (asg rfl) rfl ?_
  refine Lx.nil ?_
  refine Xx.tn (k1 _ _ _ _ ?_)
  refine Cx.seq (fun K2 k2 => ?_)
  refine Cx.region ?_
  refine Lx.y (asg rfl) rfl ?_
  refine Lx.nil ?_
  refine Xx.tn (k2 _ _ _ _ ?_)
  refine Cx.seq (fun K3 k3 => ?_)
  refine Cx.region ?_
  refine Lx.cp rfl rfl rfl (Int_ct _ _) rfl ?_
  refine Lx.cb rfl rfl rfl (Equal_ct 8 (V.mk 2 false 1 [] [] []) _ _ (leaf_R (by decide) (by decide)) hM (leaf_bytes 1)) rfl ?_
  rintro v9 B9 ⟨hBB, hi, rfl, hnx⟩ hB9
  have hBB2 := hBB.symm
  subst hBB2
  clear hB9
  generalize hlo : keyF 8 (V.mk 2 false 1 [] [] []) = lo at *
  refine Lx.cp rfl rfl rfl (Part_ct _ _ _ _ _) rfl ?_
  refine Lx.new (allocO ti36) rfl (fun b2 => ?_)
  refine Lx.st (stA (d := .bool) sz36 rfl rfl rfl rfl (by show 0 + 4 ≤ 4; omega) rfl) ?_
  refine Lx.nil ?_
  refine Xx.tn (k3 _ _ _ _ ?_)
  refine Cx.seq (fun K5 k5 => ?_)
  refine Cx.drawn (by kernel_rfl) ?_
  refine Dx.r (i := 0) rfl (by kernel_rfl) (ldA Tryd.underlying36 rfl sz36 rfl (Cells.own (n := 4) PickB.eq rfl) rfl) rfl ?_
  refine Dx.p (i := 1) rfl (by kernel_rfl) (mv rfl) rfl ?_
  refine Dx.p (i := 3) rfl (by kernel_rfl) (mv rfl) rfl ?_
  refine Dx.one (i := 2) (by kernel_rfl) ?_
  refine Dstep.o (i := 2) rfl (Ox.cb rfl rfl rfl (Da_ct 1 _ (by decide) (by decide))) rfl (fun v B' H' hΦ hB => ?_)
  obtain ⟨rfl, hΦ⟩ := hΦ
  obtain ⟨cs1, rfl, hv1⟩ := hΦ
  rename Frag => B1
  have hB1 := hB
  obtain ⟨Ap1, cp1, An1, cn1, rfl⟩ := ValR.shape hv1.1
  refine ⟨JOk.yes (JOk.top) (ldA Tryd.underlying36 rfl sz36 rfl (Cells.own (n := 4) PickB.eq rfl) rfl), ?_⟩
  refine Dx.one (i := 4) (by kernel_rfl) ?_
  refine Dstep.o (i := 4) rfl (Ox.cb rfl rfl rfl (Da_ct 2 _ (by decide) (by decide))) rfl (fun v B' H' hΦ hB => ?_)
  obtain ⟨rfl, hΦ⟩ := hΦ
  obtain ⟨cs2, rfl, hv2⟩ := hΦ
  rename Frag => B2
  have hB2 := hB
  obtain ⟨Ap2, cp2, An2, cn2, rfl⟩ := ValR.shape hv2.1
  refine ⟨JOk.yes (JOk.top) (ldA Tryd.underlying36 rfl sz36 rfl (Cells.own (n := 4) PickB.eq rfl) rfl), ?_⟩
  refine Dx.p (i := 5) rfl (by kernel_rfl) (bld ti30 pl30 rfl rfl) rfl ?_
  refine Dx.one (i := 6) (by kernel_rfl) ?_
  have hh3_6 := ctpB (c := true) (Hits_ct 7 ⟨[116], [97], lo, hi⟩ [116] false true true (VA 1) (VA 2) _ _ _ (hv1.mono hB2) hv2 ((hM.mono hB1).mono hB2)) ((hits_leaf (by decide) (by decide) (by decide) (by decide) (by decide) (by decide) hlo hnx).trans rfl)
  refine Dstep.o (i := 6) rfl (Ox.cb rfl rfl rfl (hh3_6)) rfl (fun v B' H' hΦ hB => ?_)
  obtain ⟨rfl, rfl, hBB⟩ := hΦ; have hBB2 := hBB.symm; subst hBB2; clear hB
  refine ⟨JOk.edge (JOk.top) (by kernel_rfl), ?_⟩
  refine Dx.p (i := 7) rfl (by kernel_rfl) (mv rfl) rfl ?_
  refine Dx.rT (i := 8) rfl rfl rfl rfl (by kernel_rfl) (ldA Tryd.underlying36 rfl sz36 rfl (Cells.own (n := 4) PickB.eq rfl) rfl) rfl ?_
  refine Dx.pT (i := 9) rfl rfl rfl rfl (by kernel_rfl) (mv rfl) rfl ?_
  refine Dx.one (i := 10) (by kernel_rfl) ?_
  refine Dstep.oT (i := 10) rfl rfl rfl rfl (Ox.cb rfl rfl rfl (Da_ct 2 _ (by decide) (by decide))) rfl (fun v B' H' hΦ hB => ?_)
  obtain ⟨rfl, hΦ⟩ := hΦ
  obtain ⟨cs3, rfl, hv3⟩ := hΦ
  rename Frag => B3
  have hB3 := hB
  obtain ⟨Ap3, cp3, An3, cn3, rfl⟩ := ValR.shape hv3.1
  refine ⟨JOk.yes (JOk.yes (JOk.top) (ldA Tryd.underlying36 rfl sz36 rfl (Cells.own (n := 4) PickB.eq rfl) rfl)) (ldA Tryd.underlying36 rfl sz36 rfl (Cells.own (n := 4) PickB.eq rfl) rfl), ?_⟩
  refine Dx.pT (i := 11) rfl rfl rfl rfl (by kernel_rfl) (bld ti30 pl30 rfl rfl) rfl ?_
  refine Dx.one (i := 12) (by kernel_rfl) ?_
  have hh3_12 := ctpB (c := false) (Hits_ct 7 ⟨[116], [97], lo, hi⟩ [116] false false true V0 (VA 2) _ _ _ V0_good hv3 (((hM.mono hB1).mono hB2).mono hB3)) ((hits_new (by decide) (by decide) (by decide) (by decide) hlo hnx).trans rfl)
  refine Dstep.oT (i := 12) rfl rfl rfl rfl (Ox.cb rfl rfl rfl (hh3_12)) rfl (fun v B' H' hΦ hB => ?_)
  obtain ⟨rfl, rfl, hBB⟩ := hΦ; have hBB2 := hBB.symm; subst hBB2; clear hB
  refine ⟨JOk.edge (JOk.yes (JOk.top) (ldA Tryd.underlying36 rfl sz36 rfl (Cells.own (n := 4) PickB.eq rfl) rfl)) (by kernel_rfl), ?_⟩
  refine Dx.pT (i := 13) rfl rfl rfl rfl (by kernel_rfl) (not' rfl) rfl ?_
  refine Dx.p (i := 14) rfl (by kernel_rfl) (pickT rfl rfl) rfl ?_
  refine Dx.p (i := 15) rfl (by kernel_rfl) (mv rfl) rfl ?_
  refine Dx.pT (i := 17) rfl rfl rfl rfl (by kernel_rfl) (mv rfl) rfl ?_
  refine Dx.one (i := 16) (by kernel_rfl) ?_
  refine Dstep.oT (i := 16) rfl rfl rfl rfl (Ox.cb rfl rfl rfl (Whole_ct _ _)) rfl (fun v B' H' hΦ hB => ?_)
  obtain ⟨rfl, rfl, hBB⟩ := hΦ; have hBB2 := hBB.symm; subst hBB2; clear hB
  refine ⟨JOk.yes (JOk.yes (JOk.top) (ldA Tryd.underlying36 rfl sz36 rfl (Cells.own (n := 4) PickB.eq rfl) rfl)) (ldA Tryd.underlying36 rfl sz36 rfl (Cells.own (n := 4) PickB.eq rfl) rfl), ?_⟩
  refine Dx.one (i := 18) (by kernel_rfl) ?_
  refine Dstep.oT (i := 18) rfl rfl rfl rfl (Ox.cb rfl rfl rfl (Da_ct 2 _ (by decide) (by decide))) rfl (fun v B' H' hΦ hB => ?_)
  obtain ⟨rfl, hΦ⟩ := hΦ
  obtain ⟨cs4, rfl, hv4⟩ := hΦ
  rename Frag => B4
  have hB4 := hB
  obtain ⟨Ap4, cp4, An4, cn4, rfl⟩ := ValR.shape hv4.1
  refine ⟨JOk.yes (JOk.yes (JOk.top) (ldA Tryd.underlying36 rfl sz36 rfl (Cells.own (n := 4) PickB.eq rfl) rfl)) (ldA Tryd.underlying36 rfl sz36 rfl (Cells.own (n := 4) PickB.eq rfl) rfl), ?_⟩
  refine Dx.pT (i := 19) rfl rfl rfl rfl (by kernel_rfl) (bld ti30 pl30 rfl rfl) rfl ?_
  refine Dx.one (i := 20) (by kernel_rfl) ?_
  have hh3_20 := ctpB (c := true) (Hits_ct 7 ⟨[116], [], [], []⟩ [116] false false true V0 (VA 2) _ _ _ V0_good hv4 ((((hM.mono hB1).mono hB2).mono hB3).mono hB4)) (hits_whole.trans rfl)
  refine Dstep.oT (i := 20) rfl rfl rfl rfl (Ox.cb rfl rfl rfl (hh3_20)) rfl (fun v B' H' hΦ hB => ?_)
  obtain ⟨rfl, rfl, hBB⟩ := hΦ; have hBB2 := hBB.symm; subst hBB2; clear hB
  refine ⟨JOk.yes (JOk.yes (JOk.top) (ldA Tryd.underlying36 rfl sz36 rfl (Cells.own (n := 4) PickB.eq rfl) rfl)) (ldA Tryd.underlying36 rfl sz36 rfl (Cells.own (n := 4) PickB.eq rfl) rfl), ?_⟩
  refine Dx.p (i := 21) rfl (by kernel_rfl) (pickT rfl rfl) rfl ?_
  refine Dx.p (i := 22) rfl (by kernel_rfl) (asg rfl) rfl ?_
  refine Dx.done (by kernel_rfl) ?_
  refine Xx.tn (k5 _ _ _ _ ?_)
  refine Cx.ret ?_
  exact Xx.dropB b2 (Xx.rB1 rfl rfl rfl (Frag.le_trans hB1 (Frag.le_trans hB2 (Frag.le_trans hB3 hB4))) rfl)
end RgD
end Go.Proofs.YtfnfkoldifpmhaaDoor
