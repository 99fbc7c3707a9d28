/-
  Texts of this seat, one behind the other: BtD, BtE, BtG, BtX, BtH, BtI, BtF, BtJ, BtK, BtL, BtM, BtO, BtY, BtZ, DrA, Slu.
-/
import Derived.Test.YtdidpocakipinaaGreatDoorProg
import Derived.ChangeMaps4
import Derived.Laws.IdiomRangeMap
import Derived.Test.YtdidpocakipinaaGreatDoorMp3
set_option linter.unusedSimpArgs false
set_option linter.unusedVariables false
namespace Go.Proofs.YtdidpocakipinaaGreatDoor
open Go.SL Go.RowKit
set_option maxRecDepth 100000
open Ke1 Ke3 Ke4 Ke5 Ke6 Ke7 Ke8 Ke9 KeA KeB KeC KeD KeE KeF KeG KeI RgA BtB BtC
namespace BtD
theorem sz9 : (Tryz.prog.info? 9).map (·.size) = some 1 := by kernel_rfl
theorem sz23 : (Tryz.prog.info? 23).map (·.size) = some 1 := by kernel_rfl
theorem sz110 : (Tryz.prog.info? 110).map (·.size) = some 1 := by kernel_rfl
theorem sz111 : (Tryz.prog.info? 111).map (·.size) = some 1 := by kernel_rfl
theorem ti9 : TI Tryz.prog 9 [str []] 1 16 := TI.of (by kernel_rfl) rfl rfl
theorem ti110 : TI Tryz.prog 110 [.pointer none] 1 8 := TI.of (by kernel_rfl) rfl rfl
theorem ti113 : TI Tryz.prog 113 [.slice none 0 0, .slice none 0 0, .slice none 0 0] 3 72 := TI.of (by kernel_rfl) rfl rfl
theorem fo113_0 : FO Tryz.prog 113 0 0 1 false := FO.of U113 rfl rfl (by kernel_rfl) U23 rfl rfl
theorem fo113_1 : FO Tryz.prog 113 1 1 1 false := FO.of U113 rfl rfl (by kernel_rfl) U23 rfl rfl
theorem fo113_2 : FO Tryz.prog 113 2 2 1 false := FO.of U113 rfl rfl (by kernel_rfl) U111 rfl rfl
theorem pl113 : PL Tryz.prog 113 [(0, 1), (1, 1), (2, 1)] := PL.of U113 (by kernel_rfl)
theorem strs_all (l : List Str8) : (l.map str).all (·.oneCell') = true := by
  rw [List.all_eq_true]; intro v hv; obtain ⟨x, _, rfl⟩ := List.mem_map.1 hv; rfl
theorem BSo_ct (ks : List Str8) (t : Str8) (A : Option Addr) (c n : Nat) (B : Frag) (hl : ks.length = n) (hs : Srt ks) (hn : n ≤ 4611686018427387904) : CtC Tryz.prog 65 [.slice A n c, str t] B (sbuf 9 1 A n c (ks.map str)) (.tuple #[i64 (lb ks t : Nat), .bool (decide (t ∈ ks))]) (sbuf 9 1 A n c (ks.map str)) := by
  subst hl
  exact CtC.lend (Go.SL.enters_of Tryz.func65 rfl (by kernel_rfl)) fun k hk ha => BS_ct ks t A c _ (roe_of (sbuf_ro hk ha).1) hs hn
theorem CloneSo_ct (b n c j : Nat) (xs : List Value) (B : Frag) (hj : j < n) (h1 : xs.all (·.oneCell') = true) (hbd : n * 16 ≤ 140737488355328) : Ct Tryz.prog 59 [.slice (some ⟨b, 0 + j * 1, none⟩) (n - j) (c - j)] B (sbuf 9 1 (some ⟨b, 0, none⟩) n c xs) (fun v B' H' => B' = B ∧ ∃ H0, (∃ A' c', v = .slice A' (n - j) c' ∧ H0 = sbuf 9 1 A' (n - j) c' (xs.drop (j * 1)) ∧ n - j ≤ c') ∧ H' = sbuf 9 1 (some ⟨b, 0, none⟩) n c xs * H0) := by
  have h := Ct.lend (p := sbuf 9 1 (some ⟨b, 0, none⟩) n c xs) (q := 1) (B := B) (args := [.slice (some ⟨b, 0 + j * 1, none⟩) (n - j) (c - j)]) (Φ := fun v H0 => ∃ A' c', v = .slice A' (n - j) c' ∧ H0 = sbuf 9 1 A' (n - j) c' (xs.drop (j * 1)) ∧ n - j ≤ c') (Go.SL.enters_of Tryz.func59 rfl (by kernel_rfl)) (fun k hk ha => CloneS_ct _ _ _ _ _ (by omega) (RoS.cut (c := c) (sbuf_ro hk ha).1 (by omega)) (by rw [List.all_eq_true] at h1 ⊢; exact fun v hv => h1 v (List.mem_of_mem_drop hv)) (by omega))
  rw [star_comm, one_star] at h
  exact h
theorem CloneNo_ct (b n c j : Nat) (xs : List Value) (B : Frag) (hj : j < n) (h1 : xs.all (·.oneCell') = true) (hbd : n * 16 ≤ 140737488355328) : Ct Tryz.prog 78 [.slice (some ⟨b, 0 + j * 1, none⟩) (n - j) (c - j)] B (sbuf 110 1 (some ⟨b, 0, none⟩) n c xs) (fun v B' H' => B' = B ∧ ∃ H0, (∃ A' c', v = .slice A' (n - j) c' ∧ H0 = sbuf 110 1 A' (n - j) c' (xs.drop (j * 1)) ∧ n - j ≤ c') ∧ H' = sbuf 110 1 (some ⟨b, 0, none⟩) n c xs * H0) := by
  have h := Ct.lend (p := sbuf 110 1 (some ⟨b, 0, none⟩) n c xs) (q := 1) (B := B) (args := [.slice (some ⟨b, 0 + j * 1, none⟩) (n - j) (c - j)]) (Φ := fun v H0 => ∃ A' c', v = .slice A' (n - j) c' ∧ H0 = sbuf 110 1 A' (n - j) c' (xs.drop (j * 1)) ∧ n - j ≤ c') (Go.SL.enters_of Tryz.func78 rfl (by kernel_rfl)) (fun k hk ha => CloneN_ct _ _ _ _ _ (by omega) (RoS.cut (c := c) (sbuf_ro hk ha).1 (by omega)) (by rw [List.all_eq_true] at h1 ⊢; exact fun v hv => h1 v (List.mem_of_mem_drop hv)) (by omega))
  rw [star_comm, one_star] at h
  exact h
set_option maxHeartbeats 4000000 in
theorem halve_raw (b n p q i b2 : Nat) (Ak Av Ac Ak2 Av2 Ac2 : Option Addr) (ck cv cc ck2 cv2 cc2 : Nat) (ks vs k7 v7 : List Str8) (ps qs : List Value) (kM vM : Str8) (B : Frag) (hn : n ≤ 100) (hp : p = n + 1) (hi : i < p) (hks : ks.length = n) (hvs : vs.length = n) (hpl : ps.length = p) (hk7 : k7.length = 7) (hv7 : v7.length = 7) (hq : q = 0 ∨ q = 8) (hql : qs.length = q) (hpi : (ps.drop (0 + i * 1)).take 1 = [.pointer (some ⟨b2, 0, none⟩)]) (hk3 : ((k7.map str).drop (0 + 3 * 1)).take 1 = [str kM]) (hv3 : ((v7.map str).drop (0 + 3 * 1)).take 1 = [str vM]) (hpa : ps.all (·.oneCell') = true) (hqa : qs.all (·.oneCell') = true) : Ct Tryz.prog 62 [.pointer (some ⟨b, 0, none⟩), i64 i] B (row b 113 [.slice Ak n ck, .slice Av n cv, .slice Ac p cc] * (sbuf 9 1 Ak n ck (ks.map str) * (sbuf 9 1 Av n cv (vs.map str) * (sbuf 110 1 Ac p cc ps * row b2 113 [.slice Ak2 7 ck2, .slice Av2 7 cv2, .slice Ac2 q cc2] * (sbuf 9 1 Ak2 7 ck2 (k7.map str) * (sbuf 9 1 Av2 7 cv2 (v7.map str) * sbuf 110 1 Ac2 q cc2 qs)))))) (fun v B' H' => v = .tuple #[] ∧ B' = B ∧ ∃ Ak' ck' Av' cv' Ac' cc' cc2' Ac2' b3 Ak3 ck3 Av3 cv3 Ac3 cc3, H' = row b 113 [.slice Ak' (n + 1) ck', .slice Av' (n + 1) cv', .slice Ac' (p + 1) cc'] * (sbuf 9 1 Ak' (n + 1) ck' ((ks.map str).take (i * 1) ++ [str kM] ++ (ks.map str).drop (i * 1)) * (sbuf 9 1 Av' (n + 1) cv' ((vs.map str).take (i * 1) ++ [str vM] ++ (vs.map str).drop (i * 1)) * (sbuf 110 1 Ac' (p + 1) cc' (ps.take ((i + 1) * 1) ++ [.pointer (some ⟨b3, 0, none⟩)] ++ ps.drop ((i + 1) * 1)) * (row b2 113 [.slice Ak2 3 ck2, .slice Av2 3 cv2, .slice Ac2' (min q 4) cc2'] * (sbuf 9 1 Ak2 3 ck2 ((k7.map str).take (3 * 1)) * (sbuf 9 1 Av2 3 cv2 ((v7.map str).take (3 * 1)) * (sbuf 110 1 Ac2' (min q 4) cc2' (qs.take (4 * 1)) * (row b3 113 [.slice Ak3 (7 - 4) ck3, .slice Av3 (7 - 4) cv3, .slice Ac3 (q - 4) cc3] * (sbuf 9 1 Ak3 (7 - 4) ck3 ((k7.map str).drop (4 * 1)) * (sbuf 9 1 Av3 (7 - 4) cv3 ((v7.map str).drop (4 * 1)) * sbuf 110 1 Ac3 (q - 4) cc3 (qs.drop (4 * 1))))))))))))) := by
 refine Ct.of_body Tryz.func62 rfl (nt := 129) rfl (by kernel_rfl) rfl ?_
 intro N0 w0 R
 simp only [star_assoc]
 refine Xx.addrT Ac (by omega) (fun bC hAc _ _ => ?_)
 subst hAc
 refine Xx.addrT Ak2 (by omega) (fun bK hAk _ hck2 => ?_)
 subst hAk
 refine Xx.addrT Av2 (by omega) (fun bV hAv _ hcv2 => ?_)
 subst hAv
 refine Cx.seq (fun K1 k1 => ?_)
 refine Cx.region <| Lx.y (mv rfl) rfl <| Lx.y (nilc rfl) rfl <| Lx.y (fa' fo113_2 rfl) rfl <| Lx.y (ld U111 rfl rfl rfl) rfl <| Lx.y (mv rfl) rfl <| Lx.y (ia U111 sz110 rfl rfl (by first | exact Int.toNat_natCast _ | rfl) (by omega) (by omega)) rfl <| Lx.y (ldC U110 rfl rfl (Cells.buf (m := 1) hpi (by omega))) rfl <| Lx.y (asg rfl) rfl <| Lx.nil <| ?_
 refine Xx.tn (k1 _ _ _ _ ?_)
 refine Cx.seq (fun K2 k2 => ?_)
 refine Cx.region <| Lx.y (mv rfl) rfl <| Lx.y (nilc rfl) rfl <| Lx.y (fa' fo113_0 rfl) rfl <| Lx.y (ld U23 rfl rfl rfl) rfl <| Lx.y (Yx.val (lenV (ty' := 0) U23 rfl) (show _ = i64 ((7 : Nat) : Int) from rfl)) rfl <| Lx.y (Yx.val (quoN rfl rfl (by decide) (by decide) (show IntKind.i64.wrap _ = _ from rfl)) (show _ = i64 ((3 : Nat) : Int) from rfl)) rfl <| Lx.y (asg rfl) rfl <| Lx.nil <| ?_
 refine Xx.tn (k2 _ _ _ _ ?_)
 refine Cx.seq (fun K3 k3 => ?_)
 refine Cx.drawn (by kernel_rfl) ?_
 refine Dx.p (i := 0) rfl (by kernel_rfl) (mv rfl) rfl ?_
 refine Dx.p (i := 1) rfl (by kernel_rfl) (nilc rfl) rfl ?_
 refine Dx.p (i := 2) rfl (by kernel_rfl) (fa' fo113_0 rfl) rfl ?_
 refine Dx.r (i := 3) rfl (by kernel_rfl) (ld U23 rfl rfl rfl) rfl ?_
 refine Dx.p (i := 4) rfl (by kernel_rfl) (mv rfl) rfl ?_
 refine Dx.p (i := 5) rfl (by kernel_rfl) (Yx.val (add rfl rfl (show IntKind.i64.wrap _ = _ from rfl)) (show _ = i64 ((4 : Nat) : Int) from rfl)) rfl ?_
 refine Dx.p (i := 6) rfl (by kernel_rfl) (sl1A 4 U23 sz9 rfl rfl rfl (by omega) (by omega)) rfl ?_
 refine Dx.p (i := 8) rfl (by kernel_rfl) (mv rfl) rfl ?_
 refine Dx.p (i := 9) rfl (by kernel_rfl) (nilc rfl) rfl ?_
 refine Dx.p (i := 10) rfl (by kernel_rfl) (fa' fo113_1 rfl) rfl ?_
 refine Dx.r (i := 11) rfl (by kernel_rfl) (ld U23 rfl rfl rfl) rfl ?_
 refine Dx.p (i := 12) rfl (by kernel_rfl) (mv rfl) rfl ?_
 refine Dx.p (i := 13) rfl (by kernel_rfl) (Yx.val (add rfl rfl (show IntKind.i64.wrap _ = _ from rfl)) (show _ = i64 ((4 : Nat) : Int) from rfl)) rfl ?_
 refine Dx.p (i := 14) rfl (by kernel_rfl) (sl1A 4 U23 sz9 rfl rfl rfl (by omega) (by omega)) rfl ?_
 refine Dx.one (i := 7) (by kernel_rfl) ?_
 refine Dstep.o (i := 7) rfl (Ox.call rfl rfl rfl (CloneSo_ct bK 7 ck2 4 _ _ (by omega) (strs_all _) (by omega)) (pickS _)) rfl (fun v B' H' hΦ hB => ?_)
 obtain ⟨_, rfl, hΦ⟩ := hΦ
 obtain ⟨hBB, H0, ⟨Ak3, ck3, rfl, rfl, hck3⟩, rfl⟩ := hΦ
 subst hBB
 rename Frag => B
 clear hB
 rw [star_assoc]
 refine ⟨JOk.yes (JOk.yes (JOk.top) (ld U23 rfl rfl rfl)) (ld U23 rfl rfl rfl), ?_⟩
 refine Dx.one (i := 15) (by kernel_rfl) ?_
 refine Dstep.o (i := 15) rfl (Ox.call rfl rfl rfl (CloneSo_ct bV 7 cv2 4 _ _ (by omega) (strs_all _) (by omega)) (pickS _)) rfl (fun v B' H' hΦ hB => ?_)
 obtain ⟨_, rfl, hΦ⟩ := hΦ
 obtain ⟨hBB, H0, ⟨Av3, cv3, rfl, rfl, hcv3⟩, rfl⟩ := hΦ
 subst hBB
 rename Frag => B
 clear hB
 rw [star_assoc]
 refine ⟨JOk.yes (JOk.yes (JOk.top) (ld U23 rfl rfl rfl)) (ld U23 rfl rfl rfl), ?_⟩
 refine Dx.p (i := 16) rfl (by kernel_rfl) (bld ti113 pl113 rfl rfl) rfl ?_
 refine Dx.one (i := 17) (by kernel_rfl) ?_
 refine Dstep.o (i := 17) rfl (boxA rfl) rfl (fun v B' H' hΦ hB => ?_)
 obtain ⟨b3, rfl, rfl, rfl⟩ := hΦ; clear hB
 refine ⟨JOk.yes (JOk.yes (JOk.top) (ld U23 rfl rfl rfl)) (ld U23 rfl rfl rfl), ?_⟩
 refine Dx.p (i := 18) rfl (by kernel_rfl) (asg rfl) rfl ?_
 refine Dx.done (by kernel_rfl) ?_
 refine Xx.tn (k3 _ _ _ _ ?_)
 rename Frag => B
 refine Cx.cutK (ds' := []) (Sc 0 rfl (Sc 1 rfl (Sc 4 rfl (Sc 5 rfl (Sc 6 rfl (Sc 7 rfl (Sc 8 rfl (Sc 9 rfl (Sc 10 rfl (Sc 11 rfl (Sc 12 rfl (Sc 13 rfl (Sc 14 rfl (Sc 15 rfl (Sc 16 rfl (Sc 17 rfl (Sc 18 rfl (Sc 19 rfl (Sc 20 rfl (Sc 21 rfl (Sc 22 rfl (Sc 23 rfl (Sc 24 rfl (Sc 25 rfl (Sc 26 rfl (Sc 27 rfl (Sc 28 rfl (Sc 29 rfl (Sc 30 rfl (Sc 31 rfl (Sc 32 rfl (Sc 33 rfl (Sc 34 rfl (Sc 35 rfl (Sc 36 rfl (Sc 37 rfl (Sub.nil _))))))))))))))))))))))))))))))))))))) (fun ρ' B' H' => ∃ Ac2' cc2' Ac3 cc3, ρ' = [] ∧ B = B' ∧ row b 113 [.slice Ak n ck, .slice Av n cv, .slice (some ⟨bC, 0, none⟩) p cc] * (sbuf 9 1 Ak n ck (ks.map str) * (sbuf 9 1 Av n cv (vs.map str) * (row b2 113 [.slice (some ⟨bK, 0, none⟩) 7 ck2, .slice (some ⟨bV, 0, none⟩) 7 cv2, .slice Ac2' (min q 4) cc2'] * (row b3 113 [.slice Ak3 (7 - 4) ck3, .slice Av3 (7 - 4) cv3, .slice Ac3 (q - 4) cc3] * (sbuf 110 1 Ac2' (min q 4) cc2' (qs.take (4 * 1)) * (sbuf 110 1 Ac3 (q - 4) cc3 (qs.drop (4 * 1)) * (sbuf 9 1 (some ⟨bV, 0, none⟩) 7 cv2 (v7.map str) * (sbuf 9 1 Av3 (7 - 4) cv3 ((v7.map str).drop (4 * 1)) * (sbuf 9 1 (some ⟨bK, 0, none⟩) 7 ck2 (k7.map str) * (sbuf 9 1 Ak3 (7 - 4) ck3 ((k7.map str).drop (4 * 1)) * (sbuf 110 1 (some ⟨bC, 0, none⟩) p cc ps * R))))))))))) = H') ?_ ?_
 ·
  refine Cx.seq (fun K4 k4 => ?_)
  refine Cx.region <| Lx.y (mv rfl) rfl <| Lx.y (nilc rfl) rfl <| Lx.y (fa' fo113_2 rfl) rfl <| Lx.y (ld U111 rfl rfl rfl) rfl <| Lx.y (lenV (ty' := 0) U111 rfl) rfl <| Lx.y (gtr rfl rfl) rfl <| Lx.nil <| ?_
  refine Xx.tn (k4 _ _ _ _ ?_)
  refine Cx.condD rfl (fun h5 => ?_) (fun h5 => ?_)
  ·
   have hq8 : q = 8 := by have := h5; omega
   refine Cx.seq (fun K6 k6 => ?_)
   refine Xx.addrT Ac2 (by omega) (fun bQ hAq _ hcq => ?_)
   subst hAq
   refine Cx.region <| Lx.y (mv rfl) rfl <| Lx.y (mv rfl) rfl <| Lx.y (nilc rfl) rfl <| Lx.y (fa' fo113_2 rfl) rfl <| Lx.y (ld U111 rfl rfl rfl) rfl <| Lx.y (mv rfl) rfl <| Lx.y (Yx.val (add rfl rfl (show IntKind.i64.wrap _ = _ from rfl)) (show _ = i64 ((4 : Nat) : Int) from rfl)) rfl <| Lx.y (sl1A 4 U111 sz110 rfl rfl rfl (by omega) (by omega)) rfl <| ?_
   refine Lx.c rfl rfl rfl (CloneNo_ct bQ q cc2 4 _ _ (by omega) hqa (by omega)) (pickS _) rfl ?_
   rintro v B1 H1 ⟨hBB, H0, ⟨Ac3, cc3, rfl, rfl, hcc3⟩, rfl⟩ hB1
   subst hBB
   rename Frag => B
   clear hB1
   rw [star_assoc]
   refine Lx.y (nilc rfl) rfl <| Lx.y (fa' fo113_2 rfl) rfl <| ?_
   refine Lx.st (stO U111 sz111 rfl rfl rfl (by simp) rfl) ?_
   refine Lx.nil ?_
   refine Xx.tn (k6 _ _ _ _ ?_)
   refine Cx.region <| Lx.y (mv rfl) rfl <| Lx.y (mv rfl) rfl <| Lx.y (nilc rfl) rfl <| Lx.y (fa' fo113_2 rfl) rfl <| Lx.y (ld U111 rfl rfl rfl) rfl <| Lx.y (mv rfl) rfl <| Lx.y (Yx.val (add rfl rfl (show IntKind.i64.wrap _ = _ from rfl)) (show _ = i64 ((4 : Nat) : Int) from rfl)) rfl <| Lx.y (sl2V U111 sz110 rfl rfl (by first | exact Int.toNat_natCast _ | rfl) (by omega) (by omega)) rfl <| Lx.y (nilc rfl) rfl <| Lx.y (fa' fo113_2 rfl) rfl <| ?_
   refine Lx.st (stO U111 sz111 rfl rfl rfl (by simp) rfl) ?_
   refine Lx.nil ?_
   refine Xx.lessT bQ 4 (by omega) ?_
   exact Xx.mkK (⟨some ⟨bQ, 0, none⟩, cc2, Ac3, cc3, rfl, rfl, by rw [show min q 4 = 4 by omega]; ac_rfl⟩) (Sc 0 rfl (Sc 1 rfl (Sc 4 rfl (Sc 5 rfl (Sc 6 rfl (Sc 7 rfl (Sc 8 rfl (Sc 9 rfl (Sc 10 rfl (Sc 11 rfl (Sc 12 rfl (Sc 13 rfl (Sc 14 rfl (Sc 15 rfl (Sc 16 rfl (Sc 17 rfl (Sc 18 rfl (Sc 19 rfl (Sc 20 rfl (Sc 21 rfl (Sc 22 rfl (Sc 23 rfl (Sc 24 rfl (Sc 25 rfl (Sc 26 rfl (Sc 27 rfl (Sc 28 rfl (Sc 29 rfl (Sc 30 rfl (Sc 31 rfl (Sc 32 rfl (Sc 33 rfl (Sc 34 rfl (Sc 35 rfl (Sc 36 rfl (Sc 37 rfl (Sub.nil _)))))))))))))))))))))))))))))))))))))
  ·
   have hq0 : q = 0 := by have := h5; omega
   refine Cx.skip ?_
   exact Xx.mkK (⟨Ac2, cc2, none, 0, rfl, rfl, by subst hq0; obtain rfl := List.length_eq_zero_iff.1 hql; simp only [Nat.zero_sub, Nat.zero_min, List.take_nil, List.drop_nil, sbuf_nil, one_star]; ac_rfl⟩) (Sc 0 rfl (Sc 1 rfl (Sc 4 rfl (Sc 5 rfl (Sc 6 rfl (Sc 7 rfl (Sc 8 rfl (Sc 9 rfl (Sc 10 rfl (Sc 11 rfl (Sc 12 rfl (Sc 13 rfl (Sc 14 rfl (Sc 15 rfl (Sc 16 rfl (Sc 17 rfl (Sc 18 rfl (Sc 19 rfl (Sc 20 rfl (Sc 21 rfl (Sc 22 rfl (Sc 23 rfl (Sc 24 rfl (Sc 25 rfl (Sc 26 rfl (Sc 27 rfl (Sc 28 rfl (Sc 29 rfl (Sc 30 rfl (Sc 31 rfl (Sc 32 rfl (Sc 33 rfl (Sc 34 rfl (Sc 35 rfl (Sc 36 rfl (Sc 37 rfl (Sub.nil _)))))))))))))))))))))))))))))))))))))
 ·rintro ρ' B' H' ⟨Ac2', cc2', Ac3, cc3, rfl, rfl, rfl⟩
  rename Frag => B
  refine Cx.cutK (ds' := []) (Sc 0 rfl (Sc 1 rfl (Sc 4 rfl (Sc 5 rfl (Sc 6 rfl (Sc 7 rfl (Sc 8 rfl (Sc 9 rfl (Sc 10 rfl (Sc 11 rfl (Sc 12 rfl (Sc 13 rfl (Sc 14 rfl (Sc 15 rfl (Sc 16 rfl (Sc 17 rfl (Sc 18 rfl (Sc 19 rfl (Sc 20 rfl (Sc 21 rfl (Sc 22 rfl (Sc 23 rfl (Sc 24 rfl (Sc 25 rfl (Sc 26 rfl (Sc 27 rfl (Sc 28 rfl (Sc 29 rfl (Sc 30 rfl (Sc 31 rfl (Sc 32 rfl (Sc 33 rfl (Sc 34 rfl (Sc 35 rfl (Sc 36 rfl (Sc 37 rfl (Sub.nil _))))))))))))))))))))))))))))))))))))) (fun ρ' B' H' => ∃ Ak9 ck9 Av9 cv9, ρ' = [] ∧ B = B' ∧ row b 113 [.slice Ak9 (n + 1) ck9, .slice Av9 (n + 1) cv9, .slice (some ⟨bC, 0, none⟩) p cc] * (sbuf 9 1 Ak9 (n + 1) ck9 ((ks.map str).take (i * 1) ++ [str kM] ++ (ks.map str).drop (i * 1)) * (sbuf 9 1 Av9 (n + 1) cv9 ((vs.map str).take (i * 1) ++ [str vM] ++ (vs.map str).drop (i * 1)) * (row b2 113 [.slice (some ⟨bK, 0, none⟩) 7 ck2, .slice (some ⟨bV, 0, none⟩) 7 cv2, .slice Ac2' (min q 4) cc2'] * (row b3 113 [.slice Ak3 (7 - 4) ck3, .slice Av3 (7 - 4) cv3, .slice Ac3 (q - 4) cc3] * (sbuf 110 1 Ac2' (min q 4) cc2' (qs.take (4 * 1)) * (sbuf 110 1 Ac3 (q - 4) cc3 (qs.drop (4 * 1)) * (sbuf 9 1 (some ⟨bV, 0, none⟩) 7 cv2 (v7.map str) * (sbuf 9 1 Av3 (7 - 4) cv3 ((v7.map str).drop (4 * 1)) * (sbuf 9 1 (some ⟨bK, 0, none⟩) 7 ck2 (k7.map str) * (sbuf 9 1 Ak3 (7 - 4) ck3 ((k7.map str).drop (4 * 1)) * (sbuf 110 1 (some ⟨bC, 0, none⟩) p cc ps * R))))))))))) = H') ?_ ?_
  ·
   refine Cx.drawn (by kernel_rfl) ?_
   refine Dx.p (i := 0) rfl (by kernel_rfl) (mv rfl) rfl ?_
   refine Dx.p (i := 1) rfl (by kernel_rfl) (mv rfl) rfl ?_
   refine Dx.p (i := 2) rfl (by kernel_rfl) (mv rfl) rfl ?_
   refine Dx.p (i := 3) rfl (by kernel_rfl) (nilc rfl) rfl ?_
   refine Dx.p (i := 4) rfl (by kernel_rfl) (fa' fo113_0 rfl) rfl ?_
   refine Dx.r (i := 5) rfl (by kernel_rfl) (ld U23 rfl rfl rfl) rfl ?_
   refine Dx.p (i := 6) rfl (by kernel_rfl) (mv rfl) rfl ?_
   refine Dx.p (i := 7) rfl (by kernel_rfl) (mv rfl) rfl ?_
   refine Dx.p (i := 8) rfl (by kernel_rfl) (nilc rfl) rfl ?_
   refine Dx.p (i := 9) rfl (by kernel_rfl) (fa' fo113_0 rfl) rfl ?_
   refine Dx.r (i := 10) rfl (by kernel_rfl) (ld U23 rfl rfl rfl) rfl ?_
   refine Dx.p (i := 11) rfl (by kernel_rfl) (mv rfl) rfl ?_
   refine Dx.p (i := 12) rfl (by kernel_rfl) (ia U23 sz9 rfl rfl (by first | exact Int.toNat_natCast _ | rfl) (by omega) (by omega)) rfl ?_
   refine Dx.r (i := 13) rfl (by kernel_rfl) (ldC U9 rfl rfl (Cells.buf (m := 1) hk3 (by rw [List.length_map]; omega))) rfl ?_
   refine Dx.p (i := 16) rfl (by kernel_rfl) (mv rfl) rfl ?_
   refine Dx.p (i := 17) rfl (by kernel_rfl) (nilc rfl) rfl ?_
   refine Dx.p (i := 18) rfl (by kernel_rfl) (fa' fo113_1 rfl) rfl ?_
   refine Dx.r (i := 19) rfl (by kernel_rfl) (ld U23 rfl rfl rfl) rfl ?_
   refine Dx.p (i := 20) rfl (by kernel_rfl) (mv rfl) rfl ?_
   refine Dx.p (i := 21) rfl (by kernel_rfl) (mv rfl) rfl ?_
   refine Dx.p (i := 22) rfl (by kernel_rfl) (nilc rfl) rfl ?_
   refine Dx.p (i := 23) rfl (by kernel_rfl) (fa' fo113_1 rfl) rfl ?_
   refine Dx.r (i := 24) rfl (by kernel_rfl) (ld U23 rfl rfl rfl) rfl ?_
   refine Dx.p (i := 25) rfl (by kernel_rfl) (mv rfl) rfl ?_
   refine Dx.p (i := 26) rfl (by kernel_rfl) (ia U23 sz9 rfl rfl (by first | exact Int.toNat_natCast _ | rfl) (by omega) (by omega)) rfl ?_
   refine Dx.r (i := 27) rfl (by kernel_rfl) (ldC U9 rfl rfl (Cells.buf (m := 1) hv3 (by rw [List.length_map]; omega))) rfl ?_
   refine Dx.two (i := 14) (j := 28) (by kernel_rfl) ?_ ?_
   ·
    refine Dstep.o (i := 14) rfl (bsl1 U23 ti9 rfl rfl rfl (by decide)) rfl (fun v B' H' hΦ hB => ?_)
    obtain ⟨b614, rfl, rfl, rfl⟩ := hΦ; clear hB
    refine ⟨JOk.yes (JOk.yes (JOk.yes (JOk.edge (JOk.yes (JOk.yes (JOk.top) (ld U23 rfl rfl rfl)) (ld U23 rfl rfl rfl)) (by kernel_rfl)) (ld U23 rfl rfl rfl)) (ld U23 rfl rfl rfl)) (ldC U9 rfl rfl (Cells.buf (m := 1) hv3 (by rw [List.length_map]; omega))), ?_⟩
    refine Dx.two (i := 15) (j := 28) (by kernel_rfl) ?_ ?_
    ·
     refine Dstep.o (i := 15) rfl (Ox.call rfl rfl rfl (InsS_ct Ak i n ck (ks.map str) b614 9 [str kM] _ (by omega) (by rw [List.length_map]; omega) (strs_all _) rfl rfl (by omega)) (pickSB _ _)) rfl (fun v B' H' hΦ hB => ?_)
     obtain ⟨_, rfl, hΦ⟩ := hΦ
     obtain ⟨Ak9, ck9, rfl, hBB, rfl, ⟨_, hAck9⟩, hck9⟩ := hΦ
     subst hBB
     rename Frag => B
     clear hB
     refine ⟨JOk.yes (JOk.yes (JOk.yes (JOk.yes (JOk.yes (JOk.edge (JOk.top) (by kernel_rfl)) (ld U23 rfl rfl rfl)) (ldC U9 rfl rfl (Cells.buf (m := 1) hk3 (by rw [List.length_map]; omega)))) (ld U23 rfl rfl rfl)) (ld U23 rfl rfl rfl)) (ldC U9 rfl rfl (Cells.buf (m := 1) hv3 (by rw [List.length_map]; omega))), ?_⟩
     refine Dx.one (i := 28) (by kernel_rfl) ?_
     refine Dstep.o (i := 28) rfl (bsl1 U23 ti9 rfl rfl rfl (by decide)) rfl (fun v B' H' hΦ hB => ?_)
     obtain ⟨b628, rfl, rfl, rfl⟩ := hΦ; clear hB
     refine ⟨JOk.edge (JOk.yes (JOk.yes (JOk.yes (JOk.yes (JOk.yes (JOk.top) (ld U23 rfl rfl rfl)) (ld U23 rfl rfl rfl)) (ldC U9 rfl rfl (Cells.buf (m := 1) hk3 (by rw [List.length_map]; omega)))) (ld U23 rfl rfl rfl)) (ld U23 rfl rfl rfl)) (by kernel_rfl), ?_⟩
     refine Dx.one (i := 29) (by kernel_rfl) ?_
     refine Dstep.o (i := 29) rfl (Ox.call rfl rfl rfl (InsS_ct Av i n cv (vs.map str) b628 9 [str vM] _ (by omega) (by rw [List.length_map]; omega) (strs_all _) rfl rfl (by omega)) (pickSB _ _)) rfl (fun v B' H' hΦ hB => ?_)
     obtain ⟨_, rfl, hΦ⟩ := hΦ
     obtain ⟨Av9, cv9, rfl, hBB, rfl, ⟨_, hAcv9⟩, hcv9⟩ := hΦ
     subst hBB
     rename Frag => B
     clear hB
     refine ⟨JOk.yes (JOk.yes (JOk.edge (JOk.yes (JOk.yes (JOk.yes (JOk.top) (ld U23 rfl rfl rfl)) (ld U23 rfl rfl rfl)) (ldC U9 rfl rfl (Cells.buf (m := 1) hk3 (by rw [List.length_map]; omega)))) (by kernel_rfl)) (ld U23 rfl rfl rfl)) (ldC U9 rfl rfl (Cells.buf (m := 1) hv3 (by rw [List.length_map]; omega))), ?_⟩
     refine Dx.p (i := 30) rfl (by kernel_rfl) (nilc rfl) rfl ?_
     refine Dx.p (i := 31) rfl (by kernel_rfl) (fa' fo113_0 rfl) rfl ?_
     refine Dx.one (i := 32) (by kernel_rfl) ?_
     refine Dstep.o0 (i := 32) rfl (stO U23 sz23 rfl rfl rfl (by simp) rfl) (fun v B' H' hΦ hB => ?_)
     obtain ⟨rfl, rfl⟩ := hΦ; clear hB v
     refine ⟨JOk.edge (JOk.edge (JOk.edge (JOk.edge (JOk.edge (JOk.edge (JOk.top) (by kernel_rfl)) (by kernel_rfl)) (by kernel_rfl)) (by kernel_rfl)) (by kernel_rfl)) (by kernel_rfl), ?_⟩
     refine Dx.p (i := 33) rfl (by kernel_rfl) (nilc rfl) rfl ?_
     refine Dx.p (i := 34) rfl (by kernel_rfl) (fa' fo113_1 rfl) rfl ?_
     refine Dx.one (i := 35) (by kernel_rfl) ?_
     refine Dstep.o0 (i := 35) rfl (stO U23 sz23 rfl rfl rfl (by simp) rfl) (fun v B' H' hΦ hB => ?_)
     obtain ⟨rfl, rfl⟩ := hΦ; clear hB v
     refine ⟨JOk.edge (JOk.edge (JOk.edge (JOk.edge (JOk.edge (JOk.edge (JOk.top) (by kernel_rfl)) (by kernel_rfl)) (by kernel_rfl)) (by kernel_rfl)) (by kernel_rfl)) (by kernel_rfl), ?_⟩
     refine Dx.done (by kernel_rfl) ?_
     exact Xx.mkK (⟨Ak9, ck9, Av9, cv9, rfl, rfl, by ac_rfl⟩) (Sc 0 rfl (Sc 1 rfl (Sc 4 rfl (Sc 5 rfl (Sc 6 rfl (Sc 7 rfl (Sc 8 rfl (Sc 9 rfl (Sc 10 rfl (Sc 11 rfl (Sc 12 rfl (Sc 13 rfl (Sc 14 rfl (Sc 15 rfl (Sc 16 rfl (Sc 17 rfl (Sc 18 rfl (Sc 19 rfl (Sc 20 rfl (Sc 21 rfl (Sc 22 rfl (Sc 23 rfl (Sc 24 rfl (Sc 25 rfl (Sc 26 rfl (Sc 27 rfl (Sc 28 rfl (Sc 29 rfl (Sc 30 rfl (Sc 31 rfl (Sc 32 rfl (Sc 33 rfl (Sc 34 rfl (Sc 35 rfl (Sc 36 rfl (Sc 37 rfl (Sub.nil _)))))))))))))))))))))))))))))))))))))
    refine Dstep.o (i := 28) rfl (bsl1 U23 ti9 rfl rfl rfl (by decide)) rfl (fun v B' H' hΦ hB => ?_)
    obtain ⟨b628, rfl, rfl, rfl⟩ := hΦ; clear hB
    refine ⟨JOk.edge (JOk.yes (JOk.yes (JOk.yes (JOk.yes (JOk.yes (JOk.top) (ld U23 rfl rfl rfl)) (ld U23 rfl rfl rfl)) (ldC U9 rfl rfl (Cells.buf (m := 1) hk3 (by rw [List.length_map]; omega)))) (ld U23 rfl rfl rfl)) (ld U23 rfl rfl rfl)) (by kernel_rfl), ?_⟩
    refine Dx.one (i := 15) (by kernel_rfl) ?_
    refine Dstep.o (i := 15) rfl (Ox.call rfl rfl rfl (InsS_ct Ak i n ck (ks.map str) b614 9 [str kM] _ (by omega) (by rw [List.length_map]; omega) (strs_all _) rfl rfl (by omega)) (pickSB _ _)) rfl (fun v B' H' hΦ hB => ?_)
    obtain ⟨_, rfl, hΦ⟩ := hΦ
    obtain ⟨Ak9, ck9, rfl, hBB, rfl, ⟨_, hAck9⟩, hck9⟩ := hΦ
    subst hBB
    rename Frag => B
    clear hB
    refine ⟨JOk.yes (JOk.yes (JOk.yes (JOk.yes (JOk.yes (JOk.edge (JOk.top) (by kernel_rfl)) (ld U23 rfl rfl rfl)) (ldC U9 rfl rfl (Cells.buf (m := 1) hk3 (by rw [List.length_map]; omega)))) (ld U23 rfl rfl rfl)) (ld U23 rfl rfl rfl)) (ldC U9 rfl rfl (Cells.buf (m := 1) hv3 (by rw [List.length_map]; omega))), ?_⟩
    refine Dx.one (i := 29) (by kernel_rfl) ?_
    refine Dstep.o (i := 29) rfl (Ox.call rfl rfl rfl (InsS_ct Av i n cv (vs.map str) b628 9 [str vM] _ (by omega) (by rw [List.length_map]; omega) (strs_all _) rfl rfl (by omega)) (pickSB _ _)) rfl (fun v B' H' hΦ hB => ?_)
    obtain ⟨_, rfl, hΦ⟩ := hΦ
    obtain ⟨Av9, cv9, rfl, hBB, rfl, ⟨_, hAcv9⟩, hcv9⟩ := hΦ
    subst hBB
    rename Frag => B
    clear hB
    refine ⟨JOk.yes (JOk.yes (JOk.edge (JOk.yes (JOk.yes (JOk.yes (JOk.top) (ld U23 rfl rfl rfl)) (ld U23 rfl rfl rfl)) (ldC U9 rfl rfl (Cells.buf (m := 1) hk3 (by rw [List.length_map]; omega)))) (by kernel_rfl)) (ld U23 rfl rfl rfl)) (ldC U9 rfl rfl (Cells.buf (m := 1) hv3 (by rw [List.length_map]; omega))), ?_⟩
    refine Dx.p (i := 30) rfl (by kernel_rfl) (nilc rfl) rfl ?_
    refine Dx.p (i := 31) rfl (by kernel_rfl) (fa' fo113_0 rfl) rfl ?_
    refine Dx.one (i := 32) (by kernel_rfl) ?_
    refine Dstep.o0 (i := 32) rfl (stO U23 sz23 rfl rfl rfl (by simp) rfl) (fun v B' H' hΦ hB => ?_)
    obtain ⟨rfl, rfl⟩ := hΦ; clear hB v
    refine ⟨JOk.edge (JOk.edge (JOk.edge (JOk.edge (JOk.edge (JOk.edge (JOk.top) (by kernel_rfl)) (by kernel_rfl)) (by kernel_rfl)) (by kernel_rfl)) (by kernel_rfl)) (by kernel_rfl), ?_⟩
    refine Dx.p (i := 33) rfl (by kernel_rfl) (nilc rfl) rfl ?_
    refine Dx.p (i := 34) rfl (by kernel_rfl) (fa' fo113_1 rfl) rfl ?_
    refine Dx.one (i := 35) (by kernel_rfl) ?_
    refine Dstep.o0 (i := 35) rfl (stO U23 sz23 rfl rfl rfl (by simp) rfl) (fun v B' H' hΦ hB => ?_)
    obtain ⟨rfl, rfl⟩ := hΦ; clear hB v
    refine ⟨JOk.edge (JOk.edge (JOk.edge (JOk.edge (JOk.edge (JOk.edge (JOk.top) (by kernel_rfl)) (by kernel_rfl)) (by kernel_rfl)) (by kernel_rfl)) (by kernel_rfl)) (by kernel_rfl), ?_⟩
    refine Dx.done (by kernel_rfl) ?_
    exact Xx.mkK (⟨Ak9, ck9, Av9, cv9, rfl, rfl, by ac_rfl⟩) (Sc 0 rfl (Sc 1 rfl (Sc 4 rfl (Sc 5 rfl (Sc 6 rfl (Sc 7 rfl (Sc 8 rfl (Sc 9 rfl (Sc 10 rfl (Sc 11 rfl (Sc 12 rfl (Sc 13 rfl (Sc 14 rfl (Sc 15 rfl (Sc 16 rfl (Sc 17 rfl (Sc 18 rfl (Sc 19 rfl (Sc 20 rfl (Sc 21 rfl (Sc 22 rfl (Sc 23 rfl (Sc 24 rfl (Sc 25 rfl (Sc 26 rfl (Sc 27 rfl (Sc 28 rfl (Sc 29 rfl (Sc 30 rfl (Sc 31 rfl (Sc 32 rfl (Sc 33 rfl (Sc 34 rfl (Sc 35 rfl (Sc 36 rfl (Sc 37 rfl (Sub.nil _)))))))))))))))))))))))))))))))))))))
   refine Dstep.o (i := 28) rfl (bsl1 U23 ti9 rfl rfl rfl (by decide)) rfl (fun v B' H' hΦ hB => ?_)
   obtain ⟨b628, rfl, rfl, rfl⟩ := hΦ; clear hB
   refine ⟨JOk.edge (JOk.yes (JOk.yes (JOk.yes (JOk.yes (JOk.yes (JOk.top) (ld U23 rfl rfl rfl)) (ld U23 rfl rfl rfl)) (ldC U9 rfl rfl (Cells.buf (m := 1) hk3 (by rw [List.length_map]; omega)))) (ld U23 rfl rfl rfl)) (ld U23 rfl rfl rfl)) (by kernel_rfl), ?_⟩
   refine Dx.one (i := 14) (by kernel_rfl) ?_
   refine Dstep.o (i := 14) rfl (bsl1 U23 ti9 rfl rfl rfl (by decide)) rfl (fun v B' H' hΦ hB => ?_)
   obtain ⟨b614, rfl, rfl, rfl⟩ := hΦ; clear hB
   refine ⟨JOk.yes (JOk.yes (JOk.yes (JOk.edge (JOk.yes (JOk.yes (JOk.top) (ld U23 rfl rfl rfl)) (ld U23 rfl rfl rfl)) (by kernel_rfl)) (ld U23 rfl rfl rfl)) (ld U23 rfl rfl rfl)) (ldC U9 rfl rfl (Cells.buf (m := 1) hv3 (by rw [List.length_map]; omega))), ?_⟩
   refine Dx.one (i := 15) (by kernel_rfl) ?_
   refine Dstep.o (i := 15) rfl (Ox.call rfl rfl rfl (InsS_ct Ak i n ck (ks.map str) b614 9 [str kM] _ (by omega) (by rw [List.length_map]; omega) (strs_all _) rfl rfl (by omega)) (pickSB _ _)) rfl (fun v B' H' hΦ hB => ?_)
   obtain ⟨_, rfl, hΦ⟩ := hΦ
   obtain ⟨Ak9, ck9, rfl, hBB, rfl, ⟨_, hAck9⟩, hck9⟩ := hΦ
   subst hBB
   rename Frag => B
   clear hB
   refine ⟨JOk.yes (JOk.yes (JOk.yes (JOk.yes (JOk.yes (JOk.edge (JOk.top) (by kernel_rfl)) (ld U23 rfl rfl rfl)) (ldC U9 rfl rfl (Cells.buf (m := 1) hk3 (by rw [List.length_map]; omega)))) (ld U23 rfl rfl rfl)) (ld U23 rfl rfl rfl)) (ldC U9 rfl rfl (Cells.buf (m := 1) hv3 (by rw [List.length_map]; omega))), ?_⟩
   refine Dx.one (i := 29) (by kernel_rfl) ?_
   refine Dstep.o (i := 29) rfl (Ox.call rfl rfl rfl (InsS_ct Av i n cv (vs.map str) b628 9 [str vM] _ (by omega) (by rw [List.length_map]; omega) (strs_all _) rfl rfl (by omega)) (pickSB _ _)) rfl (fun v B' H' hΦ hB => ?_)
   obtain ⟨_, rfl, hΦ⟩ := hΦ
   obtain ⟨Av9, cv9, rfl, hBB, rfl, ⟨_, hAcv9⟩, hcv9⟩ := hΦ
   subst hBB
   rename Frag => B
   clear hB
   refine ⟨JOk.yes (JOk.yes (JOk.edge (JOk.yes (JOk.yes (JOk.yes (JOk.top) (ld U23 rfl rfl rfl)) (ld U23 rfl rfl rfl)) (ldC U9 rfl rfl (Cells.buf (m := 1) hk3 (by rw [List.length_map]; omega)))) (by kernel_rfl)) (ld U23 rfl rfl rfl)) (ldC U9 rfl rfl (Cells.buf (m := 1) hv3 (by rw [List.length_map]; omega))), ?_⟩
   refine Dx.p (i := 30) rfl (by kernel_rfl) (nilc rfl) rfl ?_
   refine Dx.p (i := 31) rfl (by kernel_rfl) (fa' fo113_0 rfl) rfl ?_
   refine Dx.one (i := 32) (by kernel_rfl) ?_
   refine Dstep.o0 (i := 32) rfl (stO U23 sz23 rfl rfl rfl (by simp) rfl) (fun v B' H' hΦ hB => ?_)
   obtain ⟨rfl, rfl⟩ := hΦ; clear hB v
   refine ⟨JOk.edge (JOk.edge (JOk.edge (JOk.edge (JOk.edge (JOk.edge (JOk.top) (by kernel_rfl)) (by kernel_rfl)) (by kernel_rfl)) (by kernel_rfl)) (by kernel_rfl)) (by kernel_rfl), ?_⟩
   refine Dx.p (i := 33) rfl (by kernel_rfl) (nilc rfl) rfl ?_
   refine Dx.p (i := 34) rfl (by kernel_rfl) (fa' fo113_1 rfl) rfl ?_
   refine Dx.one (i := 35) (by kernel_rfl) ?_
   refine Dstep.o0 (i := 35) rfl (stO U23 sz23 rfl rfl rfl (by simp) rfl) (fun v B' H' hΦ hB => ?_)
   obtain ⟨rfl, rfl⟩ := hΦ; clear hB v
   refine ⟨JOk.edge (JOk.edge (JOk.edge (JOk.edge (JOk.edge (JOk.edge (JOk.top) (by kernel_rfl)) (by kernel_rfl)) (by kernel_rfl)) (by kernel_rfl)) (by kernel_rfl)) (by kernel_rfl), ?_⟩
   refine Dx.done (by kernel_rfl) ?_
   exact Xx.mkK (⟨Ak9, ck9, Av9, cv9, rfl, rfl, by ac_rfl⟩) (Sc 0 rfl (Sc 1 rfl (Sc 4 rfl (Sc 5 rfl (Sc 6 rfl (Sc 7 rfl (Sc 8 rfl (Sc 9 rfl (Sc 10 rfl (Sc 11 rfl (Sc 12 rfl (Sc 13 rfl (Sc 14 rfl (Sc 15 rfl (Sc 16 rfl (Sc 17 rfl (Sc 18 rfl (Sc 19 rfl (Sc 20 rfl (Sc 21 rfl (Sc 22 rfl (Sc 23 rfl (Sc 24 rfl (Sc 25 rfl (Sc 26 rfl (Sc 27 rfl (Sc 28 rfl (Sc 29 rfl (Sc 30 rfl (Sc 31 rfl (Sc 32 rfl (Sc 33 rfl (Sc 34 rfl (Sc 35 rfl (Sc 36 rfl (Sc 37 rfl (Sub.nil _)))))))))))))))))))))))))))))))))))))
  ·rintro ρ' B' H' ⟨Ak9, ck9, Av9, cv9, rfl, rfl, rfl⟩
   refine Cx.seq (fun K7 k7 => ?_)
   refine Cx.region <| Lx.y (mv rfl) rfl <| Lx.y (mv rfl) rfl <| Lx.y (nilc rfl) rfl <| Lx.y (fa' fo113_2 rfl) rfl <| Lx.y (ld U111 rfl rfl rfl) rfl <| Lx.y (mv rfl) rfl <| Lx.y (Yx.val (add rfl rfl (by first | exact wrap64 (by omega) (by omega) | rfl)) (show _ = i64 ((i + 1 : Nat) : Int) from rfl)) rfl <| Lx.y (mv rfl) rfl <| ?_
   refine Lx.bsl (bsl1 U111 ti110 rfl rfl rfl (by decide)) rfl (fun b78 => ?_)
   refine Lx.c rfl rfl rfl (InsN_ct _ (i + 1) p cc ps b78 110 [.pointer (some ⟨b3, 0, none⟩)] _ (by omega) (by omega) hpa rfl rfl (by omega)) (pickSB _ _) rfl ?_
   rintro v B1 H1 ⟨Ac9, cc9, rfl, hBB, rfl, ⟨_, hAcc9⟩, hcc9⟩ hB1
   subst hBB
   rename Frag => B
   clear hB1
   refine Lx.y (nilc rfl) rfl <| Lx.y (fa' fo113_2 rfl) rfl <| ?_
   refine Lx.st (stO U111 sz111 rfl rfl rfl (by simp) rfl) ?_
   refine Lx.nil ?_
   refine Xx.tn (k7 _ _ _ _ ?_)
   refine Cx.drawn (by kernel_rfl) ?_
   refine Dx.p (i := 0) rfl (by kernel_rfl) (mv rfl) rfl ?_
   refine Dx.p (i := 1) rfl (by kernel_rfl) (mv rfl) rfl ?_
   refine Dx.p (i := 2) rfl (by kernel_rfl) (mv rfl) rfl ?_
   refine Dx.p (i := 3) rfl (by kernel_rfl) (nilc rfl) rfl ?_
   refine Dx.p (i := 4) rfl (by kernel_rfl) (fa' fo113_0 rfl) rfl ?_
   refine Dx.r (i := 5) rfl (by kernel_rfl) (ld U23 rfl rfl rfl) rfl ?_
   refine Dx.p (i := 6) rfl (by kernel_rfl) (mv rfl) rfl ?_
   refine Dx.p (i := 7) rfl (by kernel_rfl) (sl2V U23 sz9 rfl rfl (by first | exact Int.toNat_natCast _ | rfl) (by omega) (by omega)) rfl ?_
   refine Dx.p (i := 8) rfl (by kernel_rfl) (mv rfl) rfl ?_
   refine Dx.p (i := 9) rfl (by kernel_rfl) (nilc rfl) rfl ?_
   refine Dx.p (i := 10) rfl (by kernel_rfl) (fa' fo113_1 rfl) rfl ?_
   refine Dx.r (i := 11) rfl (by kernel_rfl) (ld U23 rfl rfl rfl) rfl ?_
   refine Dx.p (i := 12) rfl (by kernel_rfl) (mv rfl) rfl ?_
   refine Dx.p (i := 13) rfl (by kernel_rfl) (sl2V U23 sz9 rfl rfl (by first | exact Int.toNat_natCast _ | rfl) (by omega) (by omega)) rfl ?_
   refine Dx.p (i := 14) rfl (by kernel_rfl) (nilc rfl) rfl ?_
   refine Dx.p (i := 15) rfl (by kernel_rfl) (fa' fo113_0 rfl) rfl ?_
   refine Dx.one (i := 16) (by kernel_rfl) ?_
   refine Dstep.o0 (i := 16) rfl (stO U23 sz23 rfl rfl rfl (by simp) rfl) (fun v B' H' hΦ hB => ?_)
   obtain ⟨rfl, rfl⟩ := hΦ; clear hB v
   refine ⟨JOk.edge (JOk.edge (JOk.top) (by kernel_rfl)) (by kernel_rfl), ?_⟩
   refine Dx.p (i := 17) rfl (by kernel_rfl) (nilc rfl) rfl ?_
   refine Dx.p (i := 18) rfl (by kernel_rfl) (fa' fo113_1 rfl) rfl ?_
   refine Dx.one (i := 19) (by kernel_rfl) ?_
   refine Dstep.o0 (i := 19) rfl (stO U23 sz23 rfl rfl rfl (by simp) rfl) (fun v B' H' hΦ hB => ?_)
   obtain ⟨rfl, rfl⟩ := hΦ; clear hB v
   refine ⟨JOk.edge (JOk.edge (JOk.top) (by kernel_rfl)) (by kernel_rfl), ?_⟩
   refine Dx.done (by kernel_rfl) ?_
   refine Xx.lessT bK 3 (by omega) ?_
   refine Xx.lessT bV 3 (by omega) ?_
   exact Xx.end0 rfl ⟨rfl, rfl, Ak9, ck9, Av9, cv9, Ac9, cc9, cc2', Ac2', b3, Ak3, ck3, Av3, cv3, Ac3, cc3, rfl⟩ (Frag.le_refl _) (by ac_rfl)
end BtD
end Go.Proofs.YtdidpocakipinaaGreatDoor
namespace Go.Proofs.YtdidpocakipinaaGreatDoor
open Go.SL Go.RowKit
set_option maxRecDepth 100000
open Ke1 Ke3 Ke4 Ke5 Ke6 Ke7 Ke8 Ke9 KeA KeB KeC KeD KeE KeF KeG KeI RgA BtB BtC BtD
namespace BtE
theorem ctFrame {P : Program} {f : FuncId} {args : List Value} {B : Frag} {pre : HP} {Φ : Value → Frag → HP → Prop} (F : HP) (h : Ct P f args B pre Φ) : Ct P f args B (pre * F) (fun v B' H' => ∃ H0, Φ v B' H0 ∧ H' = H0 * F) :=
  ⟨h.1, fun N0 w R s => by
    refine (h.2 N0 w (F * R) (s.of_eq (star_assoc _ _ _))).mono ?_
    rintro x w' ⟨v, B', H', hx, hΦ, hB, hb, s2⟩
    exact ⟨v, B', H' * F, hx, ⟨H', hΦ, rfl⟩, hB, hb, s2.of_eq (star_assoc _ _ _).symm⟩⟩
theorem ctTo {P : Program} {f : FuncId} {args : List Value} {B : Frag} {pre pre' : HP} {Φ Ψ : Value → Frag → HP → Prop} (h : Ct P f args B pre Φ) (he : pre' = pre) (hw : ∀ v B' H', Φ v B' H' → Ψ v B' H') : Ct P f args B pre' Ψ := by
  subst he
  exact ⟨h.1, fun N0 w R s => (h.2 N0 w R s).mono fun x w' ⟨v, B', H', hx, hΦ, hB, hb, s2⟩ => ⟨v, B', H', hx, hw _ _ _ hΦ, hB, hb, s2⟩⟩
def Halved (c : C) (i : Nat) (kid c' : C) : Prop := ∃ L M : C, c'.b = c.b ∧ c'.ks = c.ks.take i ++ [kid.ks.getD 3 []] ++ c.ks.drop i ∧ c'.vs = c.vs.take i ++ [kid.vs.getD 3 []] ++ c.vs.drop i ∧ c'.cs = c.cs.take i ++ [L, M] ++ c.cs.drop (i + 1) ∧
  L.b = kid.b ∧ L.ks = kid.ks.take 3 ∧ L.vs = kid.vs.take 3 ∧ L.cs = kid.cs.take 4 ∧ M.ks = kid.ks.drop 4 ∧ M.vs = kid.vs.drop 4 ∧ M.cs = kid.cs.drop 4
theorem take1 {α : Type} (l : List α) {i : Nat} (h : i < l.length) : (l.drop i).take 1 = [l[i]] := by
  rw [List.drop_eq_getElem_cons h]; rfl
theorem take_succ1 {α : Type} (l : List α) {i : Nat} (h : i < l.length) : l.take (i + 1) = l.take i ++ [l[i]] := by
  rw [List.take_succ_eq_append_getElem h]
theorem pts_all (l : List C) : (l.map pt).all (·.oneCell') = true := by
  rw [List.all_eq_true]; intro v hv; obtain ⟨x, _, rfl⟩ := List.mem_map.1 hv; rfl
theorem getD3 {l : List Str8} (h : l.length = 7) : l.getD 3 [] = l[3]'(by omega) := by simp [List.getD, show 3 < l.length by omega]
theorem halve_ct (N : Nat) (hN : N ≤ 90) (d : Nat) (c : C) (i : Nat) (hi : i < c.cs.length) (hok : Ok N (d + 2) c) (h7 : c.cs[i].ks.length = 7) (B : Frag) :
    Ct Tryz.prog 62 [.pointer (some ⟨c.b, 0, none⟩), i64 i] B (tr (d + 2) c) (fun v B' H' => v = .tuple #[] ∧ B' = B ∧ ∃ c', H' = tr (d + 2) c' ∧ Halved c i c.cs[i] c') := by
  obtain ⟨hv, hk, hcs, hkids⟩ := hok
  have hkid := hkids _ (List.getElem_mem hi)
  generalize hg : c.cs[i] = kid at *
  obtain ⟨kv, kk, kcs, _⟩ := hkid
  have hpl : c.cs.length = c.ks.length + 1 := by rcases hcs with h | h; rw [h] at hi; simp at hi; exact h
  have hq : kid.cs.length = 0 ∨ kid.cs.length = 8 := by rcases kcs with h | h; left; simp [h]; right; omega
  have hraw := halve_raw c.b c.ks.length c.cs.length kid.cs.length i kid.b c.Ak c.Av c.Ac kid.Ak kid.Av kid.Ac c.ck c.cv c.cc kid.ck kid.cv kid.cc c.ks c.vs kid.ks kid.vs (c.cs.map pt) (kid.cs.map pt) (kid.ks.getD 3 []) (kid.vs.getD 3 []) B (by omega) hpl hi rfl hv (by simp) h7 (by omega) hq (by simp)
    (by rw [Nat.zero_add, Nat.mul_one, take1 _ (by simpa using hi)]; simp [hg, pt]) (by rw [take1 _ (by simp; omega), getD3 h7]; simp) (by rw [take1 _ (by simp; omega), getD3 (show kid.vs.length = 7 by omega)]; simp) (pts_all _) (pts_all _)
  refine ctTo (ctFrame (trs (tr d) kid.cs * (trs (tr (d + 1)) (c.cs.take i) * trs (tr (d + 1)) (c.cs.drop (i + 1)))) hraw) ?_ ?_
  · show nrow c * (kbuf c * (vbuf c * (cbuf c * trs (tr (d + 1)) c.cs))) = _
    rw [trs_at _ _ _ hi, hg]
    show nrow c * (kbuf c * (vbuf c * (cbuf c * ((nrow kid * (kbuf kid * (vbuf kid * (cbuf kid * trs (tr d) kid.cs)))) * (trs (tr (d + 1)) (c.cs.take i) * trs (tr (d + 1)) (c.cs.drop (i + 1))))))) = _
    unfold nrow kbuf vbuf cbuf ncells
    rw [hv, h7, show kid.vs.length = 7 by omega]
    ac_rfl
  · rintro v B' H' ⟨H0, ⟨rfl, rfl, Ak', ck', Av', cv', Ac', cc', cc2', Ac2', b3, Ak3, ck3, Av3, cv3, Ac3, cc3, rfl⟩, rfl⟩
    have hL : (kid.cs.take 4).length = min kid.cs.length 4 := by simp; omega
    have hM : (kid.cs.drop 4).length = kid.cs.length - 4 := by simp
    refine ⟨rfl, rfl, .mk c.b Ak' ck' Av' cv' Ac' cc' (c.ks.take i ++ [kid.ks.getD 3 []] ++ c.ks.drop i) (c.vs.take i ++ [kid.vs.getD 3 []] ++ c.vs.drop i) (c.cs.take i ++ [.mk kid.b kid.Ak kid.ck kid.Av kid.cv Ac2' cc2' (kid.ks.take 3) (kid.vs.take 3) (kid.cs.take 4), .mk b3 Ak3 ck3 Av3 cv3 Ac3 cc3 (kid.ks.drop 4) (kid.vs.drop 4) (kid.cs.drop 4)] ++ c.cs.drop (i + 1)), ?_, _, _, rfl, rfl, rfl, rfl, rfl, rfl, rfl, rfl, rfl, rfl, rfl⟩
    have l1 : (c.ks.take i ++ [kid.ks.getD 3 []] ++ c.ks.drop i).length = c.ks.length + 1 := by simp; omega
    have l2 : (c.vs.take i ++ [kid.vs.getD 3 []] ++ c.vs.drop i).length = c.ks.length + 1 := by simp; omega
    have hcut : trs (tr d) kid.cs = trs (tr d) (kid.cs.take 4) * trs (tr d) (kid.cs.drop 4) := by rw [← trs_app, List.take_append_drop]
    have l3 : (c.cs.take i ++ [C.mk kid.b kid.Ak kid.ck kid.Av kid.cv Ac2' cc2' (kid.ks.take 3) (kid.vs.take 3) (kid.cs.take 4), .mk b3 Ak3 ck3 Av3 cv3 Ac3 cc3 (kid.ks.drop 4) (kid.vs.drop 4) (kid.cs.drop 4)] ++ c.cs.drop (i + 1)).length = c.cs.length + 1 := by simp; omega
    have l4 : (c.cs.map pt).take ((i + 1) * 1) ++ [.pointer (some ⟨b3, 0, none⟩)] ++ (c.cs.map pt).drop ((i + 1) * 1) = (c.cs.take i ++ [C.mk kid.b kid.Ak kid.ck kid.Av kid.cv Ac2' cc2' (kid.ks.take 3) (kid.vs.take 3) (kid.cs.take 4), .mk b3 Ak3 ck3 Av3 cv3 Ac3 cc3 (kid.ks.drop 4) (kid.vs.drop 4) (kid.cs.drop 4)] ++ c.cs.drop (i + 1)).map pt := by
      rw [Nat.mul_one, take_succ1 _ (by simpa using hi)]
      simp [hg, pt, C.b]
    rw [l4, hcut]
    show _ = row c.b 113 [.slice Ak' (c.ks.take i ++ [kid.ks.getD 3 []] ++ c.ks.drop i).length ck', .slice Av' (c.vs.take i ++ [kid.vs.getD 3 []] ++ c.vs.drop i).length cv', .slice Ac' (c.cs.take i ++ [C.mk kid.b kid.Ak kid.ck kid.Av kid.cv Ac2' cc2' (kid.ks.take 3) (kid.vs.take 3) (kid.cs.take 4), .mk b3 Ak3 ck3 Av3 cv3 Ac3 cc3 (kid.ks.drop 4) (kid.vs.drop 4) (kid.cs.drop 4)] ++ c.cs.drop (i + 1)).length cc'] *
      (sbuf 9 1 Ak' (c.ks.take i ++ [kid.ks.getD 3 []] ++ c.ks.drop i).length ck' ((c.ks.take i ++ [kid.ks.getD 3 []] ++ c.ks.drop i).map str) * (sbuf 9 1 Av' (c.vs.take i ++ [kid.vs.getD 3 []] ++ c.vs.drop i).length cv' ((c.vs.take i ++ [kid.vs.getD 3 []] ++ c.vs.drop i).map str) *
      (sbuf 110 1 Ac' (c.cs.take i ++ [C.mk kid.b kid.Ak kid.ck kid.Av kid.cv Ac2' cc2' (kid.ks.take 3) (kid.vs.take 3) (kid.cs.take 4), .mk b3 Ak3 ck3 Av3 cv3 Ac3 cc3 (kid.ks.drop 4) (kid.vs.drop 4) (kid.cs.drop 4)] ++ c.cs.drop (i + 1)).length cc' ((c.cs.take i ++ [C.mk kid.b kid.Ak kid.ck kid.Av kid.cv Ac2' cc2' (kid.ks.take 3) (kid.vs.take 3) (kid.cs.take 4), .mk b3 Ak3 ck3 Av3 cv3 Ac3 cc3 (kid.ks.drop 4) (kid.vs.drop 4) (kid.cs.drop 4)] ++ c.cs.drop (i + 1)).map pt) * trs (tr (d + 1)) (c.cs.take i ++ [C.mk kid.b kid.Ak kid.ck kid.Av kid.cv Ac2' cc2' (kid.ks.take 3) (kid.vs.take 3) (kid.cs.take 4), .mk b3 Ak3 ck3 Av3 cv3 Ac3 cc3 (kid.ks.drop 4) (kid.vs.drop 4) (kid.cs.drop 4)] ++ c.cs.drop (i + 1)))))
    rw [l1, l2, l3, trs_app, trs_app]
    show _ = _ * (_ * (_ * (_ * ((trs (tr (d + 1)) (c.cs.take i) * ((row kid.b 113 [.slice kid.Ak (kid.ks.take 3).length kid.ck, .slice kid.Av (kid.vs.take 3).length kid.cv, .slice Ac2' (kid.cs.take 4).length cc2'] * (sbuf 9 1 kid.Ak (kid.ks.take 3).length kid.ck ((kid.ks.take 3).map str) * (sbuf 9 1 kid.Av (kid.vs.take 3).length kid.cv ((kid.vs.take 3).map str) * (sbuf 110 1 Ac2' (kid.cs.take 4).length cc2' ((kid.cs.take 4).map pt) * trs (tr d) (kid.cs.take 4))))) *
      ((row b3 113 [.slice Ak3 (kid.ks.drop 4).length ck3, .slice Av3 (kid.vs.drop 4).length cv3, .slice Ac3 (kid.cs.drop 4).length cc3] * (sbuf 9 1 Ak3 (kid.ks.drop 4).length ck3 ((kid.ks.drop 4).map str) * (sbuf 9 1 Av3 (kid.vs.drop 4).length cv3 ((kid.vs.drop 4).map str) * (sbuf 110 1 Ac3 (kid.cs.drop 4).length cc3 ((kid.cs.drop 4).map pt) * trs (tr d) (kid.cs.drop 4))))) * 1))) * _))))
    rw [hL, hM, show (kid.ks.take 3).length = 3 by simp; omega, show (kid.vs.take 3).length = 3 by simp; omega, show (kid.ks.drop 4).length = 7 - 4 by simp; omega, show (kid.vs.drop 4).length = 7 - 4 by simp; omega, star_comm _ (1 : HP), one_star]
    simp only [List.map_append, List.map_take, List.map_drop, List.map_cons, List.map_nil, Nat.mul_one]
    ac_rfl
end BtE
end Go.Proofs.YtdidpocakipinaaGreatDoor
namespace Go.Proofs.YtdidpocakipinaaGreatDoor
open Go.SL Go.RowKit
set_option maxRecDepth 100000
open Ke1 Ke3 Ke4 Ke5 Ke6 Ke7 Ke8 Ke9 KeA KeB KeC KeD KeE KeF KeG KeI RgA BtB BtC BtD BtE
namespace BtG
def preL (f : C → List (Str8 × Str8)) : List Str8 → List Str8 → List C → List (Str8 × Str8)
  | k :: ks, v :: vs, c :: cs => f c ++ (k, v) :: preL f ks vs cs
  | _, _, _ => []
def posL (f : C → List (Str8 × Str8)) : List Str8 → List Str8 → List C → List (Str8 × Str8)
  | k :: ks, v :: vs, c :: cs => (k, v) :: (f c ++ posL f ks vs cs)
  | _, _, _ => []
theorem io_leaf (f : C → List (Str8 × Str8)) : ∀ (ks vs : List Str8), vs.length = ks.length → ioL f ks vs [] = ks.zip vs := by
  intro ks
  induction ks with
  | nil => intro vs h; cases vs with
    | nil => rfl
    | cons v vs => simp at h
  | cons k ks ih => intro vs h; cases vs with
    | nil => simp at h
    | cons v vs => show (k, v) :: ioL f ks vs [] = (k, v) :: ks.zip vs; rw [ih vs (by simpa using h)]
theorem io_pos (f : C → List (Str8 × Str8)) : ∀ (ks vs : List Str8) (c : C) (cs : List C), vs.length = ks.length → cs.length = ks.length → ioL f ks vs (c :: cs) = f c ++ posL f ks vs cs := by
  intro ks
  induction ks with
  | nil => intro vs c cs h h2; cases vs with
    | nil => show f c = f c ++ []; simp
    | cons v vs => simp at h
  | cons k ks ih => intro vs c cs h h2; cases vs with
    | nil => simp at h
    | cons v vs => cases cs with
      | nil => simp at h2
      | cons c2 cs => show f c ++ (k, v) :: ioL f ks vs (c2 :: cs) = f c ++ ((k, v) :: (f c2 ++ posL f ks vs cs)); rw [ih vs c2 cs (by simpa using h) (by simpa using h2)]
theorem io_split (f : C → List (Str8 × Str8)) : ∀ (i : Nat) (ks vs : List Str8) (cs : List C) (h : i < cs.length), vs.length = ks.length → cs.length = ks.length + 1 → ioL f ks vs cs = preL f (ks.take i) (vs.take i) (cs.take i) ++ (f cs[i] ++ posL f (ks.drop i) (vs.drop i) (cs.drop (i + 1))) := by
  intro i
  induction i with
  | zero =>
    intro ks vs cs h h1 h2
    cases cs with
    | nil => simp at h
    | cons c cs => exact io_pos f ks vs c cs h1 (by simpa using h2)
  | succ i ih =>
    intro ks vs cs h h1 h2
    cases cs with
    | nil => simp at h
    | cons c cs => cases ks with
      | nil => simp at h2; subst h2; simp at h
      | cons k ks => cases vs with
        | nil => simp at h1
        | cons v vs =>
          have h' : i < cs.length := by simpa using h
          show f c ++ (k, v) :: ioL f ks vs cs = (f c ++ (k, v) :: preL f (ks.take i) (vs.take i) (cs.take i)) ++ (f cs[i] ++ posL f (ks.drop i) (vs.drop i) (cs.drop (i + 1)))
          rw [ih ks vs cs h' (by simpa using h1) (by simpa using h2)]
          simp
theorem pre_last (f : C → List (Str8 × Str8)) : ∀ (i : Nat) (ks vs : List Str8) (cs : List C) (h : i < ks.length) (h1 : i < vs.length) (h2 : i < cs.length), preL f (ks.take (i + 1)) (vs.take (i + 1)) (cs.take (i + 1)) = preL f (ks.take i) (vs.take i) (cs.take i) ++ (f cs[i] ++ [(ks[i], vs[i])]) := by
  intro i
  induction i with
  | zero =>
    intro ks vs cs h h1 h2
    cases ks with
    | nil => simp at h
    | cons k ks => cases vs with
      | nil => simp at h1
      | cons v vs => cases cs with
        | nil => simp at h2
        | cons c cs => rfl
  | succ i ih =>
    intro ks vs cs h h1 h2
    cases ks with
    | nil => simp at h
    | cons k ks => cases vs with
      | nil => simp at h1
      | cons v vs => cases cs with
        | nil => simp at h2
        | cons c cs =>
          have e1 : i < ks.length := by simpa using h
          have e2 : i < vs.length := by simpa using h1
          have e3 : i < cs.length := by simpa using h2
          show f c ++ (k, v) :: preL f (ks.take (i + 1)) (vs.take (i + 1)) (cs.take (i + 1)) = (f c ++ (k, v) :: preL f (ks.take i) (vs.take i) (cs.take i)) ++ (f cs[i] ++ [(ks[i], vs[i])])
          rw [ih ks vs cs (by simpa using h) (by simpa using h1) (by simpa using h2)]
          simp
theorem pos_first (f : C → List (Str8 × Str8)) {ks vs : List Str8} {cs : List C} {i : Nat} (h : i < ks.length) (h1 : i < vs.length) (h2 : i + 1 < cs.length) : posL f (ks.drop i) (vs.drop i) (cs.drop (i + 1)) = (ks[i], vs[i]) :: (f cs[i + 1] ++ posL f (ks.drop (i + 1)) (vs.drop (i + 1)) (cs.drop (i + 2))) := by
  rw [List.drop_eq_getElem_cons h, List.drop_eq_getElem_cons h1, List.drop_eq_getElem_cons h2]; rfl
theorem Ord.left {a b : List (Str8 × Str8)} (h : Ord (a ++ b)) : Ord a := (List.pairwise_append.1 h).1
theorem Ord.right {a b : List (Str8 × Str8)} (h : Ord (a ++ b)) : Ord b := (List.pairwise_append.1 h).2.1
theorem Ord.cross {a b : List (Str8 × Str8)} (h : Ord (a ++ b)) : ∀ x ∈ a, ∀ y ∈ b, bless x.1 y.1 = true := (List.pairwise_append.1 h).2.2
end BtG
end Go.Proofs.YtdidpocakipinaaGreatDoor
namespace Go.Proofs.YtdidpocakipinaaGreatDoor
open Go.SL Go.RowKit
set_option maxRecDepth 100000
open Ke1 Ke3 Ke4 Ke5 Ke6 Ke7 Ke8 Ke9 KeA KeB KeC KeD KeE KeF KeG KeI RgA BtB BtC BtD BtE BtG
namespace BtX
theorem ioL_app (f : C → List (Str8 × Str8)) (k v : Str8) (ks2 vs2 : List Str8) (cs2 : List C) : ∀ (ks1 vs1 : List Str8) (cs1 : List C), vs1.length = ks1.length → (cs1 = [] ∧ cs2 = [] ∨ cs1.length = ks1.length + 1) → ioL f (ks1 ++ k :: ks2) (vs1 ++ v :: vs2) (cs1 ++ cs2) = ioL f ks1 vs1 cs1 ++ (k, v) :: ioL f ks2 vs2 cs2 := by
  intro ks1
  induction ks1 with
  | nil =>
    intro vs1 cs1 h h2
    obtain rfl : vs1 = [] := List.length_eq_zero_iff.1 h
    rcases h2 with ⟨rfl, rfl⟩ | h2
    · rfl
    · obtain ⟨c, rfl⟩ := List.length_eq_one_iff.1 h2
      rfl
  | cons a ks1 ih =>
    intro vs1 cs1 h h2
    cases vs1 with
    | nil => simp at h
    | cons b vs1 =>
      have h' : vs1.length = ks1.length := by simpa using h
      rcases h2 with ⟨rfl, rfl⟩ | h2
      · show (a, b) :: ioL f (ks1 ++ k :: ks2) (vs1 ++ v :: vs2) ([] ++ []) = (a, b) :: ioL f ks1 vs1 [] ++ _
        rw [ih vs1 [] h' (.inl ⟨rfl, rfl⟩)]; rfl
      · cases cs1 with
        | nil => simp at h2
        | cons c cs1 =>
          show f c ++ (a, b) :: ioL f (ks1 ++ k :: ks2) (vs1 ++ v :: vs2) (cs1 ++ cs2) = (f c ++ (a, b) :: ioL f ks1 vs1 cs1) ++ _
          rw [ih vs1 cs1 h' (.inr (by simpa using h2))]
          simp
theorem io_one (f : C → List (Str8 × Str8)) (D VD : List Str8) (CD : List C) (m : C) (hd : VD.length = D.length) (hcd : CD.length = D.length) : ∀ (A VA : List Str8) (CA : List C), VA.length = A.length → CA.length = A.length → ioL f (A ++ D) (VA ++ VD) (CA ++ m :: CD) = preL f A VA CA ++ (f m ++ posL f D VD CD) := by
  intro A
  induction A with
  | nil =>
    intro VA CA h h2
    obtain rfl : VA = [] := List.length_eq_zero_iff.1 h
    obtain rfl : CA = [] := List.length_eq_zero_iff.1 h2
    exact io_pos f D VD m CD hd hcd
  | cons a A ih =>
    intro VA CA h h2
    cases VA with
    | nil => simp at h
    | cons b VA => cases CA with
      | nil => simp at h2
      | cons c CA =>
        show f c ++ (a, b) :: ioL f (A ++ D) (VA ++ VD) (CA ++ m :: CD) = (f c ++ (a, b) :: preL f A VA CA) ++ _
        rw [ih VA CA (by simpa using h) (by simpa using h2)]
        simp
theorem io_two (f : C → List (Str8 × Str8)) (A VA D VD : List Str8) (CA CD : List C) (l r : C) (K W : Str8) (ha : VA.length = A.length) (hca : CA.length = A.length) (hd : VD.length = D.length) (hcd : CD.length = D.length) : ioL f (A ++ K :: D) (VA ++ W :: VD) (CA ++ l :: r :: CD) = preL f A VA CA ++ (f l ++ (K, W) :: (f r ++ posL f D VD CD)) := by
  rw [io_one f (K :: D) (W :: VD) (r :: CD) l (by simpa using hd) (by simpa using hcd) A VA CA ha hca]
  rfl
def Mn : Nat → C → Prop
  | 0, _ => False
  | d + 1, c => (c.cs = [] ↔ d = 0) ∧ ∀ p ∈ c.cs, 3 ≤ p.ks.length ∧ Mn d p
def MnX (i : Nat) : Nat → C → Prop
  | 0, _ => False
  | d + 1, c => (c.cs = [] ↔ d = 0) ∧ ∀ j p, c.cs[j]? = some p → (if j = i then 2 else 3) ≤ p.ks.length ∧ Mn d p
theorem MnX.full {i d : Nat} {c : C} (h : MnX i (d + 1) c) (h3 : ∀ p, c.cs[i]? = some p → 3 ≤ p.ks.length) : Mn (d + 1) c := by
  refine ⟨h.1, fun p hp => ?_⟩
  obtain ⟨j, hj⟩ := List.getElem?_of_mem hp
  have h1 := h.2 j p hj
  refine ⟨?_, h1.2⟩
  by_cases e : j = i
  · subst e; exact h3 p hj
  · have := h1.1; rw [if_neg e] at this; exact this
theorem MnX.set {i d : Nat} {c c' kid : C} (h : Mn (d + 1) c) (hi : i < c.cs.length) (e : c'.cs = c.cs.set i kid) (hk : Mn d kid) (h2 : 2 ≤ kid.ks.length) : MnX i (d + 1) c' := by
  refine ⟨?_, fun j p hj => ?_⟩
  · rw [e, List.set_eq_nil_iff]; exact h.1
  · rw [e, List.getElem?_set] at hj
    by_cases ej : i = j
    · subst ej
      rw [if_pos rfl, if_pos hi] at hj
      obtain rfl := Option.some.inj hj
      exact ⟨by rw [if_pos rfl]; exact h2, hk⟩
    · rw [if_neg ej] at hj
      have := h.2 p (List.mem_of_getElem? hj)
      exact ⟨by rw [if_neg (fun z => ej z.symm)]; exact this.1, this.2⟩
def delP (k : Str8) (l : List (Str8 × Str8)) : List (Str8 × Str8) := l.filter (fun p => decide (p.1 ≠ k))
theorem delP_app (k : Str8) (a b : List (Str8 × Str8)) : delP k (a ++ b) = delP k a ++ delP k b := List.filter_append ..
theorem delP_same {k : Str8} {l : List (Str8 × Str8)} (h : ∀ p ∈ l, p.1 ≠ k) : delP k l = l := List.filter_eq_self.2 fun p hp => by simp [h p hp]
theorem delP_ord {k : Str8} {l : List (Str8 × Str8)} (h : Ord l) : Ord (delP k l) := h.sublist List.filter_sublist
theorem left_io {d : Nat} {l k l' k' : C} {K W K' W' : Str8} {LX : List C} (h1 : l.ks = l'.ks ++ [K']) (h2 : l.vs = l'.vs ++ [W']) (h3 : l.cs = l'.cs ++ LX) (g1 : k'.ks = K :: k.ks) (g2 : k'.vs = W :: k.vs) (g3 : k'.cs = LX ++ k.cs) (hv : l'.vs.length = l'.ks.length) (hc : l'.cs = [] ∧ LX = [] ∧ k.cs = [] ∨ l'.cs.length = l'.ks.length + 1 ∧ LX.length = 1) :
    io (d + 1) l ++ (K, W) :: io (d + 1) k = io (d + 1) l' ++ (K', W') :: io (d + 1) k' := by
  show ioL (io d) l.ks l.vs l.cs ++ (K, W) :: ioL (io d) k.ks k.vs k.cs = ioL (io d) l'.ks l'.vs l'.cs ++ (K', W') :: ioL (io d) k'.ks k'.vs k'.cs
  rw [h1, h2, h3, g1, g2, g3]
  have e1 := ioL_app (io d) K' W' [] [] LX l'.ks l'.vs l'.cs hv (by rcases hc with ⟨a, b, _⟩ | ⟨a, _⟩; exact .inl ⟨a, b⟩; exact .inr a)
  have e2 := ioL_app (io d) K W k.ks k.vs k.cs [] [] LX rfl (by rcases hc with ⟨_, a, b⟩ | ⟨_, a⟩; exact .inl ⟨a, b⟩; exact .inr a)
  rw [e1]
  rw [List.nil_append, List.nil_append] at e2
  rw [e2]; simp
theorem join_io {d : Nat} {k r m : C} {K W : Str8} (h1 : m.ks = k.ks ++ K :: r.ks) (h2 : m.vs = k.vs ++ W :: r.vs) (h3 : m.cs = k.cs ++ r.cs) (hv : k.vs.length = k.ks.length) (hc : k.cs = [] ∧ r.cs = [] ∨ k.cs.length = k.ks.length + 1) : io (d + 1) m = io (d + 1) k ++ (K, W) :: io (d + 1) r := by
  show ioL (io d) m.ks m.vs m.cs = ioL (io d) k.ks k.vs k.cs ++ (K, W) :: ioL (io d) r.ks r.vs r.cs
  rw [h1, h2, h3]
  exact ioL_app (io d) K W r.ks r.vs r.cs k.ks k.vs k.cs hv hc
structure Two (c : C) (A VA : List Str8) (CA : List C) (l : C) (K W : Str8) (r : C) (D VD : List Str8) (CD : List C) : Prop where
  ks : c.ks = A ++ K :: D
  vs : c.vs = VA ++ W :: VD
  cs : c.cs = CA ++ l :: r :: CD
  ha : VA.length = A.length
  hca : CA.length = A.length
  hd : VD.length = D.length
  hcd : CD.length = D.length
theorem Two.of {N d : Nat} {c : C} (hok : Ok N (d + 1) c) {i : Nat} (hi : i < c.ks.length) (hv : i < c.vs.length) (hc : i + 1 < c.cs.length) : Two c (c.ks.take i) (c.vs.take i) (c.cs.take i) (c.cs[i]'(by omega)) c.ks[i] c.vs[i] c.cs[i + 1] (c.ks.drop (i + 1)) (c.vs.drop (i + 1)) (c.cs.drop (i + 2)) := by
  have hvl := hok.1
  have hcl : c.cs.length = c.ks.length + 1 := by rcases hok.2.2.1 with z | z; rw [z] at hc; simp at hc; exact z
  refine ⟨?_, ?_, ?_, ?_, ?_, ?_, ?_⟩
  · rw [← List.drop_eq_getElem_cons hi, List.take_append_drop]
  · rw [← List.drop_eq_getElem_cons hv, List.take_append_drop]
  · rw [← List.drop_eq_getElem_cons (i := i + 1) hc, ← List.drop_eq_getElem_cons (i := i) (by omega), List.take_append_drop]
  all_goals simp only [List.length_take, List.length_drop]; omega
theorem Two.ioe {c : C} {A VA : List Str8} {CA : List C} {l : C} {K W : Str8} {r : C} {D VD : List Str8} {CD : List C} (h : Two c A VA CA l K W r D VD CD) (d : Nat) : io (d + 1) c = preL (io d) A VA CA ++ ((io d l ++ (K, W) :: io d r) ++ posL (io d) D VD CD) := by
  show ioL (io d) c.ks c.vs c.cs = _
  rw [h.ks, h.vs, h.cs, io_two (io d) A VA D VD CA CD l r K W h.ha h.hca h.hd h.hcd]; simp
theorem Two.ok {N d : Nat} {c c' : C} {A VA : List Str8} {CA : List C} {l : C} {K W : Str8} {r : C} {D VD : List Str8} {CD : List C} {l' r' : C} {K' W' : Str8} (h : Two c A VA CA l K W r D VD CD) (h' : Two c' A VA CA l' K' W' r' D VD CD) (hok : Ok N (d + 2) c) (hl : Ok1 (d + 1) l') (hr : Ok1 (d + 1) r') : Ok N (d + 2) c' := by
  obtain ⟨h1, h2, _, h4⟩ := hok
  have e1 := h.ks; have e2 := h'.ks; have e3 := h.cs; have e4 := h'.cs; have e5 := h'.vs
  have a1 := h.ha; have a2 := h.hca; have a3 := h.hd; have a4 := h.hcd
  refine ⟨by rw [e5, e2]; simp; omega, by rw [e2]; rw [e1] at h2; simpa using h2, .inr (by rw [e4, e2]; simp; omega), fun p hp => ?_⟩
  rw [e4] at hp
  have g : ∀ q, q ∈ CA ∨ q ∈ CD → Ok1 (d + 1) q := fun q hq => h4 q (by rw [e3]; rcases hq with z | z <;> simp [z])
  simp only [List.mem_append, List.mem_cons] at hp
  rcases hp with z | rfl | rfl | z
  · exact g p (.inl z)
  · exact hl
  · exact hr
  · exact g p (.inr z)
theorem Two.okj {N d : Nat} {c c' : C} {A VA : List Str8} {CA : List C} {l : C} {K W : Str8} {r : C} {D VD : List Str8} {CD : List C} {m : C} (h : Two c A VA CA l K W r D VD CD) (e2 : c'.ks = A ++ D) (e5 : c'.vs = VA ++ VD) (e4 : c'.cs = CA ++ m :: CD) (hok : Ok N (d + 2) c) (hm : Ok1 (d + 1) m) : Ok N (d + 2) c' := by
  obtain ⟨h1, h2, _, h4⟩ := hok
  have e1 := h.ks; have e3 := h.cs
  have a1 := h.ha; have a2 := h.hca; have a3 := h.hd; have a4 := h.hcd
  refine ⟨by rw [e5, e2]; simp; omega, by rw [e2]; rw [e1] at h2; simp at h2 ⊢; omega, .inr (by rw [e4, e2]; simp; omega), fun p hp => ?_⟩
  rw [e4] at hp
  have g : ∀ q, q ∈ CA ∨ q ∈ CD → Ok1 (d + 1) q := fun q hq => h4 q (by rw [e3]; rcases hq with z | z <;> simp [z])
  simp only [List.mem_append, List.mem_cons] at hp
  rcases hp with z | rfl | z
  · exact g p (.inl z)
  · exact hm
  · exact g p (.inr z)
def Good (d : Nat) (m : C) : Prop := m.vs.length = m.ks.length ∧ m.ks.length ≤ 7 ∧ (d = 0 ∧ m.cs = [] ∨ d ≠ 0 ∧ m.cs.length = m.ks.length + 1) ∧ ∀ p ∈ m.cs, Ok1 d p ∧ 3 ≤ p.ks.length ∧ Mn d p
theorem Good.of {d : Nat} {m : C} (h : Ok1 (d + 1) m) (h2 : Mn (d + 1) m) : Good d m := by
  refine ⟨h.1, h.2.1, ?_, fun p hp => ⟨h.2.2.2 p hp, h2.2 p hp⟩⟩
  by_cases e : d = 0
  · exact .inl ⟨e, h2.1.2 e⟩
  · rcases h.2.2.1 with z | z
    · exact absurd (h2.1.1 z) e
    · exact .inr ⟨e, z⟩
theorem Good.ok {d : Nat} {m : C} (h : Good d m) : Ok1 (d + 1) m := ⟨h.1, h.2.1, by rcases h.2.2.1 with ⟨_, z⟩ | ⟨_, z⟩; exact .inl z; exact .inr z, fun p hp => (h.2.2.2 p hp).1⟩
theorem Good.mn {d : Nat} {m : C} (h : Good d m) : Mn (d + 1) m := by
  refine ⟨?_, fun p hp => (h.2.2.2 p hp).2⟩
  rcases h.2.2.1 with ⟨e, z⟩ | ⟨e, z⟩
  · exact ⟨fun _ => e, fun _ => z⟩
  · exact ⟨fun w => by rw [w] at z; simp at z, fun w => absurd w e⟩
def Mended (N d : Nat) (c c' : C) : Prop := c'.b = c.b ∧ Ok N (d + 2) c' ∧ Mn (d + 2) c' ∧ io (d + 2) c' = io (d + 2) c ∧ c.ks.length ≤ c'.ks.length + 1 ∧ c'.ks.length ≤ c.ks.length
theorem MnX.side {i d : Nat} {c : C} {A VA : List Str8} {CA : List C} {l : C} {K W : Str8} {r : C} {D VD : List Str8} {CD : List C} (h : MnX i (d + 2) c) (ht : Two c A VA CA l K W r D VD CD) (hi : i = A.length ∨ i = A.length + 1) : ∀ q, q ∈ CA ∨ q ∈ CD → 3 ≤ q.ks.length ∧ Mn (d + 1) q := by
  intro q hq
  have e := ht.cs; have ea := ht.hca
  rcases hq with hq | hq
  · obtain ⟨j, hj, rfl⟩ := List.getElem_of_mem hq
    have h1 := h.2 j CA[j] (by rw [e, List.getElem?_append_left hj, List.getElem?_eq_getElem hj])
    rw [if_neg (by omega)] at h1; exact h1
  · obtain ⟨j, hj, rfl⟩ := List.getElem_of_mem hq
    have h1 := h.2 (CA.length + (j + 2)) CD[j] (by rw [e, List.getElem?_append_right (by omega), Nat.add_sub_cancel_left]; show CD[j]? = _; rw [List.getElem?_eq_getElem hj])
    rw [if_neg (by omega)] at h1; exact h1
theorem Two.mend {N i d : Nat} {c c' : C} {A VA : List Str8} {CA : List C} {l : C} {K W : Str8} {r : C} {D VD : List Str8} {CD : List C} {l' r' : C} {K' W' : Str8} (h : Two c A VA CA l K W r D VD CD) (h' : Two c' A VA CA l' K' W' r' D VD CD) (hb : c'.b = c.b) (hok : Ok N (d + 2) c) (hx : MnX i (d + 2) c) (hi : i = A.length ∨ i = A.length + 1) (hl : Good d l') (hr : Good d r') (hl3 : 3 ≤ l'.ks.length) (hr3 : 3 ≤ r'.ks.length) (hio : io (d + 1) l ++ (K, W) :: io (d + 1) r = io (d + 1) l' ++ (K', W') :: io (d + 1) r') : Mended N d c c' := by
  have hs := hx.side h hi
  have e1 := h.ks; have e2 := h'.ks; have e4 := h'.cs
  refine ⟨hb, h.ok h' hok hl.ok hr.ok, ⟨⟨fun z => by rw [e4] at z; simp at z, fun z => by simp at z⟩, fun p hp => ?_⟩, ?_, by rw [e1, e2]; simp, by rw [e1, e2]; simp⟩
  · rw [e4] at hp
    simp only [List.mem_append, List.mem_cons] at hp
    rcases hp with z | rfl | rfl | z
    · exact hs p (.inl z)
    · exact ⟨hl3, hl.mn⟩
    · exact ⟨hr3, hr.mn⟩
    · exact hs p (.inr z)
  · rw [h'.ioe, h.ioe, hio]
theorem Two.joined {N i d : Nat} {c c' : C} {A VA : List Str8} {CA : List C} {l : C} {K W : Str8} {r : C} {D VD : List Str8} {CD : List C} {m : C} (h : Two c A VA CA l K W r D VD CD) (e2 : c'.ks = A ++ D) (e5 : c'.vs = VA ++ VD) (e4 : c'.cs = CA ++ m :: CD) (hb : c'.b = c.b) (hok : Ok N (d + 2) c) (hx : MnX i (d + 2) c) (hi : i = A.length ∨ i = A.length + 1) (hm : Good d m) (hm3 : 3 ≤ m.ks.length) (hio : io (d + 1) m = io (d + 1) l ++ (K, W) :: io (d + 1) r) : Mended N d c c' := by
  have hs := hx.side h hi
  have e1 := h.ks
  refine ⟨hb, h.okj e2 e5 e4 hok hm.ok, ⟨⟨fun z => by rw [e4] at z; simp at z, fun z => by simp at z⟩, fun p hp => ?_⟩, ?_, by rw [e1, e2]; simp; omega, by rw [e1, e2]; simp⟩
  · rw [e4] at hp
    simp only [List.mem_append, List.mem_cons] at hp
    rcases hp with z | rfl | z
    · exact hs p (.inl z)
    · exact ⟨hm3, hm.mn⟩
    · exact hs p (.inr z)
  · rw [h.ioe]
    show ioL (io (d + 1)) c'.ks c'.vs c'.cs = _
    rw [e2, e5, e4, io_one (io (d + 1)) D VD CD m h.hd h.hcd A VA CA h.ha h.hca, hio]
theorem last_cut (l : List Str8) (h : 0 < l.length) : l = l.take (l.length - 1) ++ [l.getD (l.length - 1) []] := by
  have e : l.getD (l.length - 1) [] = l[l.length - 1]'(by omega) := by simp [List.getD, show l.length - 1 < l.length by omega]
  rw [e]
  conv => lhs; rw [← List.take_append_drop (l.length - 1) l, List.drop_eq_getElem_cons (show l.length - 1 < l.length by omega), List.drop_of_length_le (by omega)]
theorem first_cut (l : List Str8) (h : 0 < l.length) : l = l.getD 0 [] :: l.drop 1 := by
  cases l with
  | nil => simp at h
  | cons a l => rfl
theorem left_mend {N d : Nat} {c c' : C} {A VA : List Str8} {CA : List C} {l : C} {K W : Str8} {k : C} {D VD : List Str8} {CD : List C} {l' k' : C} (h : Two c A VA CA l K W k D VD CD) (h' : Two c' A VA CA l' (l.ks.getD (l.ks.length - 1) []) (l.vs.getD (l.ks.length - 1) []) k' D VD CD) (hb : c'.b = c.b) (hok : Ok N (d + 2) c) (hx : MnX (A.length + 1) (d + 2) c) (hl : Good d l) (hk : Good d k) (h4 : 4 ≤ l.ks.length) (h2 : 2 ≤ k.ks.length) (h3 : k.ks.length < 3)
    (l1 : l'.ks = l.ks.take (l.ks.length - 1)) (l2 : l'.vs = l.vs.take (l.ks.length - 1)) (l3 : l'.cs = l.cs.take l.ks.length) (k1 : k'.ks = K :: k.ks) (k2 : k'.vs = W :: k.vs) (k3 : k'.cs = l.cs.drop l.ks.length ++ k.cs) : Mended N d c c' := by
  obtain ⟨p1, p2, p3, p4⟩ := hl
  obtain ⟨q1, q2, q3, q4⟩ := hk
  have c1 : (l.ks.take (l.ks.length - 1)).length = l.ks.length - 1 := by simp
  have c2 : (l.vs.take (l.ks.length - 1)).length = l.ks.length - 1 := by simp; omega
  have c3 : (l.cs.take l.ks.length).length = min l.ks.length l.cs.length := by simp
  have c4 : (l.cs.drop l.ks.length).length = l.cs.length - l.ks.length := by simp
  refine h.mend h' hb hok hx (.inr rfl) ⟨by rw [l1, l2]; omega, by rw [l1]; omega, ?_, fun p hp => p4 p (by rw [l3] at hp; exact List.mem_of_mem_take hp)⟩ ⟨by rw [k1, k2]; simp; omega, by rw [k1]; simp; omega, ?_, fun p hp => ?_⟩ (by rw [l1]; omega) (by rw [k1]; simp; omega) (left_io (LX := l.cs.drop l.ks.length) ?_ ?_ ?_ k1 k2 k3 (by rw [l1, l2]; omega) ?_)
  · rcases p3 with ⟨e, z⟩ | ⟨e, z⟩
    · exact .inl ⟨e, by rw [l3, z, List.take_nil]⟩
    · exact .inr ⟨e, by rw [l3, l1]; omega⟩
  · rcases p3 with ⟨e, z⟩ | ⟨e, z⟩
    · rcases q3 with ⟨_, y⟩ | ⟨e2, _⟩
      · exact .inl ⟨e, by rw [k3, z, y]; simp⟩
      · exact absurd e e2
    · rcases q3 with ⟨e2, _⟩ | ⟨_, y⟩
      · exact absurd e2 e
      · exact .inr ⟨e, by rw [k3, k1, List.length_append, c4]; simp; omega⟩
  · rw [k3] at hp
    rcases List.mem_append.1 hp with z | z
    · exact p4 p (List.mem_of_mem_drop z)
    · exact q4 p z
  · rw [l1]; exact last_cut _ (by omega)
  · rw [l2, ← p1]; exact last_cut _ (by omega)
  · rw [l3, List.take_append_drop]
  · rcases p3 with ⟨e, z⟩ | ⟨e, z⟩
    · rcases q3 with ⟨_, y⟩ | ⟨e2, _⟩
      · exact .inl ⟨by rw [l3, z, List.take_nil], by rw [z, List.drop_nil], y⟩
      · exact absurd e e2
    · exact .inr ⟨by rw [l3, l1]; omega, by omega⟩
theorem right_mend {N d : Nat} {c c' : C} {A VA : List Str8} {CA : List C} {k : C} {K W : Str8} {r : C} {D VD : List Str8} {CD : List C} {k' r' : C} (h : Two c A VA CA k K W r D VD CD) (h' : Two c' A VA CA k' (r.ks.getD 0 []) (r.vs.getD 0 []) r' D VD CD) (hb : c'.b = c.b) (hok : Ok N (d + 2) c) (hx : MnX A.length (d + 2) c) (hk : Good d k) (hr : Good d r) (h4 : 4 ≤ r.ks.length) (h2 : 2 ≤ k.ks.length) (h3 : k.ks.length < 3)
    (r1 : r'.ks = r.ks.drop 1) (r2 : r'.vs = r.vs.drop 1) (r3 : r'.cs = r.cs.drop 1) (k1 : k'.ks = k.ks ++ [K]) (k2 : k'.vs = k.vs ++ [W]) (k3 : k'.cs = k.cs ++ r.cs.take 1) : Mended N d c c' := by
  obtain ⟨p1, p2, p3, p4⟩ := hr
  obtain ⟨q1, q2, q3, q4⟩ := hk
  refine h.mend h' hb hok hx (.inl rfl) ⟨by rw [k1, k2]; simp; omega, by rw [k1]; simp; omega, ?_, fun p hp => ?_⟩ ⟨by rw [r1, r2]; simp; omega, by rw [r1]; simp; omega, ?_, fun p hp => p4 p (by rw [r3] at hp; exact List.mem_of_mem_drop hp)⟩ (by rw [k1]; simp; omega) (by rw [r1]; simp; omega) (Eq.symm (left_io (LX := r.cs.take 1) k1 k2 k3 (g1 := ?_) (g2 := ?_) (g3 := ?_) (by omega) ?_))
  · rcases q3 with ⟨e, z⟩ | ⟨e, z⟩
    · rcases p3 with ⟨_, y⟩ | ⟨e2, _⟩
      · exact .inl ⟨e, by rw [k3, z, y]; rfl⟩
      · exact absurd e e2
    · rcases p3 with ⟨e2, _⟩ | ⟨_, y⟩
      · exact absurd e2 e
      · exact .inr ⟨e, by rw [k3, k1]; simp; omega⟩
  · rw [k3] at hp
    rcases List.mem_append.1 hp with z | z
    · exact q4 p z
    · exact p4 p (List.mem_of_mem_take z)
  · rcases p3 with ⟨e, z⟩ | ⟨e, z⟩
    · exact .inl ⟨e, by rw [r3, z]; rfl⟩
    · exact .inr ⟨e, by rw [r3, r1]; simp; omega⟩
  · rw [r1]; exact first_cut _ (by omega)
  · rw [r2]; exact first_cut _ (by omega)
  · rw [r3, List.take_append_drop]
  · rcases q3 with ⟨e, z⟩ | ⟨e, z⟩
    · rcases p3 with ⟨_, y⟩ | ⟨e2, _⟩
      · exact .inl ⟨z, by rw [y]; rfl, by rw [r3, y]; rfl⟩
      · exact absurd e e2
    · rcases p3 with ⟨e2, _⟩ | ⟨_, y⟩
      · exact absurd e2 e
      · exact .inr ⟨z, by simp; omega⟩
theorem join_mend {N i d : Nat} {c c' : C} {A VA : List Str8} {CA : List C} {k : C} {K W : Str8} {r : C} {D VD : List Str8} {CD : List C} {m : C} (h : Two c A VA CA k K W r D VD CD) (e2 : c'.ks = A ++ D) (e5 : c'.vs = VA ++ VD) (e4 : c'.cs = CA ++ m :: CD) (hb : c'.b = c.b) (hok : Ok N (d + 2) c) (hx : MnX i (d + 2) c) (hi : i = A.length ∨ i = A.length + 1) (hk : Good d k) (hr : Good d r) (h2 : 2 ≤ k.ks.length + r.ks.length) (h6 : k.ks.length + r.ks.length ≤ 6)
    (m1 : m.ks = k.ks ++ K :: r.ks) (m2 : m.vs = k.vs ++ W :: r.vs) (m3 : m.cs = k.cs ++ r.cs) : Mended N d c c' := by
  obtain ⟨p1, p2, p3, p4⟩ := hr
  obtain ⟨q1, q2, q3, q4⟩ := hk
  refine h.joined e2 e5 e4 hb hok hx hi ⟨by rw [m1, m2]; simp; omega, by rw [m1]; simp; omega, ?_, fun p hp => ?_⟩ (by rw [m1]; simp; omega) (join_io m1 m2 m3 q1 ?_)
  · rcases q3 with ⟨e, z⟩ | ⟨e, z⟩
    · rcases p3 with ⟨_, y⟩ | ⟨e2, _⟩
      · exact .inl ⟨e, by rw [m3, z, y]; rfl⟩
      · exact absurd e e2
    · rcases p3 with ⟨e2, _⟩ | ⟨_, y⟩
      · exact absurd e2 e
      · exact .inr ⟨e, by rw [m3, m1]; simp; omega⟩
  · rw [m3] at hp
    rcases List.mem_append.1 hp with z | z
    · exact q4 p z
    · exact p4 p z
  · rcases q3 with ⟨e, z⟩ | ⟨e, z⟩
    · rcases p3 with ⟨_, y⟩ | ⟨e2, _⟩
      · exact .inl ⟨z, y⟩
      · exact absurd e e2
    · exact .inr z
end BtX
end Go.Proofs.YtdidpocakipinaaGreatDoor
namespace Go.Proofs.YtdidpocakipinaaGreatDoor
open Go.SL Go.RowKit
set_option maxRecDepth 100000
open Ke1 Ke3 Ke4 Ke5 Ke6 Ke7 Ke8 Ke9 KeA KeB KeC KeD KeE KeF KeG KeI RgA BtB BtC BtD BtE BtG BtX
namespace BtH
theorem keys_sub (f : C → List (Str8 × Str8)) : ∀ (ks vs : List Str8) (cs : List C), vs.length = ks.length → ks.Sublist ((ioL f ks vs cs).map (·.1)) := by
  intro ks
  induction ks with
  | nil => intro vs cs _; exact List.nil_sublist _
  | cons k ks ih =>
    intro vs cs h
    cases vs with
    | nil => simp at h
    | cons v vs =>
      have h' : vs.length = ks.length := by simpa using h
      cases cs with
      | nil => exact (ih vs [] h').cons_cons k
      | cons c cs =>
        show (k :: ks).Sublist ((f c ++ (k, v) :: ioL f ks vs cs).map (·.1))
        rw [List.map_append]
        exact ((ih vs cs h').cons_cons k).trans (List.sublist_append_right _ _)
theorem srt_of {N d : Nat} {c : C} (hok : Ok N (d + 1) c) (ho : Ord (io (d + 1) c)) : Srt c.ks := by
  have h1 := keys_sub (io d) c.ks c.vs c.cs hok.1
  have h2 : ((ioL (io d) c.ks c.vs c.cs).map (·.1)).Pairwise (fun a b => bless a b = true) := List.pairwise_map.2 ho
  exact h2.sublist h1
theorem around {N d : Nat} {c : C} {k : Str8} (hok : Ok N (d + 1) c) (ho : Ord (io (d + 1) c)) (hk : k ∉ c.ks) (hi : lb c.ks k < c.cs.length) (hc : c.cs.length = c.ks.length + 1) :
    let P := preL (io d) (c.ks.take (lb c.ks k)) (c.vs.take (lb c.ks k)) (c.cs.take (lb c.ks k))
    let Q := posL (io d) (c.ks.drop (lb c.ks k)) (c.vs.drop (lb c.ks k)) (c.cs.drop (lb c.ks k + 1))
    io (d + 1) c = P ++ (io d c.cs[lb c.ks k] ++ Q) ∧ (∀ p ∈ P, bless p.1 k = true) ∧ (∀ q ∈ Q, bless k q.1 = true) := by
  intro P Q
  have hs := srt_of hok ho
  have hv := hok.1
  obtain ⟨g1, g2⟩ := lb_spec (t := k) hs
  have e : io (d + 1) c = P ++ (io d c.cs[lb c.ks k] ++ Q) := io_split (io d) _ c.ks c.vs c.cs hi hv hc
  rw [e] at ho
  refine ⟨e, ?_, ?_⟩
  · have hoP := Ord.left ho
    intro p hp
    cases hl : lb c.ks k with
    | zero =>
      have : P = [] := by show preL _ (c.ks.take (lb c.ks k)) _ _ = []; rw [hl]; rfl
      rw [this] at hp; cases hp
    | succ i =>
      have hik : i < c.ks.length := by omega
      have eP : P = preL (io d) (c.ks.take i) (c.vs.take i) (c.cs.take i) ++ (io d (c.cs[i]'(by omega)) ++ [(c.ks[i], c.vs[i]'(by omega))]) := by
        show preL _ (c.ks.take (lb c.ks k)) (c.vs.take (lb c.ks k)) (c.cs.take (lb c.ks k)) = _
        rw [hl]; exact pre_last (io d) i c.ks c.vs c.cs hik (by omega) (by omega)
      have hki := g1 i hik (by omega)
      rw [eP, ← List.append_assoc] at hp hoP
      rcases List.mem_append.1 hp with hp | hp
      · exact bless_trans (Ord.cross hoP p hp (c.ks[i], c.vs[i]'(by omega)) (by simp)) hki
      · have : p = (c.ks[i], c.vs[i]'(by omega)) := by simpa using hp
        rw [this]; exact hki
  · have hoQ := Ord.right (Ord.right ho)
    intro q hq
    by_cases hl : lb c.ks k < c.ks.length
    · have eQ : Q = (c.ks[lb c.ks k], c.vs[lb c.ks k]'(by omega)) :: _ := pos_first (io d) hl (by omega) (by omega)
      have hkl : bless k c.ks[lb c.ks k] = true := by
        cases hb : bless k c.ks[lb c.ks k] with
        | true => rfl
        | false => exact absurd (by rw [← bless_total (g2 hl) hb]; exact List.getElem_mem hl) hk
      rw [eQ] at hq hoQ
      rcases List.mem_cons.1 hq with rfl | hq
      · exact hkl
      · exact bless_trans hkl ((List.pairwise_cons.1 hoQ).1 q hq)
    · have : Q = [] := by show posL _ (c.ks.drop (lb c.ks k)) _ _ = []; rw [List.drop_of_length_le (by omega)]; cases c.vs.drop (lb c.ks k) <;> rfl
      rw [this] at hq; cases hq
def PutR (N d : Nat) (c : C) (k v : Str8) (c' : C) (r : Value) : Prop := Ok N (d + 1) c' ∧ io (d + 1) c' = insP k v (io (d + 1) c) ∧ r = .bool (!decide (k ∈ (io (d + 1) c).map (·.1))) ∧ (Mn (d + 1) c → Mn (d + 1) c') ∧ c.ks.length ≤ c'.ks.length
theorem put_deep {N d : Nat} {c kid2 : C} {k v : Str8} {r : Value} (hok : Ok N (d + 2) c) (ho : Ord (io (d + 2) c)) (hk : k ∉ c.ks) (hi : lb c.ks k < c.cs.length) (hc : c.cs.length = c.ks.length + 1) (hkr : PutR 7 d c.cs[lb c.ks k] k v kid2 r) :
    PutR N (d + 1) c k v (.mk c.b c.Ak c.ck c.Av c.cv c.Ac c.cc c.ks c.vs (c.cs.set (lb c.ks k) kid2)) r := by
  obtain ⟨e, hP, hQ⟩ := around hok ho hk hi hc
  obtain ⟨k1, k2, k3, k4, k5⟩ := hkr
  refine ⟨⟨hok.1, hok.2.1, .inr (by show (c.cs.set _ _).length = _; rw [List.length_set]; exact hc), fun p hp => ?_⟩, ?_, ?_, fun hm => ?_, Nat.le_refl _⟩
  · rcases List.mem_or_eq_of_mem_set hp with h | rfl
    · exact hok.2.2.2 p h
    · exact k1
  · have e2 := io_split (io (d + 1)) (lb c.ks k) c.ks c.vs (c.cs.set (lb c.ks k) kid2) (by rw [List.length_set]; exact hi) hok.1 (by rw [List.length_set]; exact hc)
    show ioL (io (d + 1)) c.ks c.vs (c.cs.set (lb c.ks k) kid2) = _
    rw [e2, e, insP_below hP, insP_above hQ, List.getElem_set_self, k2, List.take_set_of_le (by omega), List.drop_set_of_lt (by omega)]
  · rw [k3, e]
    congr 2
    refine decide_eq_decide.2 ⟨fun h => ?_, fun h => ?_⟩
    · rw [List.map_append, List.map_append]; simp [h]
    · rw [List.map_append, List.map_append] at h
      simp only [List.mem_append] at h
      rcases h with h | h | h
      · obtain ⟨p, hp, rfl⟩ := List.mem_map.1 h
        have := hP p hp; rw [bless_irrefl] at this; cases this
      · exact h
      · obtain ⟨p, hp, rfl⟩ := List.mem_map.1 h
        have := hQ p hp; rw [bless_irrefl] at this; cases this
  · refine ⟨?_, fun p hp => ?_⟩
    · show c.cs.set _ _ = [] ↔ _
      rw [List.set_eq_nil_iff]; exact hm.1
    · rcases List.mem_or_eq_of_mem_set hp with h | rfl
      · exact hm.2 p h
      · have h9 := hm.2 _ (List.getElem_mem hi)
        exact ⟨by have := h9.1; omega, k4 h9.2⟩
end BtH
end Go.Proofs.YtdidpocakipinaaGreatDoor
namespace Go.Proofs.YtdidpocakipinaaGreatDoor
open Go.SL Go.RowKit
set_option maxRecDepth 100000
open Ke1 Ke3 Ke4 Ke5 Ke6 Ke7 Ke8 Ke9 KeA KeB KeC KeD KeE KeF KeG KeI RgA BtB BtC BtD BtE BtG BtH BtX
namespace BtI
theorem zip_below {ks vs : List Str8} {k : Str8} (hs : Srt ks) : ∀ p ∈ (ks.take (lb ks k)).zip (vs.take (lb ks k)), bless p.1 k = true := by
  intro p hp
  have h1 : p.1 ∈ ks.take (lb ks k) := (List.of_mem_zip (show (p.1, p.2) ∈ _ from hp)).1
  obtain ⟨j, hj, e⟩ := List.getElem_of_mem h1
  rw [List.length_take] at hj
  rw [← e, List.getElem_take]
  exact (lb_spec hs).1 j (by omega) (by omega)
theorem above_lb {ks : List Str8} {k : Str8} (hs : Srt ks) (hk : k ∉ ks) : ∀ x ∈ ks.drop (lb ks k), bless k x = true := by
  intro x hx
  obtain ⟨j, hj, e⟩ := List.getElem_of_mem hx
  rw [List.length_drop] at hj
  rw [List.getElem_drop] at e
  have hl : lb ks k < ks.length := by omega
  have h0 := (lb_spec hs).2 hl
  have hkl : bless k ks[lb ks k] = true := by
    cases hb : bless k ks[lb ks k] with
    | true => rfl
    | false => exact absurd (by rw [← bless_total h0 hb]; exact List.getElem_mem hl) hk
  rw [← e]
  cases j with
  | zero => exact hkl
  | succ j => exact bless_trans hkl (hs.lt (by omega) (by omega))
theorem zip_above {ks vs : List Str8} {k : Str8} (hs : Srt ks) (hk : k ∉ ks) : ∀ p ∈ (ks.drop (lb ks k)).zip (vs.drop (lb ks k)), bless k p.1 = true := fun p hp =>
  above_lb hs hk p.1 (List.of_mem_zip (show (p.1, p.2) ∈ _ from hp)).1
theorem zip_cut {ks vs : List Str8} (i : Nat) (h : vs.length = ks.length) : ks.zip vs = (ks.take i).zip (vs.take i) ++ (ks.drop i).zip (vs.drop i) := by
  rw [← List.zip_append (by simp [h]), List.take_append_drop, List.take_append_drop]
theorem zip_keys {ks vs : List Str8} (h : vs.length = ks.length) : (ks.zip vs).map (·.1) = ks := List.map_fst_zip (by omega)
theorem put_leaf {N d b ck cv cc ck2 cv2 : Nat} {Ak Av Ac Ak2 Av2 : Option Addr} {ks vs : List Str8} {k v : Str8} (hok : Ok N (d + 1) (.mk b Ak ck Av cv Ac cc ks vs [])) (hs : Srt ks) (hk : k ∉ ks) (h7 : ks.length < N) :
    PutR N d (.mk b Ak ck Av cv Ac cc ks vs []) k v (.mk b Ak2 ck2 Av2 cv2 Ac cc (ks.take (lb ks k) ++ [k] ++ ks.drop (lb ks k)) (vs.take (lb ks k) ++ [v] ++ vs.drop (lb ks k)) []) (.bool true) := by
  have hv : vs.length = ks.length := hok.1
  have e0 : io (d + 1) (.mk b Ak ck Av cv Ac cc ks vs []) = ks.zip vs := io_leaf (io d) ks vs hv
  refine ⟨⟨?_, ?_, .inl rfl, fun p hp => by cases hp⟩, ?_, ?_, fun hm => ⟨⟨fun _ => hm.1.1 rfl, fun _ => rfl⟩, fun p hp => by cases hp⟩, by show ks.length ≤ (ks.take _ ++ [k] ++ ks.drop _).length; simp; omega⟩
  · show (vs.take _ ++ [v] ++ vs.drop _).length = (ks.take _ ++ [k] ++ ks.drop _).length
    simp; omega
  · show (ks.take _ ++ [k] ++ ks.drop _).length ≤ N
    simp; omega
  · have hv2 : (vs.take (lb ks k) ++ [v] ++ vs.drop (lb ks k)).length = (ks.take (lb ks k) ++ [k] ++ ks.drop (lb ks k)).length := by simp; omega
    have e1 : io (d + 1) (.mk b Ak2 ck2 Av2 cv2 Ac cc (ks.take (lb ks k) ++ [k] ++ ks.drop (lb ks k)) (vs.take (lb ks k) ++ [v] ++ vs.drop (lb ks k)) []) = (ks.take (lb ks k) ++ [k] ++ ks.drop (lb ks k)).zip (vs.take (lb ks k) ++ [v] ++ vs.drop (lb ks k)) := io_leaf (io d) _ _ hv2
    rw [e0, e1, zip_cut (lb ks k) hv, insP_below (zip_below hs)]
    have e2 : insP k v ((ks.drop (lb ks k)).zip (vs.drop (lb ks k))) = (k, v) :: (ks.drop (lb ks k)).zip (vs.drop (lb ks k)) := insP_above (a := []) (zip_above hs hk)
    rw [e2, List.append_assoc, List.append_assoc, List.zip_append (by simp [hv])]
    rfl
  · rw [e0, zip_keys hv, decide_eq_false hk]; rfl
theorem put_found {N d b ck cv cc : Nat} {Ak Av Ac : Option Addr} {ks vs : List Str8} {cs : List C} {k v : Str8} (hok : Ok N (d + 1) (.mk b Ak ck Av cv Ac cc ks vs cs)) (ho : Ord (io (d + 1) (.mk b Ak ck Av cv Ac cc ks vs cs))) (hs : Srt ks) (hk : k ∈ ks) (hl : lb ks k < ks.length) (hat : ks[lb ks k] = k) :
    PutR N d (.mk b Ak ck Av cv Ac cc ks vs cs) k v (.mk b Ak ck Av cv Ac cc ks (vs.set (lb ks k) v) cs) (.bool false) := by
  have hv : vs.length = ks.length := hok.1
  have hcs : cs = [] ∨ cs.length = ks.length + 1 := hok.2.2.1
  have hv3 : ∀ v, (vs.set (lb ks k) v).length = ks.length := fun v => by rw [List.length_set]; exact hv
  refine ⟨⟨by show (vs.set _ _).length = _; rw [List.length_set]; exact hv, hok.2.1, hok.2.2.1, hok.2.2.2⟩, ?_, ?_, fun hm => hm, Nat.le_refl _⟩
  · rcases hcs with rfl | hc
    · have e0 : io (d + 1) (.mk b Ak ck Av cv Ac cc ks vs []) = ks.zip vs := io_leaf (io d) ks vs hv
      have e1 : io (d + 1) (.mk b Ak ck Av cv Ac cc ks (vs.set (lb ks k) v) []) = ks.zip (vs.set (lb ks k) v) := io_leaf (io d) ks (vs.set (lb ks k) v) (hv3 v)
      rw [e0, e1, zip_cut (lb ks k) hv, zip_cut (lb ks k) (by rw [List.length_set]; exact hv), insP_below (zip_below hs), List.take_set_of_le (by omega), List.drop_eq_getElem_cons hl, List.drop_eq_getElem_cons (l := vs) (by omega), List.drop_eq_getElem_cons (l := vs.set _ _) (by rw [List.length_set]; omega), List.getElem_set_self, List.drop_set_of_lt (by omega)]
      simp only [List.zip_cons_cons, hat]
      rw [insP_at]
    · have hlv : lb ks k < vs.length := by omega
      have e0 := io_split (io d) (lb ks k) ks vs cs (by omega) hv hc
      have e1 := io_split (io d) (lb ks k) ks (vs.set (lb ks k) v) cs (by omega) (by rw [List.length_set]; exact hv) hc
      rw [pos_first (io d) hl hlv (by omega)] at e0
      rw [pos_first (io d) hl (by rw [List.length_set]; omega) (by omega), List.take_set_of_le (by omega), List.drop_set_of_lt (by omega), List.getElem_set_self] at e1
      have ho' : Ord (ioL (io d) ks vs cs) := ho
      rw [e0, ← List.append_assoc] at ho'
      show ioL (io d) ks (vs.set (lb ks k) v) cs = insP k v (ioL (io d) ks vs cs)
      rw [e0, e1, ← List.append_assoc, ← List.append_assoc, hat, insP_below (fun p hp => by have := Ord.cross ho' p hp (ks[lb ks k], vs[lb ks k]) (by simp); rw [hat] at this; exact this), insP_at]
  · have h1 := (keys_sub (io d) ks vs cs hv).subset hk
    have h2 : k ∈ (io (d + 1) (.mk b Ak ck Av cv Ac cc ks vs cs)).map (·.1) := h1
    rw [decide_eq_true h2]; rfl
end BtI
end Go.Proofs.YtdidpocakipinaaGreatDoor
namespace Go.Proofs.YtdidpocakipinaaGreatDoor
open Go.SL Go.RowKit
set_option maxRecDepth 100000
open Ke1 Ke3 Ke4 Ke5 Ke6 Ke7 Ke8 Ke9 KeA KeB KeC KeD KeE KeF KeG KeI RgA BtB BtC BtD BtE BtG BtH BtI BtX
namespace BtF
theorem sz9 : (Tryz.prog.info? 9).map (·.size) = some 1 := by kernel_rfl
theorem sz23 : (Tryz.prog.info? 23).map (·.size) = some 1 := by kernel_rfl
theorem sz110 : (Tryz.prog.info? 110).map (·.size) = some 1 := by kernel_rfl
theorem ti9 : TI Tryz.prog 9 [str []] 1 16 := TI.of (by kernel_rfl) rfl rfl
theorem fo113_0 : FO Tryz.prog 113 0 0 1 false := FO.of U113 rfl rfl (by kernel_rfl) U23 rfl rfl
theorem fo113_1 : FO Tryz.prog 113 1 1 1 false := FO.of U113 rfl rfl (by kernel_rfl) U23 rfl rfl
theorem fo113_2 : FO Tryz.prog 113 2 2 1 false := FO.of U113 rfl rfl (by kernel_rfl) U111 rfl rfl
def PutQ (N d : Nat) (c : C) (k v : Str8) (B : Frag) (r : Value) (B' : Frag) (H' : HP) : Prop := B' = B ∧ ∃ c', H' = tr (d + 1) c' ∧ c'.b = c.b ∧ PutR N d c k v c' r
abbrev PutC (N d : Nat) (c : C) (k v : Str8) (B : Frag) : Prop := Ct Tryz.prog 63 [.pointer (some ⟨c.b, 0, none⟩), str k, str v] B (tr (d + 1) c) (PutQ N d c k v B)
theorem set_str {vs : List Str8} {sp : List Value} {i : Nat} {v : Str8} (h : i < vs.length) : (vs.map str ++ sp).set (0 + i * 1) (str v) = (vs.set i v).map str ++ sp := by
  rw [Nat.zero_add, Nat.mul_one, List.set_append_left _ _ (by simpa using h), List.map_set]
theorem kid_at {cs : List C} {i : Nat} (h : i < cs.length) : ((cs.map pt).drop (0 + i * 1)).take 1 = [.pointer (some ⟨cs[i].b, 0, none⟩)] := by
  rw [Nat.zero_add, Nat.mul_one, take1 _ (by simpa using h)]; simp [pt]
theorem tr_succ (d : Nat) (c : C) : tr (d + 1) c = nrow c * (kbuf c * (vbuf c * (cbuf c * trs (tr d) c.cs))) := rfl
theorem pts_set {cs : List C} {i : Nat} {kid2 : C} {h : i < cs.length} (hb : kid2.b = cs[i].b) : (cs.set i kid2).map pt = cs.map pt := by
  rw [List.map_set]
  have e : pt kid2 = (cs.map pt)[i]'(by simpa using h) := by simp [pt, hb]
  rw [e, List.set_getElem_self]
theorem trs_set (f : C → HP) {cs : List C} {i : Nat} {kid2 : C} (h : i < cs.length) : trs f (cs.set i kid2) = f kid2 * (trs f (cs.take i) * trs f (cs.drop (i + 1))) := by
  rw [trs_at f (cs.set i kid2) i (by rw [List.length_set]; exact h), List.getElem_set_self, List.take_set_of_le (by omega), List.drop_set_of_lt (by omega)]
theorem under {N0 : Nat} {B : Frag} {y H : HP} {b o : Nat} {vs : List Value} (h : Cells N0 B H b o vs) : Cells N0 B (y * H) b o vs := fun w s => h w s.drop
theorem kid_keys {N0 d : Nat} {B : Frag} {R : HP} {cs : List C} {i : Nat} (h : i < cs.length) : Cells N0 B (trs (tr (d + 1)) cs * R) cs[i].b (0 + 0) [.slice cs[i].Ak cs[i].ks.length cs[i].ck] := by
  rw [trs_at _ _ _ h, tr_succ, star_assoc, star_assoc]
  exact Cells.own (n := 1) rfl rfl
theorem fold_tr {d b ck cv cc : Nat} {Ak Av Ac : Option Addr} {ks vs : List Str8} {cs : List C} {R : HP} : sbuf 9 1 Ak ks.length ck (ks.map str) * (row b 113 [.slice Ak ks.length ck, .slice Av vs.length cv, .slice Ac cs.length cc] * (sbuf 9 1 Av vs.length cv (vs.map str) * (sbuf 110 1 Ac cs.length cc (cs.map pt) * (trs (tr d) cs * R)))) = tr (d + 1) (.mk b Ak ck Av cv Ac cc ks vs cs) * R := by
  rw [tr_succ]
  simp only [nrow, kbuf, vbuf, cbuf, ncells, C.b, C.Ak, C.ck, C.Av, C.cv, C.Ac, C.cc, C.ks, C.vs, C.cs]
  ac_rfl
theorem fold_kid {d i : Nat} {cs : List C} {p q r s R : HP} (h : i < cs.length) : p * (q * (r * (s * (trs (tr d) cs * R)))) = tr d cs[i] * (p * (q * (r * (s * (trs (tr d) (cs.take i) * (trs (tr d) (cs.drop (i + 1)) * R)))))) := by
  rw [trs_at _ _ _ h]; ac_rfl
set_option maxHeartbeats 4000000 in
theorem put_step (N d : Nat) (hN : N ≤ 90) (c : C) (k v : Str8) (B : Frag) (hok : Ok N (d + 1) c) (ho : Ord (io (d + 1) c)) (hsk : Srt c.ks) (hl7 : c.cs = [] → c.ks.length < N) (ih : ∀ (h : lb c.ks k < c.cs.length), k ∉ c.ks → c.cs[lb c.ks k].ks.length ≠ 7 → ∃ d2, d = d2 + 1 ∧ PutC 7 d2 c.cs[lb c.ks k] k v B) (again : ∀ (h : lb c.ks k < c.cs.length), k ∉ c.ks → c.cs[lb c.ks k].ks.length = 7 → ∀ c', Halved c (lb c.ks k) c.cs[lb c.ks k] c' → Ct Tryz.prog 63 [.pointer (some ⟨c.b, 0, none⟩), str k, str v] B (tr (d + 1) c') (PutQ N d c k v B)) : PutC N d c k v B := by
 have hlbn : lb c.ks k ≤ c.ks.length := lb_le _ _
 have hvl := hok.1
 have hcl := hok.2.2.1
 have h7 := hok.2.1
 obtain ⟨b, Ak, ck, Av, cv, Ac, cc, ks, vs, cs⟩ := c
 unfold PutC
 simp only [C.b, C.ks, C.vs, C.cs] at h7 hl7 hlbn hvl hcl hsk ih again ⊢
 refine Ct.of_body Tryz.func63 rfl (nt := 83) rfl (by kernel_rfl) rfl ?_
 intro N0 w0 R
 rw [tr_succ]
 simp only [star_assoc, nrow, kbuf, vbuf, cbuf, ncells, C.b, C.Ak, C.ck, C.Av, C.cv, C.Ac, C.cc, C.ks, C.vs, C.cs]
 refine Cx.seq (fun K1 k1 => ?_)
 refine Cx.region <| Lx.y (asg rfl) rfl <| Lx.nil <| ?_
 refine Xx.tn (k1 _ _ _ _ ?_)
 refine Cx.seq (fun K2 k2 => ?_)
 refine Cx.region <| Lx.y (mv rfl) rfl <| Lx.y (nilc rfl) rfl <| Lx.y (fa' fo113_0 rfl) rfl <| Lx.y (ld U23 rfl rfl rfl) rfl <| Lx.y (mv rfl) rfl <| ?_
 refine Lx.co rfl rfl rfl (BSo_ct ks k Ak ck ks.length _ rfl hsk (by omega)) (pickS _) rfl ?_
 refine Lx.y (mv rfl) rfl <| Lx.y (ext rfl rfl) rfl <| Lx.y (ext rfl rfl) rfl <| Lx.y (asg rfl) rfl <| Lx.y (asg rfl) rfl <| Lx.nil <| ?_
 refine Xx.tn (k2 _ _ _ _ ?_)
 refine Cx.seq (fun K3 k3 => ?_)
 refine Cx.seq (fun K4 k4 => ?_)
 refine Cx.region <| Lx.y (mv rfl) rfl <| Lx.nil <| ?_
 refine Xx.tn (k4 _ _ _ _ ?_)
 refine Cx.condB rfl (fun h5 => ?_) (fun h5 => ?_)
 ·
  have hin : k ∈ ks := of_decide_eq_true h5
  obtain ⟨hlt, hat⟩ := lb_mem hsk hin
  refine Cx.seq (fun K6 k6 => ?_)
  refine Xx.openT Av (by omega) (fun bV sp hAv hvx hvc hvcl => ?_)
  subst hAv
  refine Cx.region <| Lx.y (mv rfl) rfl <| Lx.y (nilc rfl) rfl <| Lx.y (fa' fo113_1 rfl) rfl <| Lx.y (ld U23 rfl rfl rfl) rfl <| Lx.y (mv rfl) rfl <| Lx.y (mv rfl) rfl <| Lx.y (ia U23 sz9 rfl rfl (Int.toNat_natCast _) (by omega) (by omega)) rfl <| ?_
  refine Lx.st (stO U9 sz9 rfl rfl rfl (by rw [List.length_append, List.length_map]; omega) (frc_gen _ _)) ?_
  refine Lx.nil ?_
  refine Xx.tn (k6 _ _ _ _ ?_)
  refine Cx.seq (fun K7 k7 => ?_)
  refine Xx.closeT bV ((vs.set (lb ks k) v).map str) sp 1 vs.length cv (set_str (by omega)) (by simp) hvc (by rw [List.length_append, List.length_map, List.length_set]; rw [List.length_append, List.length_map] at hvcl; exact hvcl) ?_
  refine Cx.region <| Lx.y (asg rfl) rfl <| Lx.nil <| ?_
  refine Xx.tn (k7 _ _ _ _ ?_)
  refine Cx.ret <| Xx.tr <| ?_
  exact Xx.ret1 rfl rfl ⟨rfl, .mk b Ak ck (some ⟨bV, 0, none⟩) cv Ac cc ks (vs.set (lb ks k) v) cs, rfl, rfl, put_found hok ho hsk hin hlt hat⟩ (Frag.le_refl _) (by rw [tr_succ]; simp only [nrow, kbuf, vbuf, cbuf, ncells, C.b, C.Ak, C.ck, C.Av, C.cv, C.Ac, C.cc, C.ks, C.vs, C.cs, List.length_set]; ac_rfl)
 ·
  have hin : k ∉ ks := of_decide_eq_false h5
  refine Cx.skip ?_
  refine Xx.tn (k3 _ _ _ _ ?_)
  refine Cx.seq (fun K8 k8 => ?_)
  refine Cx.seq (fun K9 k9 => ?_)
  refine Cx.region <| Lx.y (mv rfl) rfl <| Lx.y (nilc rfl) rfl <| Lx.y (fa' fo113_2 rfl) rfl <| Lx.y (ld U111 rfl rfl rfl) rfl <| Lx.y (lenV (ty' := 0) U111 rfl) rfl <| Lx.y (eqI rfl rfl) rfl <| Lx.nil <| ?_
  refine Xx.tn (k9 _ _ _ _ ?_)
  refine Cx.condD rfl (fun h10 => ?_) (fun h10 => ?_)
  ·
   have hz := h10
   have hc0 : cs = [] := List.length_eq_zero_iff.1 (by omega)
   subst hc0
   have hm1 : (ks.take (lb ks k) ++ [k] ++ ks.drop (lb ks k)).length = ks.length + 1 := by simp; omega
   have hm2 : (vs.take (lb ks k) ++ [v] ++ vs.drop (lb ks k)).length = vs.length + 1 := by simp; omega
   refine Cx.seq (fun K11 k11 => ?_)
   refine Cx.drawn (by kernel_rfl) ?_
   refine Dx.p (i := 0) rfl (by kernel_rfl) (mv rfl) rfl ?_
   refine Dx.p (i := 1) rfl (by kernel_rfl) (mv rfl) rfl ?_
   refine Dx.p (i := 2) rfl (by kernel_rfl) (mv rfl) rfl ?_
   refine Dx.p (i := 3) rfl (by kernel_rfl) (nilc rfl) rfl ?_
   refine Dx.p (i := 4) rfl (by kernel_rfl) (fa' fo113_0 rfl) rfl ?_
   refine Dx.r (i := 5) rfl (by kernel_rfl) (ld U23 rfl rfl rfl) rfl ?_
   refine Dx.p (i := 6) rfl (by kernel_rfl) (mv rfl) rfl ?_
   refine Dx.p (i := 7) rfl (by kernel_rfl) (mv rfl) rfl ?_
   refine Dx.p (i := 10) rfl (by kernel_rfl) (mv rfl) rfl ?_
   refine Dx.p (i := 11) rfl (by kernel_rfl) (nilc rfl) rfl ?_
   refine Dx.p (i := 12) rfl (by kernel_rfl) (fa' fo113_1 rfl) rfl ?_
   refine Dx.r (i := 13) rfl (by kernel_rfl) (ld U23 rfl rfl rfl) rfl ?_
   refine Dx.p (i := 14) rfl (by kernel_rfl) (mv rfl) rfl ?_
   refine Dx.p (i := 15) rfl (by kernel_rfl) (mv rfl) rfl ?_
   refine Dx.two (i := 8) (j := 16) (by kernel_rfl) ?_ ?_
   ·
    refine Dstep.o (i := 8) rfl (bsl1 U23 ti9 rfl rfl rfl (by decide)) rfl (fun v B' H' hΦ hB => ?_)
    obtain ⟨b68, rfl, rfl, rfl⟩ := hΦ; clear hB
    refine ⟨JOk.yes (JOk.yes (JOk.top) (ld U23 rfl rfl rfl)) (ld U23 rfl rfl rfl), ?_⟩
    refine Dx.two (i := 9) (j := 16) (by kernel_rfl) ?_ ?_
    ·
     refine Dstep.o (i := 9) rfl (Ox.call rfl rfl rfl (InsS_ct Ak (lb ks k) ks.length ck (ks.map str) b68 9 [str k] _ (by omega) (by rw [List.length_map]; omega) (strs_all _) rfl rfl (by omega)) (pickSB _ _)) rfl (fun v B' H' hΦ hB => ?_)
     obtain ⟨_, rfl, hΦ⟩ := hΦ
     obtain ⟨Ak9, ck9, rfl, hBB, rfl, ⟨_, hAck9⟩, hck9⟩ := hΦ
     subst hBB
     rename Frag => B
     clear hB
     refine ⟨JOk.yes (JOk.edge (JOk.top) (by kernel_rfl)) (ld U23 rfl rfl rfl), ?_⟩
     refine Dx.one (i := 16) (by kernel_rfl) ?_
     refine Dstep.o (i := 16) rfl (bsl1 U23 ti9 rfl rfl rfl (by decide)) rfl (fun v B' H' hΦ hB => ?_)
     obtain ⟨b616, rfl, rfl, rfl⟩ := hΦ; clear hB
     refine ⟨JOk.yes (JOk.yes (JOk.top) (ld U23 rfl rfl rfl)) (ld U23 rfl rfl rfl), ?_⟩
     refine Dx.one (i := 17) (by kernel_rfl) ?_
     refine Dstep.o (i := 17) rfl (Ox.call rfl rfl rfl (InsS_ct Av (lb ks k) vs.length cv (vs.map str) b616 9 [str v] _ (by omega) (by rw [List.length_map]; omega) (strs_all _) rfl rfl (by omega)) (pickSB _ _)) rfl (fun v B' H' hΦ hB => ?_)
     obtain ⟨_, rfl, hΦ⟩ := hΦ
     obtain ⟨Av9, cv9, rfl, hBB, rfl, ⟨_, hAcv9⟩, hcv9⟩ := hΦ
     subst hBB
     rename Frag => B
     clear hB
     refine ⟨JOk.edge (JOk.yes (JOk.top) (ld U23 rfl rfl rfl)) (by kernel_rfl), ?_⟩
     refine Dx.p (i := 18) rfl (by kernel_rfl) (nilc rfl) rfl ?_
     refine Dx.p (i := 19) rfl (by kernel_rfl) (fa' fo113_0 rfl) rfl ?_
     refine Dx.one (i := 20) (by kernel_rfl) ?_
     refine Dstep.o0 (i := 20) rfl (stO U23 sz23 rfl rfl rfl (by simp) rfl) (fun v B' H' hΦ hB => ?_)
     obtain ⟨rfl, rfl⟩ := hΦ; clear hB v
     refine ⟨JOk.edge (JOk.edge (JOk.top) (by kernel_rfl)) (by kernel_rfl), ?_⟩
     refine Dx.p (i := 21) rfl (by kernel_rfl) (nilc rfl) rfl ?_
     refine Dx.p (i := 22) rfl (by kernel_rfl) (fa' fo113_1 rfl) rfl ?_
     refine Dx.one (i := 23) (by kernel_rfl) ?_
     refine Dstep.o0 (i := 23) rfl (stO U23 sz23 rfl rfl rfl (by simp) rfl) (fun v B' H' hΦ hB => ?_)
     obtain ⟨rfl, rfl⟩ := hΦ; clear hB v
     refine ⟨JOk.edge (JOk.edge (JOk.top) (by kernel_rfl)) (by kernel_rfl), ?_⟩
     refine Dx.done (by kernel_rfl) ?_
     refine Xx.tn (k11 _ _ _ _ ?_)
     refine Cx.seq (fun K12 k12 => ?_)
     refine Cx.region <| Lx.y (asg rfl) rfl <| Lx.nil <| ?_
     refine Xx.tn (k12 _ _ _ _ ?_)
     refine Cx.ret <| Xx.tr <| ?_
     exact Xx.ret1 rfl rfl ⟨rfl, .mk b Ak9 ck9 Av9 cv9 Ac cc (ks.take (lb ks k) ++ [k] ++ ks.drop (lb ks k)) (vs.take (lb ks k) ++ [v] ++ vs.drop (lb ks k)) [], rfl, rfl, put_leaf hok hsk hin (hl7 rfl)⟩ (Frag.le_refl _) (by rw [tr_succ]; simp only [nrow, kbuf, vbuf, cbuf, ncells, C.b, C.Ak, C.ck, C.Av, C.cv, C.Ac, C.cc, C.ks, C.vs, C.cs, hm1, hm2]; simp only [List.map_append, List.map_take, List.map_drop, List.map_cons, List.map_nil, Nat.mul_one]; ac_rfl)
    refine Dstep.o (i := 16) rfl (bsl1 U23 ti9 rfl rfl rfl (by decide)) rfl (fun v B' H' hΦ hB => ?_)
    obtain ⟨b616, rfl, rfl, rfl⟩ := hΦ; clear hB
    refine ⟨JOk.yes (JOk.yes (JOk.top) (ld U23 rfl rfl rfl)) (ld U23 rfl rfl rfl), ?_⟩
    refine Dx.one (i := 9) (by kernel_rfl) ?_
    refine Dstep.o (i := 9) rfl (Ox.call rfl rfl rfl (InsS_ct Ak (lb ks k) ks.length ck (ks.map str) b68 9 [str k] _ (by omega) (by rw [List.length_map]; omega) (strs_all _) rfl rfl (by omega)) (pickSB _ _)) rfl (fun v B' H' hΦ hB => ?_)
    obtain ⟨_, rfl, hΦ⟩ := hΦ
    obtain ⟨Ak9, ck9, rfl, hBB, rfl, ⟨_, hAck9⟩, hck9⟩ := hΦ
    subst hBB
    rename Frag => B
    clear hB
    refine ⟨JOk.yes (JOk.edge (JOk.top) (by kernel_rfl)) (ld U23 rfl rfl rfl), ?_⟩
    refine Dx.one (i := 17) (by kernel_rfl) ?_
    refine Dstep.o (i := 17) rfl (Ox.call rfl rfl rfl (InsS_ct Av (lb ks k) vs.length cv (vs.map str) b616 9 [str v] _ (by omega) (by rw [List.length_map]; omega) (strs_all _) rfl rfl (by omega)) (pickSB _ _)) rfl (fun v B' H' hΦ hB => ?_)
    obtain ⟨_, rfl, hΦ⟩ := hΦ
    obtain ⟨Av9, cv9, rfl, hBB, rfl, ⟨_, hAcv9⟩, hcv9⟩ := hΦ
    subst hBB
    rename Frag => B
    clear hB
    refine ⟨JOk.edge (JOk.yes (JOk.top) (ld U23 rfl rfl rfl)) (by kernel_rfl), ?_⟩
    refine Dx.p (i := 18) rfl (by kernel_rfl) (nilc rfl) rfl ?_
    refine Dx.p (i := 19) rfl (by kernel_rfl) (fa' fo113_0 rfl) rfl ?_
    refine Dx.one (i := 20) (by kernel_rfl) ?_
    refine Dstep.o0 (i := 20) rfl (stO U23 sz23 rfl rfl rfl (by simp) rfl) (fun v B' H' hΦ hB => ?_)
    obtain ⟨rfl, rfl⟩ := hΦ; clear hB v
    refine ⟨JOk.edge (JOk.edge (JOk.top) (by kernel_rfl)) (by kernel_rfl), ?_⟩
    refine Dx.p (i := 21) rfl (by kernel_rfl) (nilc rfl) rfl ?_
    refine Dx.p (i := 22) rfl (by kernel_rfl) (fa' fo113_1 rfl) rfl ?_
    refine Dx.one (i := 23) (by kernel_rfl) ?_
    refine Dstep.o0 (i := 23) rfl (stO U23 sz23 rfl rfl rfl (by simp) rfl) (fun v B' H' hΦ hB => ?_)
    obtain ⟨rfl, rfl⟩ := hΦ; clear hB v
    refine ⟨JOk.edge (JOk.edge (JOk.top) (by kernel_rfl)) (by kernel_rfl), ?_⟩
    refine Dx.done (by kernel_rfl) ?_
    refine Xx.tn (k11 _ _ _ _ ?_)
    refine Cx.seq (fun K13 k13 => ?_)
    refine Cx.region <| Lx.y (asg rfl) rfl <| Lx.nil <| ?_
    refine Xx.tn (k13 _ _ _ _ ?_)
    refine Cx.ret <| Xx.tr <| ?_
    exact Xx.ret1 rfl rfl ⟨rfl, .mk b Ak9 ck9 Av9 cv9 Ac cc (ks.take (lb ks k) ++ [k] ++ ks.drop (lb ks k)) (vs.take (lb ks k) ++ [v] ++ vs.drop (lb ks k)) [], rfl, rfl, put_leaf hok hsk hin (hl7 rfl)⟩ (Frag.le_refl _) (by rw [tr_succ]; simp only [nrow, kbuf, vbuf, cbuf, ncells, C.b, C.Ak, C.ck, C.Av, C.cv, C.Ac, C.cc, C.ks, C.vs, C.cs, hm1, hm2]; simp only [List.map_append, List.map_take, List.map_drop, List.map_cons, List.map_nil, Nat.mul_one]; ac_rfl)
   refine Dstep.o (i := 16) rfl (bsl1 U23 ti9 rfl rfl rfl (by decide)) rfl (fun v B' H' hΦ hB => ?_)
   obtain ⟨b616, rfl, rfl, rfl⟩ := hΦ; clear hB
   refine ⟨JOk.yes (JOk.yes (JOk.top) (ld U23 rfl rfl rfl)) (ld U23 rfl rfl rfl), ?_⟩
   refine Dx.one (i := 8) (by kernel_rfl) ?_
   refine Dstep.o (i := 8) rfl (bsl1 U23 ti9 rfl rfl rfl (by decide)) rfl (fun v B' H' hΦ hB => ?_)
   obtain ⟨b68, rfl, rfl, rfl⟩ := hΦ; clear hB
   refine ⟨JOk.yes (JOk.yes (JOk.top) (ld U23 rfl rfl rfl)) (ld U23 rfl rfl rfl), ?_⟩
   refine Dx.one (i := 9) (by kernel_rfl) ?_
   refine Dstep.o (i := 9) rfl (Ox.call rfl rfl rfl (InsS_ct Ak (lb ks k) ks.length ck (ks.map str) b68 9 [str k] _ (by omega) (by rw [List.length_map]; omega) (strs_all _) rfl rfl (by omega)) (pickSB _ _)) rfl (fun v B' H' hΦ hB => ?_)
   obtain ⟨_, rfl, hΦ⟩ := hΦ
   obtain ⟨Ak9, ck9, rfl, hBB, rfl, ⟨_, hAck9⟩, hck9⟩ := hΦ
   subst hBB
   rename Frag => B
   clear hB
   refine ⟨JOk.yes (JOk.edge (JOk.top) (by kernel_rfl)) (ld U23 rfl rfl rfl), ?_⟩
   refine Dx.one (i := 17) (by kernel_rfl) ?_
   refine Dstep.o (i := 17) rfl (Ox.call rfl rfl rfl (InsS_ct Av (lb ks k) vs.length cv (vs.map str) b616 9 [str v] _ (by omega) (by rw [List.length_map]; omega) (strs_all _) rfl rfl (by omega)) (pickSB _ _)) rfl (fun v B' H' hΦ hB => ?_)
   obtain ⟨_, rfl, hΦ⟩ := hΦ
   obtain ⟨Av9, cv9, rfl, hBB, rfl, ⟨_, hAcv9⟩, hcv9⟩ := hΦ
   subst hBB
   rename Frag => B
   clear hB
   refine ⟨JOk.edge (JOk.yes (JOk.top) (ld U23 rfl rfl rfl)) (by kernel_rfl), ?_⟩
   refine Dx.p (i := 18) rfl (by kernel_rfl) (nilc rfl) rfl ?_
   refine Dx.p (i := 19) rfl (by kernel_rfl) (fa' fo113_0 rfl) rfl ?_
   refine Dx.one (i := 20) (by kernel_rfl) ?_
   refine Dstep.o0 (i := 20) rfl (stO U23 sz23 rfl rfl rfl (by simp) rfl) (fun v B' H' hΦ hB => ?_)
   obtain ⟨rfl, rfl⟩ := hΦ; clear hB v
   refine ⟨JOk.edge (JOk.edge (JOk.top) (by kernel_rfl)) (by kernel_rfl), ?_⟩
   refine Dx.p (i := 21) rfl (by kernel_rfl) (nilc rfl) rfl ?_
   refine Dx.p (i := 22) rfl (by kernel_rfl) (fa' fo113_1 rfl) rfl ?_
   refine Dx.one (i := 23) (by kernel_rfl) ?_
   refine Dstep.o0 (i := 23) rfl (stO U23 sz23 rfl rfl rfl (by simp) rfl) (fun v B' H' hΦ hB => ?_)
   obtain ⟨rfl, rfl⟩ := hΦ; clear hB v
   refine ⟨JOk.edge (JOk.edge (JOk.top) (by kernel_rfl)) (by kernel_rfl), ?_⟩
   refine Dx.done (by kernel_rfl) ?_
   refine Xx.tn (k11 _ _ _ _ ?_)
   refine Cx.seq (fun K14 k14 => ?_)
   refine Cx.region <| Lx.y (asg rfl) rfl <| Lx.nil <| ?_
   refine Xx.tn (k14 _ _ _ _ ?_)
   refine Cx.ret <| Xx.tr <| ?_
   exact Xx.ret1 rfl rfl ⟨rfl, .mk b Ak9 ck9 Av9 cv9 Ac cc (ks.take (lb ks k) ++ [k] ++ ks.drop (lb ks k)) (vs.take (lb ks k) ++ [v] ++ vs.drop (lb ks k)) [], rfl, rfl, put_leaf hok hsk hin (hl7 rfl)⟩ (Frag.le_refl _) (by rw [tr_succ]; simp only [nrow, kbuf, vbuf, cbuf, ncells, C.b, C.Ak, C.ck, C.Av, C.cv, C.Ac, C.cc, C.ks, C.vs, C.cs, hm1, hm2]; simp only [List.map_append, List.map_take, List.map_drop, List.map_cons, List.map_nil, Nat.mul_one]; ac_rfl)
  ·
   have hz := h10
   have hcl2 : cs.length = ks.length + 1 := by rcases hcl with h | h; rw [h] at hz; simp at hz; exact h
   have hci : lb ks k < cs.length := by omega
   obtain ⟨d, rfl⟩ : ∃ d2, d = d2 + 1 := ⟨d - 1, by have hkk := hok.2.2.2 _ (List.getElem_mem hci); cases d with | zero => exact hkk.elim | succ d => rfl⟩
   refine Cx.skip ?_
   refine Xx.tn (k8 _ _ _ _ ?_)
   refine Cx.seq (fun K15 k15 => ?_)
   refine Cx.seq (fun K16 k16 => ?_)
   refine Xx.addrT Ac (by omega) (fun bC hAc hcx hcc => ?_)
   subst hAc
   refine Cx.region <| Lx.y (mv rfl) rfl <| Lx.y (nilc rfl) rfl <| Lx.y (fa' fo113_2 rfl) rfl <| Lx.y (ld U111 rfl rfl rfl) rfl <| Lx.y (mv rfl) rfl <| Lx.y (ia U111 sz110 rfl rfl (by first | exact Int.toNat_natCast _ | rfl) (by omega) (by omega)) rfl <| Lx.y (ldC U110 rfl rfl (Cells.buf (m := 1) (kid_at hci) (by rw [List.length_map]; omega))) rfl <| Lx.y (nilc rfl) rfl <| Lx.y (fa' fo113_0 rfl) rfl <| Lx.y (ldC U23 rfl rfl (under (under (under (under (kid_keys hci)))))) rfl <| Lx.y (lenV (ty' := 0) U23 rfl) rfl <| ?_
   refine Lx.y (eqI rfl rfl) rfl <| Lx.nil <| ?_
   refine Xx.tn (k16 _ _ _ _ ?_)
   refine Cx.condD rfl (fun h17 => ?_) (fun h17 => ?_)
   ·
    have h7k := h17
    have h7k : cs[lb ks k].ks.length = 7 := by omega
    refine Cx.seq (fun K18 k18 => ?_)
    refine Cx.region <| Lx.y (mv rfl) rfl <| Lx.y (mv rfl) rfl <| ?_
    refine Lx.c rfl rfl rfl (halve_ct N hN d (.mk b Ak ck Av cv (some ⟨bC, 0, none⟩) cc ks vs cs) (lb ks k) hci hok h7k _) (fold_tr) rfl ?_
    rintro v1 B1 H1 ⟨rfl, hBB, c2, rfl, hh⟩ hB1
    subst hBB
    rename Frag => B
    clear hB1
    refine Lx.nil ?_
    refine Xx.tn (k18 _ _ _ _ ?_)
    refine Cx.seq (fun K19 k19 => ?_)
    refine Cx.region <| Lx.y (mv rfl) rfl <| Lx.y (mv rfl) rfl <| Lx.y (mv rfl) rfl <| ?_
    refine Lx.c rfl rfl rfl (again hci hin h7k c2 hh) (rfl) rfl ?_
    rintro v1 B1 H1 hq hB1
    refine Lx.y (asg rfl) rfl <| Lx.nil <| ?_
    refine Xx.tn (k19 _ _ _ _ ?_)
    refine Cx.ret <| Xx.tr <| ?_
    exact Xx.ret1 rfl rfl hq hB1 rfl
   ·
    have h7k := h17
    have h7k : cs[lb ks k].ks.length ≠ 7 := by omega
    refine Cx.skip ?_
    refine Xx.tn (k15 _ _ _ _ ?_)
    refine Cx.seq (fun K20 k20 => ?_)
    refine Cx.region <| Lx.y (mv rfl) rfl <| Lx.y (nilc rfl) rfl <| Lx.y (fa' fo113_2 rfl) rfl <| Lx.y (ld U111 rfl rfl rfl) rfl <| Lx.y (mv rfl) rfl <| Lx.y (ia U111 sz110 rfl rfl (by first | exact Int.toNat_natCast _ | rfl) (by omega) (by omega)) rfl <| Lx.y (ldC U110 rfl rfl (Cells.buf (m := 1) (kid_at hci) (by rw [List.length_map]; omega))) rfl <| Lx.y (mv rfl) rfl <| Lx.y (mv rfl) rfl <| ?_
    obtain ⟨d2, hd2, hput⟩ := ih hci hin h7k
    obtain rfl : d2 = d := by omega
    refine Lx.c rfl rfl rfl (hput) (fold_kid hci) rfl ?_
    rintro v1 B1 H1 ⟨hBB, kid2, rfl, hkb, hkr⟩ hB1
    subst hBB
    rename Frag => B
    clear hB1
    refine Lx.y (asg rfl) rfl <| Lx.nil <| ?_
    refine Xx.tn (k20 _ _ _ _ ?_)
    refine Cx.ret ?_
    exact Xx.ret1 rfl rfl ⟨rfl, .mk b Ak ck Av cv (some ⟨bC, 0, none⟩) cc ks vs (cs.set (lb ks k) kid2), rfl, rfl, put_deep hok ho hin hci hcl2 hkr⟩ (Frag.le_refl _) (by rw [← fold_tr, trs_set _ hci, pts_set hkb, List.length_set]; ac_rfl)
end BtF
end Go.Proofs.YtdidpocakipinaaGreatDoor
namespace Go.Proofs.YtdidpocakipinaaGreatDoor
open Go.SL Go.RowKit
set_option maxRecDepth 100000
open Ke1 Ke3 Ke4 Ke5 Ke6 Ke7 Ke8 Ke9 KeA KeB KeC KeD KeE KeF KeG KeI RgA BtB BtC BtD BtE BtG BtH BtI BtF BtX
namespace BtJ
theorem take_left3 {α : Type} {a b c : List α} {i : Nat} (h : a.length = i) : (a ++ b ++ c).take i = a ∧ (a ++ b ++ c).drop i = b ++ c := by
  subst h; rw [List.append_assoc]; exact ⟨List.take_left, List.drop_left⟩
theorem io_kid7 {d : Nat} {kid L M : C} (hok : Ok1 (d + 1) kid) (h7 : kid.ks.length = 7) (l1 : L.ks = kid.ks.take 3) (l2 : L.vs = kid.vs.take 3) (l3 : L.cs = kid.cs.take 4) (m1 : M.ks = kid.ks.drop 4) (m2 : M.vs = kid.vs.drop 4) (m3 : M.cs = kid.cs.drop 4) :
    io (d + 1) kid = io (d + 1) L ++ (kid.ks.getD 3 [], kid.vs.getD 3 []) :: io (d + 1) M := by
  obtain ⟨hv, _, hc, _⟩ := hok
  have hv7 : kid.vs.length = 7 := by omega
  show ioL (io d) kid.ks kid.vs kid.cs = ioL (io d) L.ks L.vs L.cs ++ _ :: ioL (io d) M.ks M.vs M.cs
  rw [l1, l2, l3, m1, m2, m3, getD3 h7, getD3 hv7]
  rcases hc with hc | hc
  · rw [hc, List.take_nil, List.drop_nil, io_leaf _ _ _ hv, io_leaf _ _ _ (by simp; omega), io_leaf _ _ _ (by simp; omega), zip_cut 3 hv, List.drop_eq_getElem_cons (show 3 < kid.ks.length by omega), List.drop_eq_getElem_cons (show 3 < kid.vs.length by omega)]
    rfl
  · have hc8 : kid.cs.length = 8 := by omega
    rw [io_split (io d) 3 kid.ks kid.vs kid.cs (by omega) hv hc, pos_first (io d) (show 3 < kid.ks.length by omega) (by omega) (by omega)]
    have e1 : ioL (io d) (kid.ks.take 3) (kid.vs.take 3) (kid.cs.take 4) = preL (io d) (kid.ks.take 3) (kid.vs.take 3) (kid.cs.take 3) ++ io d (kid.cs[3]'(by omega)) := by
      rw [io_split (io d) 3 _ _ _ (by simp; omega) (by simp; omega) (by simp; omega)]
      rw [List.take_take, List.take_take, List.take_take, List.getElem_take, List.drop_of_length_le (l := kid.ks.take 3) (by simp; omega)]
      have : posL (io d) [] ((kid.vs.take 3).drop 3) ((kid.cs.take 4).drop (3 + 1)) = [] := by cases (kid.vs.take 3).drop 3 <;> rfl
      rw [this, List.append_nil]; rfl
    have e2 : ioL (io d) (kid.ks.drop 4) (kid.vs.drop 4) (kid.cs.drop 4) = io d (kid.cs[3 + 1]'(by omega)) ++ posL (io d) (kid.ks.drop (3 + 1)) (kid.vs.drop (3 + 1)) (kid.cs.drop (3 + 2)) := by
      rw [List.drop_eq_getElem_cons (show 4 < kid.cs.length by omega)]
      exact io_pos _ _ _ _ _ (by simp; omega) (by simp; omega)
    rw [e1, e2]
    simp
theorem halved_io {N d : Nat} {c c' : C} {i : Nat} (hi : i < c.cs.length) (hok : Ok N (d + 2) c) (hc : c.cs.length = c.ks.length + 1) (h7 : c.cs[i].ks.length = 7) (hh : Halved c i c.cs[i] c') (hfull : c.ks.length < N) : Ok N (d + 2) c' ∧ io (d + 2) c' = io (d + 2) c ∧ c'.b = c.b ∧ c'.cs.length = c'.ks.length + 1 ∧ (∀ j (hj : j < c'.cs.length), j = i ∨ j = i + 1 → c'.cs[j].ks.length = 3) := by
  obtain ⟨L, M, hb, hks, hvs, hcs, lb1, l1, l2, l3, m1, m2, m3⟩ := hh
  have hv := hok.1
  have hkid := hok.2.2.2 _ (List.getElem_mem hi)
  have hio := io_kid7 hkid h7 l1 l2 l3 m1 m2 m3
  obtain ⟨kv, _, kc, kk⟩ := hkid
  have hil : (c.cs.take i).length = i := by simp; omega
  have lk : c'.ks.length = c.ks.length + 1 := by rw [hks]; simp; omega
  have lv : c'.vs.length = c.ks.length + 1 := by rw [hvs]; simp; omega
  have lc : c'.cs.length = c.cs.length + 1 := by rw [hcs]; simp; omega
  have hci : i < c'.cs.length := by omega
  have eL : c'.cs[i] = L := by
    have h9 : c'.cs[i]? = some L := by rw [hcs, List.append_assoc, List.getElem?_append_right (by omega), hil, Nat.sub_self]; rfl
    obtain ⟨_, e⟩ := List.getElem?_eq_some_iff.1 h9; exact e
  have eM : c'.cs[i + 1]'(by omega) = M := by
    have h9 : c'.cs[i + 1]? = some M := by rw [hcs, List.append_assoc, List.getElem?_append_right (by omega), hil, Nat.add_sub_cancel_left]; rfl
    obtain ⟨_, e⟩ := List.getElem?_eq_some_iff.1 h9; exact e
  have okL : Ok1 (d + 1) L := by
    refine ⟨by rw [l1, l2]; simp; omega, by rw [l1]; simp; omega, ?_, fun p hp => kk p (by rw [l3] at hp; exact List.mem_of_mem_take hp)⟩
    rcases kc with h | h
    · left; rw [l3, h]; rfl
    · right; rw [l3, l1]; simp; omega
  have okM : Ok1 (d + 1) M := by
    refine ⟨by rw [m1, m2]; simp; omega, by rw [m1]; simp; omega, ?_, fun p hp => kk p (by rw [m3] at hp; exact List.mem_of_mem_drop hp)⟩
    rcases kc with h | h
    · left; rw [m3, h]; rfl
    · right; rw [m3, m1]; simp; omega
  refine ⟨⟨by omega, by omega, .inr (by omega), fun p hp => ?_⟩, ?_, hb, by omega, fun j hj hji => ?_⟩
  · rw [hcs] at hp
    simp only [List.mem_append, List.mem_cons, List.not_mem_nil, or_false] at hp
    rcases hp with (hp | rfl | rfl) | hp
    · exact hok.2.2.2 p (List.mem_of_mem_take hp)
    · exact okL
    · exact okM
    · exact hok.2.2.2 p (List.mem_of_mem_drop hp)
  · show ioL (io (d + 1)) c'.ks c'.vs c'.cs = ioL (io (d + 1)) c.ks c.vs c.cs
    rw [io_split _ i c'.ks c'.vs c'.cs hci (by omega) (by omega), io_split _ i c.ks c.vs c.cs hi hv hc, eL, hio]
    obtain ⟨a1, a2⟩ := take_left3 (i := i) (a := c.ks.take i) (b := [c.cs[i].ks.getD 3 []]) (c := c.ks.drop i) (by simp; omega)
    obtain ⟨b1, b2⟩ := take_left3 (i := i) (a := c.vs.take i) (b := [c.cs[i].vs.getD 3 []]) (c := c.vs.drop i) (by simp; omega)
    obtain ⟨c1, c2⟩ := take_left3 (i := i) (a := c.cs.take i) (b := [L, M]) (c := c.cs.drop (i + 1)) hil
    have c3 : c'.cs.drop (i + 1) = M :: c.cs.drop (i + 1) := by
      have : c'.cs.drop (i + 1) = (c'.cs.drop i).drop 1 := by rw [List.drop_drop]
      rw [this, hcs, c2]; rfl
    rw [hks, hvs, a1, a2, b1, b2, c3, hcs, c1]
    show preL _ _ _ _ ++ (io (d + 1) L ++ ((c.cs[i].ks.getD 3 [], c.cs[i].vs.getD 3 []) :: (io (d + 1) M ++ posL _ (c.ks.drop i) (c.vs.drop i) (c.cs.drop (i + 1))))) = _
    simp
  · rcases hji with rfl | rfl
    · rw [eL, l1]; simp; omega
    · rw [eM, m1]; simp; omega
theorem lb_halved {ks : List Str8} {k m : Str8} (hs : Srt ks) (hk : k ∉ ks) (hs' : Srt (ks.take (lb ks k) ++ [m] ++ ks.drop (lb ks k))) : lb (ks.take (lb ks k) ++ [m] ++ ks.drop (lb ks k)) k = lb ks k ∨ lb (ks.take (lb ks k) ++ [m] ++ ks.drop (lb ks k)) k = lb ks k + 1 := by
  have hle := lb_le ks k
  obtain ⟨g1, g2⟩ := lb_spec (t := k) hs
  obtain ⟨f1, f2⟩ := lb_spec (t := k) hs'
  have hll := lb_le (ks.take (lb ks k) ++ [m] ++ ks.drop (lb ks k)) k
  have e1 : ∀ j (hj : j < lb ks k) (hj2 : j < ks.length), (ks.take (lb ks k) ++ [m] ++ ks.drop (lb ks k))[j]? = some ks[j] := fun j hj hj2 => by
    rw [List.append_assoc, List.getElem?_append_left (by simp; omega), List.getElem?_take, if_pos hj, List.getElem?_eq_getElem]
  have e2 : ∀ (h : lb ks k < ks.length), (ks.take (lb ks k) ++ [m] ++ ks.drop (lb ks k))[lb ks k + 1]? = some ks[lb ks k] := fun h => by
    rw [List.getElem?_append_right (by simp; omega)]
    simp [Nat.min_eq_left hle, List.getElem?_drop]
  have hlen : (ks.take (lb ks k) ++ [m] ++ ks.drop (lb ks k)).length = ks.length + 1 := by simp; omega
  generalize ks.take (lb ks k) ++ [m] ++ ks.drop (lb ks k) = L at *
  rcases Nat.lt_trichotomy (lb L k) (lb ks k) with h | h | h
  · have a := f2 (by omega)
    obtain ⟨_, e⟩ := List.getElem?_eq_some_iff.1 (e1 _ h (by omega))
    rw [e, g1 _ (by omega) h] at a; cases a
  · exact .inl h
  · rcases Nat.lt_or_ge (lb ks k + 1) (lb L k) with h2 | h2
    · have a := f1 (lb ks k + 1) (by omega) h2
      have hl : lb ks k < ks.length := by omega
      obtain ⟨_, e⟩ := List.getElem?_eq_some_iff.1 (e2 hl)
      rw [e, g2 hl] at a; cases a
    · exact .inr (by omega)
theorem halved_mn {N d : Nat} {c c' : C} {i : Nat} (hi : i < c.cs.length) (hok : Ok N (d + 2) c) (h7 : c.cs[i].ks.length = 7) (hh : Halved c i c.cs[i] c') (hm : Mn (d + 2) c) : Mn (d + 2) c' := by
  obtain ⟨L, M, hb, hks, hvs, hcs, lb, l1, l2, l3, m1, m2, m3⟩ := hh
  have hg := Good.of (hok.2.2.2 _ (List.getElem_mem hi)) (hm.2 _ (List.getElem_mem hi)).2
  have hmk := (hm.2 _ (List.getElem_mem hi)).2
  have hsh : c.cs[i].cs = [] ∨ c.cs[i].cs.length = 8 := by rcases hg.2.2.1 with ⟨_, z⟩ | ⟨_, z⟩; exact .inl z; exact .inr (by omega)
  refine ⟨⟨fun z => by rw [hcs] at z; simp at z, fun z => by simp at z⟩, fun p hp => ?_⟩
  rw [hcs] at hp
  simp only [List.mem_append, List.mem_cons, List.not_mem_nil, or_false] at hp
  rcases hp with (hp | rfl | rfl) | hp
  · exact hm.2 p (List.mem_of_mem_take hp)
  · refine ⟨by rw [l1]; simp; omega, ⟨?_, fun q hq => hmk.2 q (by rw [l3] at hq; exact List.mem_of_mem_take hq)⟩⟩
    rw [l3, ← hmk.1]
    rcases hsh with z | z
    · rw [z]; simp
    · exact ⟨fun w => by have e9 := congrArg List.length w; rw [List.length_take, z] at e9; exact absurd e9 (by decide), fun w => by rw [w] at z; simp at z⟩
  · refine ⟨by rw [m1]; simp; omega, ⟨?_, fun q hq => hmk.2 q (by rw [m3] at hq; exact List.mem_of_mem_drop hq)⟩⟩
    rw [m3, ← hmk.1]
    rcases hsh with z | z
    · rw [z]; simp
    · exact ⟨fun w => by have e9 := congrArg List.length w; rw [List.length_drop, z] at e9; exact absurd e9 (by decide), fun w => by rw [w] at z; simp at z⟩
  · exact hm.2 p (List.mem_of_mem_drop hp)
theorem putc (k v : Str8) : ∀ (d N : Nat) (hN : N ≤ 90) (c : C) (B : Frag), Ok N (d + 1) c → Ord (io (d + 1) c) → c.ks.length < N → PutC N d c k v B := by
  intro d
  induction d with
  | zero =>
    intro N hN c B hok ho h7
    exact put_step N 0 hN c k v B hok ho (srt_of hok ho) (fun _ => h7) (fun h _ _ => (hok.2.2.2 _ (List.getElem_mem h)).elim) (fun h _ _ => (hok.2.2.2 _ (List.getElem_mem h)).elim)
  | succ d ihd =>
    have kids : ∀ (N : Nat) (c : C) (B : Frag), Ok N (d + 2) c → Ord (io (d + 2) c) → ∀ (h : lb c.ks k < c.cs.length), k ∉ c.ks → c.cs[lb c.ks k].ks.length ≠ 7 → ∃ d2, d + 1 = d2 + 1 ∧ PutC 7 d2 c.cs[lb c.ks k] k v B := fun N c B hok ho h hk h7 => by
      have okk := hok.2.2.2 _ (List.getElem_mem h)
      have hc : c.cs.length = c.ks.length + 1 := by rcases hok.2.2.1 with z | z; rw [z] at h; simp at h; exact z
      obtain ⟨e, _, _⟩ := around hok ho hk h hc
      rw [e] at ho
      exact ⟨d, rfl, ihd 7 (by decide) _ B (Ok.of1 okk) (Ord.left (Ord.right ho)) (by have := okk.2.1; omega)⟩
    intro N hN c B hok ho h7
    refine put_step N (d + 1) hN c k v B hok ho (srt_of hok ho) (fun _ => h7) (kids N c B hok ho) ?_
    intro h hk h7k c' hh
    have hc : c.cs.length = c.ks.length + 1 := by rcases hok.2.2.1 with z | z; rw [z] at h; simp at h; exact z
    obtain ⟨ok', io', hb', hc', h3⟩ := halved_io h hok hc h7k hh h7
    have ho' : Ord (io (d + 2) c') := by rw [io']; exact ho
    have hs' := srt_of ok' ho'
    have hmn9 := fun hm => halved_mn h hok h7k hh hm
    obtain ⟨_, _, _, hks, _⟩ := hh
    have hl9 : c'.ks.length = c.ks.length + 1 := by rw [hks]; simp; omega
    have hlb : lb c'.ks k = lb c.ks k ∨ lb c'.ks k = lb c.ks k + 1 := by rw [hks] at hs' ⊢; exact lb_halved (srt_of hok ho) hk hs'
    have hp := put_step N (d + 1) hN c' k v B ok' ho' hs' (fun z => by rw [z] at hc'; simp at hc') (kids N c' B ok' ho') (fun h2 _ h72 => absurd h72 (by rw [h3 _ h2 hlb]; decide))
    rw [← hb']
    refine Ct.mono hp ?_
    rintro r B' H' ⟨hB, c2, hH, hb2, p1, p2, p3, p4, p5⟩
    exact ⟨hB, c2, hH, hb2.trans hb', p1, by rw [p2]; show insP k v (io (d + 2) c') = _; rw [io'], by rw [p3]; show Value.bool (!decide (k ∈ (io (d + 2) c').map (·.1))) = _; rw [io'], fun hm => p4 (hmn9 hm), by omega⟩
end BtJ
end Go.Proofs.YtdidpocakipinaaGreatDoor
namespace Go.Proofs.YtdidpocakipinaaGreatDoor
open Go.SL Go.RowKit
set_option maxRecDepth 100000
open Ke1 Ke3 Ke4 Ke5 Ke6 Ke7 Ke8 Ke9 KeA KeB KeC KeD KeE KeF KeG KeI RgA BtB BtC BtD BtE BtG BtH BtI BtF BtJ
namespace BtK
def lkp (k : Str8) : List (Str8 × Str8) → Str8
  | [] => []
  | p :: l => if p.1 = k then p.2 else lkp k l
theorem lkp_skip {k : Str8} : ∀ {a l : List (Str8 × Str8)}, (∀ p ∈ a, p.1 ≠ k) → lkp k (a ++ l) = lkp k l := by
  intro a
  induction a with
  | nil => intro l _; rfl
  | cons p a ih => intro l h; show (if p.1 = k then p.2 else lkp k (a ++ l)) = _; rw [if_neg (h p (by simp)), ih fun q hq => h q (by simp [hq])]
theorem lkp_none {k : Str8} : ∀ {l : List (Str8 × Str8)}, (∀ p ∈ l, p.1 ≠ k) → lkp k l = [] := by
  intro l h
  have := lkp_skip (a := l) (l := []) h
  rw [List.append_nil] at this
  exact this
theorem lkp_cut {k : Str8} {a l : List (Str8 × Str8)} (h : ∀ p ∈ l, p.1 ≠ k) : lkp k (a ++ l) = lkp k a := by
  induction a with
  | nil => exact lkp_none h
  | cons p a ih => show (if p.1 = k then p.2 else lkp k (a ++ l)) = if p.1 = k then p.2 else lkp k a; rw [ih]
theorem ne_of_below {k x : Str8} (h : bless x k = true) : x ≠ k := fun e => by rw [e, bless_irrefl] at h; cases h
theorem ne_of_above {k x : Str8} (h : bless k x = true) : x ≠ k := fun e => by rw [e, bless_irrefl] at h; cases h
theorem lkp_here {N d : Nat} {c : C} {k : Str8} (hok : Ok N (d + 1) c) (ho : Ord (io (d + 1) c)) (hl : lb c.ks k < c.ks.length) (hat : c.ks[lb c.ks k] = k) (hv : lb c.ks k < c.vs.length) : lkp k (io (d + 1) c) = c.vs[lb c.ks k] ∧ k ∈ (io (d + 1) c).map (·.1) := by
  have hs := srt_of hok ho
  have hvl := hok.1
  refine ⟨?_, (keys_sub (io d) c.ks c.vs c.cs hvl).subset (by rw [← hat]; exact List.getElem_mem hl)⟩
  rcases hok.2.2.1 with hc | hc
  · have e0 : io (d + 1) c = c.ks.zip c.vs := by show ioL _ _ _ c.cs = _; rw [hc]; exact io_leaf (io d) c.ks c.vs hvl
    rw [e0, zip_cut (lb c.ks k) hvl, lkp_skip (fun p hp => ne_of_below (zip_below hs p hp)), List.drop_eq_getElem_cons hl, List.drop_eq_getElem_cons hv]
    show (if c.ks[lb c.ks k] = k then _ else _) = _
    rw [if_pos hat]
  · have e0 := io_split (io d) (lb c.ks k) c.ks c.vs c.cs (by omega) hvl hc
    rw [pos_first (io d) hl hv (by omega), ← List.append_assoc] at e0
    have ho' : Ord (ioL (io d) c.ks c.vs c.cs) := ho
    show lkp k (ioL (io d) c.ks c.vs c.cs) = _
    rw [e0] at ho' ⊢
    rw [lkp_skip (fun p hp => ne_of_below (by have := Ord.cross ho' p hp (c.ks[lb c.ks k], c.vs[lb c.ks k]) (by simp); rw [hat] at this; exact this))]
    show (if c.ks[lb c.ks k] = k then _ else _) = _
    rw [if_pos hat]
theorem lkp_leaf {N d : Nat} {c : C} {k : Str8} (hok : Ok N (d + 1) c) (hk : k ∉ c.ks) (hc : c.cs = []) : lkp k (io (d + 1) c) = [] ∧ k ∉ (io (d + 1) c).map (·.1) := by
  have e0 : io (d + 1) c = c.ks.zip c.vs := by show ioL _ _ _ c.cs = _; rw [hc]; exact io_leaf (io d) c.ks c.vs hok.1
  rw [e0]
  refine ⟨lkp_none fun p hp e => hk (by rw [← e]; exact (List.of_mem_zip (show (p.1, p.2) ∈ _ from hp)).1), by rw [zip_keys hok.1]; exact hk⟩
theorem lkp_kid {N d : Nat} {c : C} {k : Str8} (hok : Ok N (d + 1) c) (ho : Ord (io (d + 1) c)) (hk : k ∉ c.ks) (hi : lb c.ks k < c.cs.length) : lkp k (io (d + 1) c) = lkp k (io d c.cs[lb c.ks k]) ∧ (k ∈ (io (d + 1) c).map (·.1) ↔ k ∈ (io d c.cs[lb c.ks k]).map (·.1)) ∧ Ok1 d c.cs[lb c.ks k] ∧ Ord (io d c.cs[lb c.ks k]) := by
  have hc : c.cs.length = c.ks.length + 1 := by rcases hok.2.2.1 with z | z; rw [z] at hi; simp at hi; exact z
  obtain ⟨e, hP, hQ⟩ := around hok ho hk hi hc
  have ho' := ho
  rw [e] at ho' ⊢
  refine ⟨?_, ?_, hok.2.2.2 _ (List.getElem_mem hi), Ord.left (Ord.right ho')⟩
  · rw [lkp_skip (fun p hp => ne_of_below (hP p hp)), lkp_cut (fun p hp => ne_of_above (hQ p hp))]
  · simp only [List.map_append, List.mem_append]
    refine ⟨fun h => ?_, fun h => .inr (.inl h)⟩
    rcases h with h | h | h
    · obtain ⟨p, hp, e2⟩ := List.mem_map.1 h; exact absurd e2 (ne_of_below (hP p hp))
    · exact h
    · obtain ⟨p, hp, e2⟩ := List.mem_map.1 h; exact absurd e2 (ne_of_above (hQ p hp))
end BtK
end Go.Proofs.YtdidpocakipinaaGreatDoor
namespace Go.Proofs.YtdidpocakipinaaGreatDoor
open Go.SL Go.RowKit
set_option maxRecDepth 100000
open Ke1 Ke3 Ke4 Ke5 Ke6 Ke7 Ke8 Ke9 KeA KeB KeC KeD KeE KeF KeG KeI RgA BtB BtC BtD BtE BtG BtH BtI BtF BtJ BtK
namespace BtL
theorem sz9 : (Tryz.prog.info? 9).map (·.size) = some 1 := by kernel_rfl
theorem sz110 : (Tryz.prog.info? 110).map (·.size) = some 1 := by kernel_rfl
theorem fo113_0 : FO Tryz.prog 113 0 0 1 false := FO.of U113 rfl rfl (by kernel_rfl) U23 rfl rfl
theorem fo113_1 : FO Tryz.prog 113 1 1 1 false := FO.of U113 rfl rfl (by kernel_rfl) U23 rfl rfl
theorem fo113_2 : FO Tryz.prog 113 2 2 1 false := FO.of U113 rfl rfl (by kernel_rfl) U111 rfl rfl
theorem fo115_0 : FO Tryz.prog 115 0 0 1 false := FO.of U115 rfl rfl (by kernel_rfl) U110 rfl rfl
set_option maxHeartbeats 1000000 in
theorem Get_ro (N d : Nat) (hN : N ≤ 90) (c : C) (tb : Nat) (n : Int) (fz : Nat × Nat) (k : Str8) (B : Frag) (hT : B tb = some (.cells [pt c, i64 n].toArray 115 fz)) (hR : TrB B (d + 1) c) (hok : Ok N (d + 1) c) (ho : Ord (io (d + 1) c)) : CtP Tryz.prog 61 [.pointer (some ⟨tb, 0, none⟩), str k] B (.tuple #[str (lkp k (io (d + 1) c)), .bool (decide (k ∈ (io (d + 1) c).map (·.1)))]) := by
 refine CtB.of_body Tryz.func61 rfl (nt := 45) rfl (by kernel_rfl) rfl ?_
 intro N0 w0 R
 refine Cx.seq (fun K1 k1 => ?_)
 refine Cx.region <| Lx.y (asg rfl) rfl <| Lx.y (asg rfl) rfl <| Lx.nil <| ?_
 refine Xx.tn (k1 _ _ _ _ ?_)
 refine Cx.seq (fun K2 k2 => ?_)
 refine Cx.seq (fun K3 k3 => ?_)
 refine Cx.region <| Lx.y (mv rfl) rfl <| Lx.y (Yx.ff (eqNilP U83 rfl rfl) rfl) rfl <| Lx.nil <| ?_
 refine Xx.tn (k3 _ _ _ _ ?_)
 refine Cx.condF rfl <| Cx.skip <| ?_
 refine Xx.tn (k2 _ _ _ _ ?_)
 refine Cx.seq (fun K4 k4 => ?_)
 refine Cx.region <| Lx.y (mv rfl) rfl <| Lx.y (nilc rfl) rfl <| Lx.y (fa' fo115_0 rfl) rfl <| Lx.y (ldB U110 rfl rfl hT rfl) rfl <| Lx.y (asg rfl) rfl <| Lx.nil <| ?_
 refine Xx.tn (k4 _ _ _ _ ?_)
 refine Cx.block ?_
 refine Cx.loopK (Sc 0 rfl (Sc 1 rfl (Sc 9 rfl (Sc 10 rfl (Sc 11 rfl (Sc 12 rfl (Sc 13 rfl (Sc 14 rfl (Sub.nil _))))))))) (fun m ρ' B' H' => ∃ (q : Nat) (x : C), (TrB B (q + 1) x ∧ Ok 90 (q + 1) x ∧ Ord (io (q + 1) x) ∧ lkp k (io (d + 1) c) = lkp k (io (q + 1) x) ∧ (k ∈ (io (d + 1) c).map (·.1) ↔ k ∈ (io (q + 1) x).map (·.1))) ∧ m = q ∧ ρ' = [(6, .pointer (some ⟨x.b, 0, none⟩))] ∧ B = B' ∧ R = H') ⟨d, c, ⟨hR, hok.le hN, ho, rfl, Iff.rfl⟩, rfl, rfl, rfl, rfl⟩ (Sc 6 rfl (Sc 0 rfl (Sc 1 rfl (Sc 9 rfl (Sc 10 rfl (Sc 11 rfl (Sc 12 rfl (Sc 13 rfl (Sc 14 rfl (Sub.nil _)))))))))) ?_
 rintro m ρ' B' H' ⟨q, x, ⟨hRx, hokx, hox, hlk, hmem⟩, rfl, rfl, rfl, rfl⟩
 obtain ⟨⟨fz2, hBx⟩, hRk, hRv, hRc, hkids⟩ := hRx
 have hsx := srt_of hokx hox
 have hvl := hokx.1
 have h7 := hokx.2.1
 refine Cx.block ?_
 refine Cx.seq (fun K5 k5 => ?_)
 refine Cx.region <| Lx.y (mv rfl) rfl <| Lx.y (nilc rfl) rfl <| Lx.y (fa' fo113_0 rfl) rfl <| Lx.y (ldB U23 rfl rfl hBx rfl) rfl <| Lx.y (mv rfl) rfl <| ?_
 refine Lx.cp rfl rfl rfl (BS_ct x.ks k _ _ _ hRk hsx (by omega)) rfl ?_
 refine Lx.y (mv rfl) rfl <| Lx.y (ext rfl rfl) rfl <| Lx.y (ext rfl rfl) rfl <| Lx.y (asg rfl) rfl <| Lx.y (asg rfl) rfl <| Lx.nil <| ?_
 refine Xx.tn (k5 _ _ _ _ ?_)
 refine Cx.seq (fun K6 k6 => ?_)
 refine Cx.seq (fun K7 k7 => ?_)
 refine Cx.region <| Lx.y (mv rfl) rfl <| Lx.nil <| ?_
 refine Xx.tn (k7 _ _ _ _ ?_)
 refine Cx.condB rfl (fun h8 => ?_) (fun h8 => ?_)
 ·
  have hin : k ∈ x.ks := of_decide_eq_true h8
  obtain ⟨hlt, hat⟩ := lb_mem hsx hin
  have hlv : lb x.ks k < x.vs.length := by omega
  obtain ⟨g1, g2⟩ := lkp_here hokx hox hlt hat hlv
  obtain ⟨bv, ov, csv, etv, fzv, hAv, hBv, hvv⟩ := roe_str hRv hlv rfl
  refine Cx.seq (fun K9 k9 => ?_)
  refine Cx.region <| Lx.y (mv rfl) rfl <| Lx.y (nilc rfl) rfl <| Lx.y (fa' fo113_1 rfl) rfl <| Lx.y (Yx.val (ldB U23 rfl rfl hBx rfl) (show _ = Value.slice (some ⟨bv, ov, none⟩) x.vs.length x.cv by rw [← hAv])) rfl <| Lx.y (mv rfl) rfl <| Lx.y (ia U23 sz9 rfl rfl (by first | exact Int.toNat_natCast _ | rfl) (by omega) (by omega)) rfl <| Lx.y (ldB U9 rfl rfl hBv hvv) rfl <| Lx.y (asg rfl) rfl <| Lx.y (asg rfl) rfl <| Lx.nil <| ?_
  refine Xx.tn (k9 _ _ _ _ ?_)
  refine Cx.ret <| Xx.tr <| ?_
  refine Xx.br ?_
  refine Xx.tr ?_
  refine Xx.br ?_
  exact Xx.rB2 rfl rfl rfl ⟨by rw [hlk, g1, decide_eq_true (hmem.2 g2)], rfl⟩ (Frag.le_refl _) rfl
 ·
  have hin : k ∉ x.ks := of_decide_eq_false h8
  refine Cx.skip ?_
  refine Xx.tn (k6 _ _ _ _ ?_)
  refine Cx.seq (fun K10 k10 => ?_)
  refine Cx.seq (fun K11 k11 => ?_)
  refine Cx.region <| Lx.y (mv rfl) rfl <| Lx.y (nilc rfl) rfl <| Lx.y (fa' fo113_2 rfl) rfl <| Lx.y (ldB U111 rfl rfl hBx rfl) rfl <| Lx.y (lenV (ty' := 0) U111 rfl) rfl <| Lx.y (eqI rfl rfl) rfl <| Lx.nil <| ?_
  refine Xx.tn (k11 _ _ _ _ ?_)
  refine Cx.condD rfl (fun h12 => ?_) (fun h12 => ?_)
  ·
   have hz := h12
   have hc0 : x.cs = [] := List.length_eq_zero_iff.1 (by omega)
   obtain ⟨g1, g2⟩ := lkp_leaf hokx hin hc0
   refine Cx.seq (fun K13 k13 => ?_)
   refine Cx.region <| Lx.y (asg rfl) rfl <| Lx.y (asg rfl) rfl <| Lx.nil <| ?_
   refine Xx.tn (k13 _ _ _ _ ?_)
   refine Cx.ret <| Xx.tr <| ?_
   refine Xx.br ?_
   refine Xx.tr ?_
   refine Xx.br ?_
   exact Xx.rB2 rfl rfl rfl ⟨by rw [hlk, g1, decide_eq_false (fun z => g2 (hmem.1 z))], rfl⟩ (Frag.le_refl _) rfl
  ·
   have hz := h12
   have hcl : x.cs.length = x.ks.length + 1 := by rcases hokx.2.2.1 with z | z; exact absurd (by rw [z]; rfl) hz; exact z
   have hlb := lb_le x.ks k
   have hci : lb x.ks k < x.cs.length := by omega
   obtain ⟨q, rfl⟩ : ∃ m2, m = m2 + 1 := ⟨m - 1, by have hkk := hokx.2.2.2 _ (List.getElem_mem hci); cases m with | zero => exact hkk.elim | succ m => rfl⟩
   obtain ⟨g1, g2, g3, g4⟩ := lkp_kid hokx hox hin hci
   obtain ⟨bv, ov, csv, etv, fzv, hAv, hBv, hvv⟩ := hRc.at1 (k := lb x.ks k) hci
   rw [List.getElem?_map, List.getElem?_eq_getElem hci] at hvv
   refine Cx.skip ?_
   refine Xx.tn (k10 _ _ _ _ ?_)
   refine Cx.region <| Lx.y (mv rfl) rfl <| Lx.y (nilc rfl) rfl <| Lx.y (fa' fo113_2 rfl) rfl <| Lx.y (Yx.val (ldB U111 rfl rfl hBx rfl) (show _ = Value.slice (some ⟨bv, ov, none⟩) x.cs.length x.cc by rw [← hAv])) rfl <| Lx.y (mv rfl) rfl <| Lx.y (ia U111 sz110 rfl rfl (by first | exact Int.toNat_natCast _ | rfl) (by omega) (by omega)) rfl <| Lx.y (ldB U110 rfl rfl hBv hvv) rfl <| Lx.y (asg rfl) rfl <| Lx.nil <| Xx.bn <| ?_
   exact Xx.againK ⟨q, x.cs[lb x.ks k], ⟨hkids _ (List.getElem_mem hci), (Ok.of1 g3).le (by decide), g4, hlk.trans g1, hmem.trans g2⟩, rfl, rfl, rfl, rfl⟩ (by omega) (Sub.consE (s := 6) rfl (rfl) (Sc 0 rfl (Sc 1 rfl (Sc 9 rfl (Sc 10 rfl (Sc 11 rfl (Sc 12 rfl (Sc 13 rfl (Sc 14 rfl (Sub.nil _))))))))))
end BtL
end Go.Proofs.YtdidpocakipinaaGreatDoor
namespace Go.Proofs.YtdidpocakipinaaGreatDoor
open Go.SL Go.RowKit
set_option maxRecDepth 100000
open Ke1 Ke3 Ke4 Ke5 Ke6 Ke7 Ke8 Ke9 KeA KeB KeC KeD KeE KeF KeG KeI RgA BtB BtC BtD BtE BtG BtH BtI BtF BtJ BtK BtL BtX
namespace BtM
theorem sz3 : (Tryz.prog.info? 3).map (·.size) = some 1 := by kernel_rfl
theorem sz110 : (Tryz.prog.info? 110).map (·.size) = some 1 := by kernel_rfl
theorem ti110 : TI Tryz.prog 110 [.pointer none] 1 8 := TI.of (by kernel_rfl) rfl rfl
theorem ti113 : TI Tryz.prog 113 [.slice none 0 0, .slice none 0 0, .slice none 0 0] 3 72 := TI.of (by kernel_rfl) rfl rfl
theorem ti115 : TI Tryz.prog 115 [.pointer none, .int .i64 0] 2 16 := TI.of (by kernel_rfl) rfl rfl
theorem fo113_0 : FO Tryz.prog 113 0 0 1 false := FO.of U113 rfl rfl (by kernel_rfl) U23 rfl rfl
theorem fo115_0 : FO Tryz.prog 115 0 0 1 false := FO.of U115 rfl rfl (by kernel_rfl) U110 rfl rfl
theorem fo115_1 : FO Tryz.prog 115 1 1 1 false := FO.of U115 rfl rfl (by kernel_rfl) U3 rfl rfl
theorem pl113 : PL Tryz.prog 113 [(0, 1), (1, 1), (2, 1)] := PL.of U113 (by kernel_rfl)
theorem pl115 : PL Tryz.prog 115 [(0, 1), (1, 1)] := PL.of U115 (by kernel_rfl)
abbrev tree (tb d : Nat) (c : C) : HP := row tb 115 [pt c, i64 ((io (d + 1) c).length : Nat)] * tr (d + 1) c
theorem insP_len {k v : Str8} : ∀ {l : List (Str8 × Str8)}, Ord l → (insP k v l).length = if k ∈ l.map (·.1) then l.length else l.length + 1 := by
  intro l
  induction l with
  | nil => intro _; simp [insP]
  | cons p l ih =>
    intro h
    obtain ⟨h1, h2⟩ := List.pairwise_cons.1 h
    unfold insP
    by_cases hb : bless p.1 k = true
    · have hne : ¬ k = p.1 := fun e => by rw [e, bless_irrefl] at hb; cases hb
      rw [if_pos hb, List.length_cons, ih h2, List.map_cons]
      simp only [List.mem_cons, hne, false_or]
      split <;> simp
    · rw [if_neg hb]
      by_cases he : p.1 = k
      · rw [if_pos he, if_pos (by simp [he])]; simp
      · have hlt : bless k p.1 = true := by
          cases hc : bless k p.1 with
          | true => rfl
          | false => exact absurd (bless_total (by simpa using hb) hc) he
        have hn : ¬ k ∈ (p :: l).map (·.1) := by
          intro hm
          obtain ⟨q, hq, e⟩ := List.mem_map.1 hm
          rcases List.mem_cons.1 hq with rfl | hq
          · exact he e
          · have := bless_trans hlt (h1 q hq)
            rw [e, bless_irrefl] at this; cases this
        rw [if_neg he, if_neg hn]; simp
theorem ks_le {N d : Nat} {c : C} (hok : Ok N (d + 1) c) : c.ks.length ≤ (io (d + 1) c).length := by
  have := (keys_sub (io d) c.ks c.vs c.cs hok.1).length_le
  rw [List.length_map] at this; exact this
theorem root_keys {N0 d tb : Nat} {B : Frag} {R : HP} {vs : List Value} {c : C} : Cells N0 B (row tb 115 vs * (tr (d + 1) c * R)) c.b (0 + 0) [.slice c.Ak c.ks.length c.ck] := by
  refine under ?_
  rw [tr_succ, star_assoc]
  exact Cells.own (n := 1) rfl rfl
theorem Get_ct (N d : Nat) (hN : N ≤ 90) (c : C) (tb : Nat) (k : Str8) (B : Frag) (hok : Ok N (d + 1) c) (ho : Ord (io (d + 1) c)) : CtC Tryz.prog 61 [.pointer (some ⟨tb, 0, none⟩), str k] B (tree tb d c) (.tuple #[str (lkp k (io (d + 1) c)), .bool (decide (k ∈ (io (d + 1) c).map (·.1)))]) (tree tb d c) := by
  refine CtC.lend (Go.SL.enters_of Tryz.func61 rfl (by kernel_rfl)) ?_
  rintro k ⟨k1, m1, d1, e1, h1, h2⟩ ha
  have l1 := un_le (B := B) e1 d1
  exact Get_ro N d hN c tb _ _ _ _ (l1.1 _ _ (row_ro h1 (ap_left ha e1))) ((tr_ro _ _ _ h2 (ap_right ha e1 d1) hok.fit).mono l1.2) hok ho
def rootC (b bs : Nat) (c : C) : C := .mk b none 0 none 0 (some ⟨bs, 0, none⟩) 1 [] [] [c]
theorem rootC_tr {d b bs : Nat} {c : C} : tr (d + 2) (rootC b bs c) = row b 113 [.slice none 0 0, .slice none 0 0, .slice (some ⟨bs, 0, none⟩) 1 1] * (sbuf 110 1 (some ⟨bs, 0, none⟩) 1 1 [pt c] * tr (d + 1) c) := by
  rw [tr_succ]
  simp only [rootC, nrow, kbuf, vbuf, cbuf, ncells, C.b, C.Ak, C.ck, C.Av, C.cv, C.Ac, C.cc, C.ks, C.vs, C.cs, List.map_nil, List.map_cons, List.length_nil, List.length_cons, sbuf_nil, one_star, trs, star_one]
theorem rootC_ok {N d b bs : Nat} {c : C} (hok : Ok N (d + 1) c) (h7 : c.ks.length = 7) : Ok 90 (d + 2) (rootC b bs c) :=
  ⟨rfl, Nat.zero_le _, .inr rfl, fun p hp => by rcases List.mem_singleton.1 hp with rfl; exact ⟨hok.1, by omega, hok.2.2⟩⟩
theorem rootC_io {d b bs : Nat} {c : C} : io (d + 2) (rootC b bs c) = io (d + 1) c := rfl
set_option maxHeartbeats 1000000 in
theorem New_ct (B : Frag) : Ct Tryz.prog 34 [] B 1 (fun v B' H' => B' = B ∧ ∃ tb c, v = .pointer (some ⟨tb, 0, none⟩) ∧ H' = tree tb 0 c ∧ Ok 90 1 c ∧ io 1 c = []) := by
 refine Ct.of_body Tryz.func34 rfl (nt := 5) rfl (by kernel_rfl) rfl ?_
 intro N0 w0 R
 rw [one_star]
 refine Cx.seq (fun K1 k1 => ?_)
 refine Cx.region <| Lx.y (asg rfl) rfl <| Lx.nil <| ?_
 refine Xx.tn (k1 _ _ _ _ ?_)
 refine Cx.seq (fun K2 k2 => ?_)
 refine Cx.region <| Lx.y (bld ti113 pl113 rfl rfl) rfl <| ?_
 refine Lx.new (boxA rfl) rfl (fun b1 => ?_)
 refine Lx.y (bld ti115 pl115 rfl rfl) rfl ?_
 refine Lx.new (boxA rfl) rfl (fun b3 => ?_)
 refine Lx.y (asg rfl) rfl <| Lx.nil <| ?_
 refine Xx.tn (k2 _ _ _ _ ?_)
 refine Cx.ret ?_
 exact Xx.ret1 rfl rfl ⟨rfl, b3, .mk b1 none 0 none 0 none 0 [] [] [], rfl, rfl, ⟨rfl, Nat.zero_le _, .inl rfl, fun p hp => by cases hp⟩, rfl⟩ (Frag.le_refl _) (by unfold tree; rw [tr_succ]; simp only [nrow, kbuf, vbuf, cbuf, ncells, C.b, C.Ak, C.ck, C.Av, C.cv, C.Ac, C.cc, C.ks, C.vs, C.cs, List.map_nil, List.length_nil, sbuf_nil, one_star, trs, star_one]; rw [star_assoc]; rfl)
set_option maxHeartbeats 4000000 in
theorem Put_ct (d : Nat) (c : C) (tb : Nat) (k v : Str8) (B : Frag) (hok : Ok 90 (d + 1) c) (ho : Ord (io (d + 1) c)) (hlen : (io (d + 1) c).length ≤ 80) : Ct Tryz.prog 36 [.pointer (some ⟨tb, 0, none⟩), str k, str v] B (tree tb d c) (fun r B' H' => B' = B ∧ ∃ d' c', r = .bool (!decide (k ∈ (io (d + 1) c).map (·.1))) ∧ H' = tree tb d' c' ∧ Ok 90 (d' + 1) c' ∧ io (d' + 1) c' = insP k v (io (d + 1) c) ∧ (c.ks.length < 7 → d' = d) ∧ (Mn (d + 1) c → Mn (d' + 1) c') ∧ (d = 0 ∨ 1 ≤ c.ks.length → d' = 0 ∨ 1 ≤ c'.ks.length)) := by
 have hkl := ks_le hok
 refine Ct.of_body Tryz.func36 rfl (nt := 62) rfl (by kernel_rfl) rfl ?_
 intro N0 w0 R
 refine Cx.seq (fun K1 k1 => ?_)
 refine Cx.region <| Lx.y (asg rfl) rfl <| Lx.nil <| ?_
 refine Xx.tn (k1 _ _ _ _ ?_)
 refine Cx.seq (fun K2 k2 => ?_)
 refine Cx.seq (fun K3 k3 => ?_)
 refine Cx.region <| Lx.y (mv rfl) rfl <| Lx.y (Yx.ff (eqNilP U83 rfl rfl) rfl) rfl <| Lx.nil <| ?_
 refine Xx.tn (k3 _ _ _ _ ?_)
 refine Cx.condF rfl <| Cx.skip <| ?_
 refine Xx.tn (k2 _ _ _ _ ?_)
 refine Cx.cutK (ds' := []) (Sc 0 rfl (Sc 1 rfl (Sc 2 rfl (Sc 6 rfl (Sc 10 rfl (Sc 11 rfl (Sub.nil _))))))) (fun ρ' B' H' => ∃ d2 c2, ρ' = [] ∧ B = B' ∧ row tb 115 [pt c2, i64 ((io (d + 1) c).length : Nat)] * (tr (d2 + 1) c2 * R) = H' ∧ Ok 90 (d2 + 1) c2 ∧ io (d2 + 1) c2 = io (d + 1) c ∧ c2.ks.length < 90 ∧ (c.ks.length < 7 → d2 = d) ∧ (Mn (d + 1) c → Mn (d2 + 1) c2) ∧ (d = 0 ∨ 1 ≤ c.ks.length → d2 = 0 ∨ 1 ≤ c2.ks.length)) ?_ ?_
 ·
  refine Cx.seq (fun K4 k4 => ?_)
  refine Cx.region <| Lx.y (mv rfl) rfl <| Lx.y (mv rfl) rfl <| ?_
  refine Lx.co rfl rfl rfl (Get_ct 90 d (by decide) c tb k _ hok ho) (rfl) rfl ?_
  refine Lx.y (mv rfl) rfl <| Lx.y (ext rfl rfl) rfl <| Lx.y (ext rfl rfl) rfl <| Lx.y (asg rfl) rfl <| Lx.y (asg rfl) rfl <| Lx.nil <| ?_
  refine Xx.tn (k4 _ _ _ _ ?_)
  refine Cx.seq (fun K5 k5 => ?_)
  rw [star_assoc]
  refine Cx.region <| Lx.y (mv rfl) rfl <| Lx.y (not' rfl) rfl <| Lx.y (mv rfl) rfl <| ?_
  refine Xx.ifB (t := 20) rfl (fun h6 => ?_) (fun h6 => ?_)
  ·
   have hni := h6
   refine Lx.gT rfl rfl rfl <| Lx.y (mv rfl) rfl <| Lx.gT rfl rfl rfl <| Lx.y (nilc rfl) rfl <| Lx.gT rfl rfl rfl <| Lx.y (fa' fo115_0 rfl) rfl <| Lx.gT rfl rfl rfl <| Lx.y (ld U110 rfl rfl rfl) rfl <| Lx.gT rfl rfl rfl <| Lx.y (nilc rfl) rfl <| Lx.gT rfl rfl rfl <| Lx.y (fa' fo113_0 rfl) rfl <| ?_
   refine Lx.gT rfl rfl rfl <| Lx.y (ldC U23 rfl rfl root_keys) rfl <| Lx.gT rfl rfl rfl <| Lx.y (lenV (ty' := 0) U23 rfl) rfl <| Lx.gT rfl rfl rfl <| Lx.y (eqI rfl rfl) rfl <| Lx.y (pickT rfl rfl) rfl <| Lx.nil <| ?_
   refine Xx.tn (k5 _ _ _ _ ?_)
   refine Cx.condD rfl (fun h7 => ?_) (fun h7 => ?_)
   ·
    have h7 := h7
    have h7 : c.ks.length = 7 := by omega
    refine Cx.seq (fun K8 k8 => ?_)
    refine Cx.region <| Lx.y (mv rfl) rfl <| Lx.y (mv rfl) rfl <| Lx.y (nilc rfl) rfl <| Lx.y (fa' fo115_0 rfl) rfl <| Lx.y (ld U110 rfl rfl rfl) rfl <| ?_
    refine Lx.bsl (bsl1 U111 ti110 rfl rfl rfl (by decide)) rfl (fun bs => ?_)
    refine Lx.y (bld ti113 pl113 rfl rfl) rfl ?_
    refine Lx.new (boxA rfl) rfl (fun br => ?_)
    refine Lx.y (nilc rfl) rfl <| Lx.y (fa' fo115_0 rfl) rfl <| ?_
    refine Lx.st (stO U110 sz110 rfl rfl rfl (by simp) rfl) ?_
    refine Xx.toS bs 1 1 1 rfl (Nat.le_refl _) rfl ?_
    refine Lx.nil ?_
    refine Xx.tn (k8 _ _ _ _ ?_)
    refine Cx.region <| Lx.y (mv rfl) rfl <| Lx.y (nilc rfl) rfl <| Lx.y (fa' fo115_0 rfl) rfl <| Lx.y (ld U110 rfl rfl rfl) rfl <| ?_
    refine Lx.c rfl rfl rfl (halve_ct 90 (by decide) d (rootC br bs c) 0 Nat.one_pos (rootC_ok hok h7) h7 _) ((show _ = tr (d + 2) (rootC br bs c) * (row tb 115 [.pointer (some ⟨br, 0, none⟩), i64 ((io (d + 1) c).length : Nat)] * R) by rw [rootC_tr]; ac_rfl)) rfl ?_
    rintro v1 B1 H1 ⟨rfl, hBB, c2, rfl, hh⟩ hB1
    subst hBB
    rename Frag => B
    clear hB1
    obtain ⟨g1, g2, g3, g4, g5⟩ := halved_io (show 0 < (rootC br bs c).cs.length from Nat.one_pos) (rootC_ok (b := br) (bs := bs) hok h7) rfl h7 hh (show (0 : Nat) < 90 by decide)
    have g6 : c2.ks.length = 1 := by obtain ⟨_, _, _, hks, _⟩ := hh; rw [hks]; rfl
    refine Lx.nil ?_
    exact Xx.mkK (⟨d + 1, c2, rfl, rfl, by rw [show pt c2 = .pointer (some ⟨br, 0, none⟩) by unfold pt; rw [g3]; rfl]; exact star_left _ _ _, g1, g2.trans rootC_io, by omega, fun h => absurd h (by omega), fun hm => halved_mn (show 0 < (rootC br bs c).cs.length from Nat.one_pos) (rootC_ok (b := br) (bs := bs) hok h7) h7 hh ⟨⟨fun z => (by cases z), fun z => (by cases z)⟩, fun p hp => by (rcases List.mem_singleton.1 hp with rfl; exact ⟨by omega, hm⟩)⟩, fun _ => .inr (by omega)⟩) (Sc 0 rfl (Sc 1 rfl (Sc 2 rfl (Sc 6 rfl (Sc 10 rfl (Sc 11 rfl (Sub.nil _)))))))
   ·
    skip
    refine Cx.skip ?_
    exact Xx.mkK (⟨d, c, rfl, rfl, rfl, hok, rfl, by omega, fun _ => rfl, fun h => h, fun h => h⟩) (Sc 0 rfl (Sc 1 rfl (Sc 2 rfl (Sc 6 rfl (Sc 10 rfl (Sc 11 rfl (Sub.nil _)))))))
  ·
   have hni := h6
   refine Lx.gF rfl rfl rfl rfl <| Lx.gF rfl rfl rfl rfl <| Lx.gF rfl rfl rfl rfl <| Lx.gF rfl rfl rfl rfl <| Lx.gF rfl rfl rfl rfl <| Lx.gF rfl rfl rfl rfl <| Lx.gF rfl rfl rfl rfl <| Lx.gF rfl rfl rfl rfl <| Lx.gF rfl rfl rfl rfl <| Lx.y (pickF rfl rfl) rfl <| Lx.nil <| ?_
   refine Xx.tn (k5 _ _ _ _ ?_)
   refine Cx.condF rfl <| Cx.skip <| ?_
   exact Xx.mkK (⟨d, c, rfl, rfl, rfl, hok, rfl, by omega, fun _ => rfl, fun h => h, fun h => h⟩) (Sc 0 rfl (Sc 1 rfl (Sc 2 rfl (Sc 6 rfl (Sc 10 rfl (Sc 11 rfl (Sub.nil _)))))))
 ·rintro ρ' B' H' ⟨d2, c2, rfl, rfl, rfl, hok2, hio2, h90, hd2, hM2, hR2⟩
  refine Cx.seq (fun K9 k9 => ?_)
  refine Cx.region <| Lx.y (mv rfl) rfl <| Lx.y (nilc rfl) rfl <| Lx.y (fa' fo115_0 rfl) rfl <| Lx.y (ld U110 rfl rfl rfl) rfl <| Lx.y (mv rfl) rfl <| Lx.y (mv rfl) rfl <| ?_
  refine Lx.c rfl rfl rfl (putc k v d2 90 (by decide) c2 _ hok2 (by rw [hio2]; exact ho) h90) (star_left _ _ _) rfl ?_
  rintro r B1 H1 ⟨hBB, c3, rfl, hb3, p1, p2, rfl, p4, p5⟩ hB1
  subst hBB
  rename Frag => B
  clear hB1
  rw [hio2] at p2 ⊢
  have hln := insP_len (k := k) (v := v) ho
  have hpt : pt c2 = pt c3 := by unfold pt; rw [hb3]
  refine Lx.y (asg rfl) rfl <| Lx.nil <| ?_
  refine Xx.tn (k9 _ _ _ _ ?_)
  refine Cx.seq (fun K10 k10 => ?_)
  refine Cx.seq (fun K11 k11 => ?_)
  rw [star_left]
  refine Cx.region <| Lx.y (mv rfl) rfl <| Lx.nil <| ?_
  refine Xx.tn (k11 _ _ _ _ ?_)
  refine Cx.condB rfl (fun h12 => ?_) (fun h12 => ?_)
  ·
   rw [if_neg (by simpa using h12)] at hln
   refine Cx.region <| Lx.y (mv rfl) rfl <| Lx.y (nilc rfl) rfl <| Lx.y (fa' fo115_1 rfl) rfl <| Lx.y (ld U3 rfl rfl rfl) rfl <| Lx.y (Yx.val (add rfl rfl (by first | exact wrap64 (by omega) (by omega) | rfl)) (show _ = i64 (((io (d + 1) c).length + 1 : Nat) : Int) from rfl)) rfl <| Lx.y (nilc rfl) rfl <| Lx.y (fa' fo115_1 rfl) rfl <| ?_
   refine Lx.st (stO U3 sz3 rfl rfl rfl (by simp) rfl) ?_
   refine Lx.nil ?_
   refine Xx.tn (k10 _ _ _ _ ?_)
   refine Cx.seq (fun K13 k13 => ?_)
   refine Cx.region <| Lx.y (mv rfl) rfl <| Lx.y (asg rfl) rfl <| Lx.nil <| ?_
   refine Xx.tn (k13 _ _ _ _ ?_)
   refine Cx.ret ?_
   exact Xx.ret1 rfl rfl ⟨rfl, d2, c3, by first | (rfl) | rfl, rfl, p1, p2, hd2, fun hm => p4 (hM2 hm), fun hr => by rcases hR2 hr with z | z; exact .inl z; exact .inr (by omega)⟩ (Frag.le_refl _) (by unfold tree; rw [hpt, p2, hln]; exact (star_assoc _ _ _).symm)
  ·
   rw [if_pos (by simpa using h12)] at hln
   refine Cx.skip ?_
   refine Xx.tn (k10 _ _ _ _ ?_)
   refine Cx.seq (fun K14 k14 => ?_)
   refine Cx.region <| Lx.y (mv rfl) rfl <| Lx.y (asg rfl) rfl <| Lx.nil <| ?_
   refine Xx.tn (k14 _ _ _ _ ?_)
   refine Cx.ret ?_
   exact Xx.ret1 rfl rfl ⟨rfl, d2, c3, by first | (rfl) | rfl, rfl, p1, p2, hd2, fun hm => p4 (hM2 hm), fun hr => by rcases hR2 hr with z | z; exact .inl z; exact .inr (by omega)⟩ (Frag.le_refl _) (by unfold tree; rw [hpt, p2, hln]; exact (star_assoc _ _ _).symm)
end BtM
end Go.Proofs.YtdidpocakipinaaGreatDoor
namespace Go.Proofs.YtdidpocakipinaaGreatDoor
open Go.SL Go.RowKit
set_option maxRecDepth 100000
open Ke1 Ke3 Ke4 Ke5 Ke6 Ke7 Ke8 Ke9 KeA KeB KeC KeD KeE KeF KeG KeI RgA BtB BtC BtD BtE BtG BtH BtI BtF BtJ BtK BtL BtM BtX
namespace BtO
theorem sz110 : (Tryz.prog.info? 110).map (·.size) = some 1 := by kernel_rfl
theorem ti110 : TI Tryz.prog 110 [.pointer none] 1 8 := TI.of (by kernel_rfl) rfl rfl
set_option maxHeartbeats 4000000 in
theorem DelN_row (b i n c : Nat) (xs sp : List Value) (B : Frag) (hi : i < n) (hxl : xs.length = n) (hnc : n ≤ c) (hcl : (xs ++ sp).length = c) (hx1 : xs.all (·.oneCell') = true) (hbd : n ≤ 4611686018427387904) : Ct Tryz.prog 121 [.slice (some ⟨b, 0, none⟩) n c, i64 (i : Nat), i64 (i + 1 : Nat)] B (row b 110 (xs ++ sp)) (fun v B' H' => v = .slice (some ⟨b, 0, none⟩) (n - 1) c ∧ B' = B ∧ ∃ sp', H' = row b 110 ((xs.take i ++ xs.drop (i + 1)) ++ sp') ∧ ((xs.take i ++ xs.drop (i + 1)) ++ sp').length = c) := by
 have hcl2 := hcl
 rw [List.length_append] at hcl2
 have hT : (xs.take i).length = i := by rw [List.length_take]; omega
 have hD : (xs.drop (i + 1)).length = n - (i + 1) := by rw [List.length_drop]; omega
 have hD1 : (xs.drop (i + 1)).all (·.oneCell') = true := by rw [List.all_eq_true] at hx1 ⊢; exact fun v hv => hx1 v (List.mem_of_mem_drop hv)
 refine Ct.of_body Tryz.func121 rfl (nt := 33) rfl (by kernel_rfl) rfl ?_
 intro N0 w0 R
 refine Cx.seq (fun K1 k1 => ?_)
 refine Cx.region <| Lx.y (asg rfl) rfl <| Lx.nil <| ?_
 refine Xx.tn (k1 _ _ _ _ ?_)
 refine Cx.seq (fun K2 k2 => ?_)
 refine Cx.region <| Lx.y (mv rfl) rfl <| Lx.y (mv rfl) rfl <| Lx.y (mv rfl) rfl <| Lx.y (mv rfl) rfl <| Lx.y (lenV (ty' := 0) U111 rfl) rfl <| Lx.y (sl4V U111 sz110 rfl rfl rfl rfl (by omega) (by omega) (by omega) (by omega)) rfl <| Lx.nil <| ?_
 refine Xx.tn (k2 _ _ _ _ ?_)
 refine Cx.seq (fun K3 k3 => ?_)
 refine Cx.seq (fun K4 k4 => ?_)
 refine Cx.region <| Lx.y (mv rfl) rfl <| Lx.y (mv rfl) rfl <| Lx.y (eqI rfl rfl) rfl <| Lx.nil <| ?_
 refine Xx.tn (k4 _ _ _ _ ?_)
 refine Cx.condD rfl (fun h5 => ?_) (fun h5 => ?_)
 ·
  exact absurd h5 (by omega)
 ·
  refine Cx.skip ?_
  refine Xx.tn (k3 _ _ _ _ ?_)
  refine Cx.seq (fun K6 k6 => ?_)
  refine Cx.region <| Lx.y (mv rfl) rfl <| Lx.y (lenV (ty' := 0) U111 rfl) rfl <| Lx.y (asg rfl) rfl <| Lx.nil <| ?_
  refine Xx.tn (k6 _ _ _ _ ?_)
  refine Cx.seq (fun K7 k7 => ?_)
  refine Cx.drawn (by kernel_rfl) ?_
  refine Dx.p (i := 0) rfl (by kernel_rfl) (mv rfl) rfl ?_
  refine Dx.p (i := 1) rfl (by kernel_rfl) (mv rfl) rfl ?_
  refine Dx.p (i := 2) rfl (by kernel_rfl) (sl2V U111 sz110 rfl rfl (Int.toNat_natCast _) (by omega) (by omega)) rfl ?_
  refine Dx.p (i := 3) rfl (by kernel_rfl) (mv rfl) rfl ?_
  refine Dx.p (i := 4) rfl (by kernel_rfl) (mv rfl) rfl ?_
  refine Dx.p (i := 5) rfl (by kernel_rfl) (sl1V U111 sz110 rfl rfl (Int.toNat_natCast _) (by omega) (by omega)) rfl ?_
  refine Dx.one (i := 6) (by kernel_rfl) ?_
  refine Dstep.o (i := 6) rfl (apR (cs' := (xs.take i ++ xs.drop (i + 1)) ++ (xs ++ sp).drop (i + (n - (i + 1)))) U111 U111 ti110 rfl rfl (by have := SrcH.sub (N0 := N0) (B := B) (H := row b 110 (xs ++ sp) * R) (c := c) (j := i + 1) (size := 1) (b := b) (by omega : xs.length = n * 1) (by omega) hnc; rw [Nat.mul_one] at this; exact this) (by omega) hD1 (by omega) (by rw [hD, List.length_append]; omega) (by rw [hD, List.take_append_of_le_length (by omega), Nat.zero_add, Nat.mul_one])) rfl (fun v B' H' hΦ hB => ?_)
  obtain ⟨rfl, hBB, rfl⟩ := hΦ
  subst hBB
  rename Frag => B
  clear hB
  rw [show i + (n - (i + 1)) = n - 1 by omega]
  refine ⟨JOk.top, ?_⟩
  refine Dx.p (i := 7) rfl (by kernel_rfl) (asg rfl) rfl ?_
  refine Dx.done (by kernel_rfl) ?_
  refine Xx.tn (k7 _ _ _ _ ?_)
  refine Cx.seq (fun K8 k8 => ?_)
  refine Cx.region <| Lx.y (mv rfl) rfl <| Lx.y (mv rfl) rfl <| Lx.y (lenV (ty' := 0) U111 rfl) rfl <| Lx.y (mv rfl) rfl <| Lx.y (sl3A (n - 1) n U111 sz110 rfl rfl rfl rfl rfl (by omega) (by omega) (by omega)) rfl <| ?_
  refine Lx.o0 (clO U111 ti110 rfl (by omega) rfl (by simp only [List.length_append, List.length_drop, hT]; omega)) (fun v B' H' hΦ hB => ?_)
  obtain ⟨rfl, hBB, zz, hzl, rfl⟩ := hΦ
  subst hBB
  rename Frag => B
  clear hB
  refine Lx.nil ?_
  refine Xx.tn (k8 _ _ _ _ ?_)
  refine Cx.seq (fun K9 k9 => ?_)
  refine Cx.region <| Lx.y (mv rfl) rfl <| Lx.y (asg rfl) rfl <| Lx.nil <| ?_
  refine Xx.tn (k9 _ _ _ _ ?_)
  refine Cx.ret ?_
  have e1 : ((xs.take i ++ xs.drop (i + 1)) ++ (xs ++ sp).drop (n - 1)).take (0 + (n - 1) * 1) = (xs.take i ++ xs.drop (i + 1)) := by rw [List.take_append_of_le_length (by rw [List.length_append, hT, hD]; omega), List.take_of_length_le (by rw [List.length_append, hT, hD]; omega)]
  rw [e1, List.append_assoc]
  exact Xx.ret1 rfl rfl ⟨rfl, rfl, _, rfl, by simp only [List.length_append, List.length_drop, hT, hD, hzl]; omega⟩ (Frag.le_refl _) rfl
theorem DelN_ct (A : Option Addr) (i n c : Nat) (xs : List Value) (B : Frag) (hi : i < n) (hxl : xs.length = n) (hx1 : xs.all (·.oneCell') = true) (hbd : n ≤ 4611686018427387904) : Ct Tryz.prog 121 [.slice A n c, i64 (i : Nat), i64 (i + 1 : Nat)] B (sbuf 110 1 A n c xs) (fun v B' H' => v = .slice A (n - 1) c ∧ B' = B ∧ H' = sbuf 110 1 A (n - 1) c (xs.take i ++ xs.drop (i + 1))) := by
  have h0 := Ct.of_sbuf (P := Tryz.prog) (f := 121) (args := [.slice A n c, i64 (i : Nat), i64 (i + 1 : Nat)]) (B := B) (et := 110) (size := 1) (n := n) (c := c) (A := A) (xs := xs) (q := 1) (Φ := fun v B' H' => v = .slice A (n - 1) c ∧ B' = B ∧ H' = sbuf 110 1 A (n - 1) c (xs.take i ++ xs.drop (i + 1))) (by omega) ?_ (Go.SL.enters_of Tryz.func121 rfl (by kernel_rfl))
  · rw [star_one] at h0; exact h0
  · intro b sp hA hx hnc hcl
    subst hA
    rw [one_star]
    have hm := DelN_row b i n c xs sp B hi hxl hnc (by omega) hx1 hbd
    refine ⟨hm.1, fun N0 w R s => (hm.2 N0 w R s).mono ?_⟩
    rintro x w' ⟨v, B', _, hx', ⟨rfl, rfl, sp', rfl, hl⟩, hBB, hb, s'⟩
    refine ⟨_, _, _, hx', ⟨rfl, rfl, rfl⟩, hBB, hb, row_sbuf ?_ (by omega) (by omega) s'⟩
    simp only [List.length_append, List.length_take, List.length_drop, hxl]; omega
end BtO
end Go.Proofs.YtdidpocakipinaaGreatDoor
namespace Go.Proofs.YtdidpocakipinaaGreatDoor
open Go.SL Go.RowKit
set_option maxRecDepth 100000
open Ke1 Ke3 Ke4 Ke5 Ke6 Ke7 Ke8 Ke9 KeA KeB KeC KeD KeE KeF KeG KeI RgA BtB BtC BtD BtE BtG BtH BtI BtF BtJ BtX
namespace BtY
def DropR (N d : Nat) (c : C) (k : Str8) (c' : C) (r : Bool) : Prop := c'.b = c.b ∧ Ok N (d + 1) c' ∧ Mn (d + 1) c' ∧ io (d + 1) c' = delP k (io (d + 1) c) ∧ r = decide (k ∈ (io (d + 1) c).map (·.1)) ∧ c.ks.length ≤ c'.ks.length + 1 ∧ c'.ks.length ≤ c.ks.length
def LastR (N d : Nat) (c c' : C) (k v : Str8) : Prop := c'.b = c.b ∧ Ok N (d + 1) c' ∧ Mn (d + 1) c' ∧ io (d + 1) c = io (d + 1) c' ++ [(k, v)] ∧ c.ks.length ≤ c'.ks.length + 1 ∧ c'.ks.length ≤ c.ks.length
theorem ord_ne {a b : List (Str8 × Str8)} {k v : Str8} (h : Ord (a ++ (k, v) :: b)) : (∀ p ∈ a, p.1 ≠ k) ∧ (∀ p ∈ b, p.1 ≠ k) := by
  refine ⟨fun p hp e => ?_, fun p hp e => ?_⟩
  · have := Ord.cross h p hp (k, v) (by simp)
    rw [e, bless_irrefl] at this; cases this
  · have := (List.pairwise_cons.1 (Ord.right h)).1 p hp
    rw [e, bless_irrefl] at this; cases this
theorem delP_mid {a b : List (Str8 × Str8)} {k v : Str8} (h : Ord (a ++ (k, v) :: b)) : delP k (a ++ (k, v) :: b) = a ++ b := by
  obtain ⟨h1, h2⟩ := ord_ne h
  rw [delP_app, delP_same h1]
  show a ++ List.filter _ ((k, v) :: b) = _
  rw [List.filter_cons_of_neg (by simp)]
  congr 1
  exact delP_same h2
theorem leaf_drop {N d : Nat} {c c' : C} {k : Str8} (hok : Ok N (d + 1) c) (hmn : Mn (d + 1) c) (ho : Ord (io (d + 1) c)) (h0 : c.cs = []) (hk : k ∈ c.ks) (hb : c'.b = c.b) (e1 : c'.ks = c.ks.take (lb c.ks k) ++ c.ks.drop (lb c.ks k + 1)) (e2 : c'.vs = c.vs.take (lb c.ks k) ++ c.vs.drop (lb c.ks k + 1)) (e3 : c'.cs = []) : DropR N d c k c' true := by
  have hs := srt_of hok ho
  obtain ⟨hl, hat⟩ := lb_mem hs hk
  have hv := hok.1
  have hN := hok.2.1
  have hlv : lb c.ks k < c.vs.length := by omega
  have f0 : io (d + 1) c = (c.ks.take (lb c.ks k)).zip (c.vs.take (lb c.ks k)) ++ (k, c.vs[lb c.ks k]) :: (c.ks.drop (lb c.ks k + 1)).zip (c.vs.drop (lb c.ks k + 1)) := by
    show ioL _ _ _ c.cs = _
    rw [h0, io_leaf _ _ _ hv, zip_cut (lb c.ks k) hv, List.drop_eq_getElem_cons hl, List.drop_eq_getElem_cons hlv, hat]; rfl
  have l1 : c'.ks.length = c.ks.length - 1 := by rw [e1]; simp; omega
  have l2 : c'.vs.length = c.ks.length - 1 := by rw [e2]; simp; omega
  have f1 : io (d + 1) c' = (c.ks.take (lb c.ks k)).zip (c.vs.take (lb c.ks k)) ++ (c.ks.drop (lb c.ks k + 1)).zip (c.vs.drop (lb c.ks k + 1)) := by
    show ioL _ _ _ c'.cs = _
    rw [e3, io_leaf _ _ _ (by omega), e1, e2, List.zip_append (by simp; omega)]
  refine ⟨hb, ⟨by omega, by omega, .inl e3, fun p hp => by rw [e3] at hp; cases hp⟩, ⟨⟨fun _ => hmn.1.1 h0, fun _ => e3⟩, fun p hp => by rw [e3] at hp; cases hp⟩, ?_, ?_, by omega, by omega⟩
  · rw [f1, f0, delP_mid (by rw [← f0]; exact ho)]
  · rw [f0]; exact (decide_eq_true (by simp)).symm
theorem leaf_keep {N d : Nat} {c : C} {k : Str8} (hok : Ok N (d + 1) c) (hmn : Mn (d + 1) c) (h0 : c.cs = []) (hk : k ∉ c.ks) : DropR N d c k c false := by
  have f0 : io (d + 1) c = c.ks.zip c.vs := by show ioL _ _ _ c.cs = _; rw [h0, io_leaf _ _ _ hok.1]
  refine ⟨rfl, hok, hmn, ?_, ?_, by omega, by omega⟩
  · rw [f0, delP_same]
    intro p hp e
    exact hk (by rw [← e]; exact (List.of_mem_zip (show (p.1, p.2) ∈ _ from hp)).1)
  · rw [f0, zip_keys hok.1]; exact (decide_eq_false hk).symm
theorem kid_drop {N d : Nat} {c kid x : C} {k : Str8} {r : Bool} (hok : Ok N (d + 2) c) (hmn : Mn (d + 2) c) (ho : Ord (io (d + 2) c)) (hk : k ∉ c.ks) (hi : lb c.ks k < c.cs.length) (hkr : DropR 7 d c.cs[lb c.ks k] k kid r) (e1 : x.ks = c.ks) (e2 : x.vs = c.vs) (e3 : x.cs = c.cs.set (lb c.ks k) kid) :
    Ok N (d + 2) x ∧ MnX (lb c.ks k) (d + 2) x ∧ io (d + 2) x = delP k (io (d + 2) c) ∧ r = decide (k ∈ (io (d + 2) c).map (·.1)) := by
  have hc : c.cs.length = c.ks.length + 1 := by rcases hok.2.2.1 with z | z; rw [z] at hi; simp at hi; exact z
  obtain ⟨e, hP, hQ⟩ := around hok ho hk hi hc
  obtain ⟨k0, k1, k2, k3, k4, k5, k6⟩ := hkr
  have h3 := hmn.2 _ (List.getElem_mem hi)
  refine ⟨⟨by rw [e1, e2]; exact hok.1, by rw [e1]; exact hok.2.1, .inr (by rw [e3, e1, List.length_set]; exact hc), fun p hp => ?_⟩, MnX.set hmn hi e3 k2 (by omega), ?_, ?_⟩
  · rw [e3] at hp
    rcases List.mem_or_eq_of_mem_set hp with h | rfl
    · exact hok.2.2.2 p h
    · exact k1
  · have f2 := io_split (io (d + 1)) (lb c.ks k) c.ks c.vs (c.cs.set (lb c.ks k) kid) (by rw [List.length_set]; exact hi) hok.1 (by rw [List.length_set]; exact hc)
    show ioL (io (d + 1)) x.ks x.vs x.cs = _
    rw [e1, e2, e3, f2, e, delP_app, delP_app, delP_same (fun p hp e => by have := hP p hp; rw [e, bless_irrefl] at this; cases this), delP_same (l := posL _ _ _ _) (fun p hp e => by have := hQ p hp; rw [e, bless_irrefl] at this; cases this), List.getElem_set_self, k3, List.take_set_of_le (by omega), List.drop_set_of_lt (by omega)]
  · rw [k4, e]
    refine decide_eq_decide.2 ⟨fun h => ?_, fun h => ?_⟩
    · rw [List.map_append, List.map_append]; simp [h]
    · rw [List.map_append, List.map_append] at h
      simp only [List.mem_append] at h
      rcases h with h | h | h
      · obtain ⟨p, hp, rfl⟩ := List.mem_map.1 h
        have := hP p hp; rw [bless_irrefl] at this; cases this
      · exact h
      · obtain ⟨p, hp, rfl⟩ := List.mem_map.1 h
        have := hQ p hp; rw [bless_irrefl] at this; cases this
theorem here_drop {N d : Nat} {c kid x : C} {k k2 v2 : Str8} (hok : Ok N (d + 2) c) (hmn : Mn (d + 2) c) (ho : Ord (io (d + 2) c)) (hk : k ∈ c.ks) (hi : lb c.ks k < c.cs.length) (hkr : LastR 7 d c.cs[lb c.ks k] kid k2 v2) (e1 : x.ks = c.ks.set (lb c.ks k) k2) (e2 : x.vs = c.vs.set (lb c.ks k) v2) (e3 : x.cs = c.cs.set (lb c.ks k) kid) :
    Ok N (d + 2) x ∧ MnX (lb c.ks k) (d + 2) x ∧ io (d + 2) x = delP k (io (d + 2) c) ∧ true = decide (k ∈ (io (d + 2) c).map (·.1)) := by
  have hc : c.cs.length = c.ks.length + 1 := by rcases hok.2.2.1 with z | z; rw [z] at hi; simp at hi; exact z
  have hv := hok.1
  obtain ⟨hl, hat⟩ := lb_mem (srt_of hok ho) hk
  obtain ⟨k0, k1, k2', k3, k5, k6⟩ := hkr
  have h3 := hmn.2 _ (List.getElem_mem hi)
  have f0 := io_split (io (d + 1)) (lb c.ks k) c.ks c.vs c.cs hi hv hc
  rw [pos_first (io (d + 1)) hl (by omega) (by omega), hat, k3] at f0
  have f1 := io_split (io (d + 1)) (lb c.ks k) (c.ks.set (lb c.ks k) k2) (c.vs.set (lb c.ks k) v2) (c.cs.set (lb c.ks k) kid) (by rw [List.length_set]; exact hi) (by simp; exact hv) (by simp; exact hc)
  rw [pos_first (io (d + 1)) (by rw [List.length_set]; exact hl) (by rw [List.length_set]; omega) (by rw [List.length_set]; omega), List.take_set_of_le (by omega), List.take_set_of_le (by omega), List.take_set_of_le (by omega), List.drop_set_of_lt (by omega), List.drop_set_of_lt (by omega), List.drop_set_of_lt (by omega), List.getElem_set_self, List.getElem_set_self, List.getElem_set_self, List.getElem_set_ne (by omega)] at f1
  have f2 : io (d + 2) c = ioL (io (d + 1)) c.ks c.vs c.cs := rfl
  refine ⟨⟨by rw [e1, e2]; simp; exact hv, by rw [e1]; simp; exact hok.2.1, .inr (by rw [e3, e1]; simp; exact hc), fun p hp => ?_⟩, MnX.set hmn hi e3 k2' (by omega), ?_, ?_⟩
  · rw [e3] at hp
    rcases List.mem_or_eq_of_mem_set hp with h | rfl
    · exact hok.2.2.2 p h
    · exact k1
  · show ioL (io (d + 1)) x.ks x.vs x.cs = _
    rw [f2, f0] at ho
    rw [f2, e1, e2, e3, f1, f0]
    rw [← List.append_assoc] at ho
    have e9 := delP_mid ho
    rw [List.append_assoc] at e9
    rw [e9]; simp
  · rw [f2, f0]; exact (decide_eq_true (by simp)).symm
theorem leaf_last {N d : Nat} {c c' : C} (hok : Ok N (d + 1) c) (hmn : Mn (d + 1) c) (h0 : c.cs = []) (hp : 0 < c.ks.length) (hb : c'.b = c.b) (e1 : c'.ks = c.ks.take (c.ks.length - 1)) (e2 : c'.vs = c.vs.take (c.ks.length - 1)) (e3 : c'.cs = []) : LastR N d c c' (c.ks.getD (c.ks.length - 1) []) (c.vs.getD (c.ks.length - 1) []) := by
  have hv := hok.1
  have hN := hok.2.1
  have l1 : c'.ks.length = c.ks.length - 1 := by rw [e1]; simp
  have l2 : c'.vs.length = c.ks.length - 1 := by rw [e2]; simp; omega
  refine ⟨hb, ⟨by omega, by omega, .inl e3, fun p hp => by rw [e3] at hp; cases hp⟩, ⟨⟨fun _ => hmn.1.1 h0, fun _ => e3⟩, fun p hp => by rw [e3] at hp; cases hp⟩, ?_, by omega, by omega⟩
  show ioL _ _ _ c.cs = ioL _ _ _ c'.cs ++ _
  have a1 := last_cut c.ks hp
  have a2 := last_cut c.vs (by omega)
  rw [hv] at a2
  rw [h0, e3, io_leaf _ _ _ hv, io_leaf _ _ _ (by omega), e1, e2]
  conv => lhs; rw [a1, a2]
  rw [List.zip_append (by simp; omega)]; rfl
theorem kid_last {N d : Nat} {c kid x : C} {k2 v2 : Str8} (hok : Ok N (d + 2) c) (hmn : Mn (d + 2) c) (hi : c.ks.length < c.cs.length) (hkr : LastR 7 d c.cs[c.ks.length] kid k2 v2) (e1 : x.ks = c.ks) (e2 : x.vs = c.vs) (e3 : x.cs = c.cs.set c.ks.length kid) :
    Ok N (d + 2) x ∧ MnX c.ks.length (d + 2) x ∧ io (d + 2) c = io (d + 2) x ++ [(k2, v2)] := by
  have hc : c.cs.length = c.ks.length + 1 := by rcases hok.2.2.1 with z | z; rw [z] at hi; simp at hi; exact z
  have hv := hok.1
  obtain ⟨k0, k1, k2', k3, k5, k6⟩ := hkr
  have h3 := hmn.2 _ (List.getElem_mem hi)
  have hp : ∀ (vs : List Str8) (cs : List C), posL (io (d + 1)) (c.ks.drop c.ks.length) vs cs = [] := fun vs cs => by rw [List.drop_length]; cases vs <;> rfl
  have f0 := io_split (io (d + 1)) c.ks.length c.ks c.vs c.cs hi hv hc
  have f1 := io_split (io (d + 1)) c.ks.length c.ks c.vs (c.cs.set c.ks.length kid) (by rw [List.length_set]; exact hi) hv (by rw [List.length_set]; exact hc)
  rw [hp, k3] at f0
  rw [hp, List.getElem_set_self, List.take_set_of_le (by omega)] at f1
  refine ⟨⟨by rw [e1, e2]; exact hv, by rw [e1]; exact hok.2.1, .inr (by rw [e3, e1, List.length_set]; exact hc), fun p hp => ?_⟩, MnX.set hmn hi e3 k2' (by omega), ?_⟩
  · rw [e3] at hp
    rcases List.mem_or_eq_of_mem_set hp with h | rfl
    · exact hok.2.2.2 p h
    · exact k1
  · show ioL (io (d + 1)) c.ks c.vs c.cs = ioL (io (d + 1)) x.ks x.vs x.cs ++ _
    rw [e1, e2, e3, f0, f1]; simp
theorem DropR.of {N d : Nat} {c x c' : C} {k : Str8} {r : Bool} (hb : x.b = c.b) (hx : io (d + 2) x = delP k (io (d + 2) c) ∧ r = decide (k ∈ (io (d + 2) c).map (·.1))) (hl : x.ks.length = c.ks.length) (hm : Mended N d x c') : DropR N (d + 1) c k c' r :=
  ⟨hm.1.trans hb, hm.2.1, hm.2.2.1, hm.2.2.2.1.trans hx.1, hx.2, by rw [← hl]; exact hm.2.2.2.2.1, by rw [← hl]; exact hm.2.2.2.2.2⟩
theorem LastR.of {N d : Nat} {c x c' : C} {k v : Str8} (hb : x.b = c.b) (hx : io (d + 2) c = io (d + 2) x ++ [(k, v)]) (hl : x.ks.length = c.ks.length) (hm : Mended N d x c') : LastR N (d + 1) c c' k v :=
  ⟨hm.1.trans hb, hm.2.1, hm.2.2.1, by rw [hm.2.2.2.1]; exact hx, by rw [← hl]; exact hm.2.2.2.2.1, by rw [← hl]; exact hm.2.2.2.2.2⟩
end BtY
end Go.Proofs.YtdidpocakipinaaGreatDoor
namespace Go.Proofs.YtdidpocakipinaaGreatDoor
open Go.SL Go.RowKit
set_option maxRecDepth 100000
open Ke1 Ke3 Ke4 Ke5 Ke6 Ke7 Ke8 Ke9 KeA KeB KeC KeD KeE KeF KeG KeI RgA BtB BtC BtD BtE BtG BtX BtH BtI BtF BtJ BtY
namespace BtZ
theorem sz9 : (Tryz.prog.info? 9).map (·.size) = some 1 := by kernel_rfl
theorem sz23 : (Tryz.prog.info? 23).map (·.size) = some 1 := by kernel_rfl
theorem sz110 : (Tryz.prog.info? 110).map (·.size) = some 1 := by kernel_rfl
theorem sz111 : (Tryz.prog.info? 111).map (·.size) = some 1 := by kernel_rfl
theorem ti9 : TI Tryz.prog 9 [str []] 1 16 := TI.of (by kernel_rfl) rfl rfl
theorem ti110 : TI Tryz.prog 110 [.pointer none] 1 8 := TI.of (by kernel_rfl) rfl rfl
theorem fo113_0 : FO Tryz.prog 113 0 0 1 false := FO.of U113 rfl rfl (by kernel_rfl) U23 rfl rfl
theorem fo113_1 : FO Tryz.prog 113 1 1 1 false := FO.of U113 rfl rfl (by kernel_rfl) U23 rfl rfl
theorem fo113_2 : FO Tryz.prog 113 2 2 1 false := FO.of U113 rfl rfl (by kernel_rfl) U111 rfl rfl
set_option maxHeartbeats 4000000 in
theorem fl_raw (b bl bk n nl nk p ql qk i : Nat) (Ak Av Ac Al Bl Cl Am Bm Cm : Option Addr) (ck cv cc cl1 cl2 cl3 cm1 cm2 cm3 : Nat) (ks vs lk lv kk kv : List Str8) (ps lp kp : List Value) (K W Kx Wx : Str8) (B : Frag) (hn : n ≤ 100) (hp : p = n + 1) (hi1 : 1 ≤ i) (hi : i < p) (hks : ks.length = n) (hvs : vs.length = n) (hpl : ps.length = p) (hnl : 4 ≤ nl ∧ nl ≤ 7) (hnk : nk ≤ 7) (hlk : lk.length = nl) (hlv : lv.length = nl) (hkk : kk.length = nk) (hkv : kv.length = nk) (hql : ql = 0 ∨ ql = nl + 1) (hlp : lp.length = ql) (hkp : kp.length = qk) (hqk : qk ≤ 8) (hpl1 : (ps.drop (0 + (i - 1) * 1)).take 1 = [.pointer (some ⟨bl, 0, none⟩)]) (hpk1 : (ps.drop (0 + i * 1)).take 1 = [.pointer (some ⟨bk, 0, none⟩)]) (hK : ((ks.map str).drop (0 + (i - 1) * 1)).take 1 = [str K]) (hW : ((vs.map str).drop (0 + (i - 1) * 1)).take 1 = [str W]) (hK1 : ((lk.map str).drop (0 + (nl - 1) * 1)).take 1 = [str Kx]) (hW1 : ((lv.map str).drop (0 + (nl - 1) * 1)).take 1 = [str Wx]) (g : Nat) (hg : ql ≠ 0 → lp.drop nl = [.pointer (some ⟨g, 0, none⟩)]) (hpa : ps.all (·.oneCell') = true) (hla : lp.all (·.oneCell') = true) (hka : kp.all (·.oneCell') = true) : Ct Tryz.prog 102 [.pointer (some ⟨b, 0, none⟩), i64 i] B (row b 113 [.slice Ak (n) ck, .slice Av (n) cv, .slice Ac (p) cc] * (sbuf 9 1 Ak (n) ck (ks.map str) * (sbuf 9 1 Av (n) cv (vs.map str) * (sbuf 110 1 Ac (p) cc (ps) * (row bl 113 [.slice Al (nl) cl1, .slice Bl (nl) cl2, .slice Cl (ql) cl3] * (sbuf 9 1 Al (nl) cl1 (lk.map str) * (sbuf 9 1 Bl (nl) cl2 (lv.map str) * (sbuf 110 1 Cl (ql) cl3 (lp) * (row bk 113 [.slice Am (nk) cm1, .slice Bm (nk) cm2, .slice Cm (qk) cm3] * (sbuf 9 1 Am (nk) cm1 (kk.map str) * (sbuf 9 1 Bm (nk) cm2 (kv.map str) * (sbuf 110 1 Cm (qk) cm3 (kp))))))))))))) (fun v B' H' => v = .tuple #[] ∧ B' = B ∧ ∃ Am9 cm9 Bm9 cn9 Cm9 co9, H' = row b 113 [.slice Ak (n) ck, .slice Av (n) cv, .slice Ac (p) cc] * (sbuf 9 1 Ak (n) ck ((ks.set (i - 1) Kx).map str) * (sbuf 9 1 Av (n) cv ((vs.set (i - 1) Wx).map str) * (sbuf 110 1 Ac (p) cc (ps) * (row bl 113 [.slice Al (nl - 1) cl1, .slice Bl (nl - 1) cl2, .slice Cl (min ql nl) cl3] * (sbuf 9 1 Al (nl - 1) cl1 ((lk.map str).take (nl - 1)) * (sbuf 9 1 Bl (nl - 1) cl2 ((lv.map str).take (nl - 1)) * (sbuf 110 1 Cl (min ql nl) cl3 (lp.take nl) * (row bk 113 [.slice Am9 (nk + 1) cm9, .slice Bm9 (nk + 1) cn9, .slice Cm9 (qk + (ql - nl)) co9] * (sbuf 9 1 Am9 (nk + 1) cm9 (str K :: kk.map str) * (sbuf 9 1 Bm9 (nk + 1) cn9 (str W :: kv.map str) * (sbuf 110 1 Cm9 (qk + (ql - nl)) co9 (lp.drop nl ++ kp))))))))))))) := by
 refine Ct.of_body Tryz.func102 rfl (nt := 141) rfl (by kernel_rfl) rfl ?_
 intro N0 w0 R
 simp only [star_assoc]
 refine Xx.addrT Ac (by omega) (fun bC hAc _ _ => ?_)
 subst hAc
 refine Xx.addrT Ak (by omega) (fun bK hAk _ _ => ?_)
 subst hAk
 refine Xx.addrT Av (by omega) (fun bV hAv _ _ => ?_)
 subst hAv
 refine Xx.addrT Al (by omega) (fun bK2 hAl _ hcl1 => ?_)
 subst hAl
 refine Xx.addrT Bl (by omega) (fun bV2 hBl _ hcl2 => ?_)
 subst hBl
 refine Cx.seq (fun K1 k1 => ?_)
 refine Cx.drawn (by kernel_rfl) ?_
 refine Dx.p (i := 0) rfl (by kernel_rfl) (mv rfl) rfl ?_
 refine Dx.p (i := 1) rfl (by kernel_rfl) (nilc rfl) rfl ?_
 refine Dx.p (i := 2) rfl (by kernel_rfl) (fa' fo113_2 rfl) rfl ?_
 refine Dx.r (i := 3) rfl (by kernel_rfl) (ld U111 rfl rfl rfl) rfl ?_
 refine Dx.p (i := 4) rfl (by kernel_rfl) (mv rfl) rfl ?_
 refine Dx.p (i := 5) rfl (by kernel_rfl) (Yx.val (sub rfl rfl (show IntKind.i64.wrap _ = ((i - 1 : Nat) : Int) by rw [wrap64 (by omega) (by omega)]; omega)) (show _ = i64 ((i - 1 : Nat) : Int) from rfl)) rfl ?_
 refine Dx.p (i := 6) rfl (by kernel_rfl) (ia U111 sz110 rfl rfl (by first | exact Int.toNat_natCast _ | rfl) (by omega) (by omega)) rfl ?_
 refine Dx.r (i := 7) rfl (by kernel_rfl) (ldC U110 rfl rfl (Cells.buf (m := 1) hpl1 (by omega))) rfl ?_
 refine Dx.p (i := 8) rfl (by kernel_rfl) (mv rfl) rfl ?_
 refine Dx.p (i := 9) rfl (by kernel_rfl) (nilc rfl) rfl ?_
 refine Dx.p (i := 10) rfl (by kernel_rfl) (fa' fo113_2 rfl) rfl ?_
 refine Dx.r (i := 11) rfl (by kernel_rfl) (ld U111 rfl rfl rfl) rfl ?_
 refine Dx.p (i := 12) rfl (by kernel_rfl) (mv rfl) rfl ?_
 refine Dx.p (i := 13) rfl (by kernel_rfl) (ia U111 sz110 rfl rfl (by first | exact Int.toNat_natCast _ | rfl) (by omega) (by omega)) rfl ?_
 refine Dx.r (i := 14) rfl (by kernel_rfl) (ldC U110 rfl rfl (Cells.buf (m := 1) hpk1 (by omega))) rfl ?_
 refine Dx.p (i := 15) rfl (by kernel_rfl) (asg rfl) rfl ?_
 refine Dx.p (i := 16) rfl (by kernel_rfl) (asg rfl) rfl ?_
 refine Dx.done (by kernel_rfl) ?_
 refine Xx.tn (k1 _ _ _ _ ?_)
 refine Cx.seq (fun K2 k2 => ?_)
 refine Cx.region <| Lx.y (mv rfl) rfl <| Lx.y (nilc rfl) rfl <| Lx.y (fa' fo113_0 rfl) rfl <| Lx.y (ld U23 rfl rfl rfl) rfl <| Lx.y (lenV (ty' := 0) U23 rfl) rfl <| Lx.y (Yx.val (sub rfl rfl (show IntKind.i64.wrap _ = ((nl - 1 : Nat) : Int) by rw [wrap64 (by omega) (by omega)]; omega)) (show _ = i64 ((nl - 1 : Nat) : Int) from rfl)) rfl <| Lx.y (asg rfl) rfl <| Lx.nil <| ?_
 refine Xx.tn (k2 _ _ _ _ ?_)
 refine Cx.seq (fun K3 k3 => ?_)
 refine Cx.drawn (by kernel_rfl) ?_
 refine Dx.p (i := 0) rfl (by kernel_rfl) (mv rfl) rfl ?_
 refine Dx.p (i := 1) rfl (by kernel_rfl) (mv rfl) rfl ?_
 refine Dx.p (i := 2) rfl (by kernel_rfl) (mv rfl) rfl ?_
 refine Dx.p (i := 3) rfl (by kernel_rfl) (nilc rfl) rfl ?_
 refine Dx.p (i := 4) rfl (by kernel_rfl) (fa' fo113_0 rfl) rfl ?_
 refine Dx.r (i := 5) rfl (by kernel_rfl) (ld U23 rfl rfl rfl) rfl ?_
 refine Dx.p (i := 6) rfl (by kernel_rfl) (mv rfl) rfl ?_
 refine Dx.p (i := 7) rfl (by kernel_rfl) (nilc rfl) rfl ?_
 refine Dx.p (i := 8) rfl (by kernel_rfl) (fa' fo113_0 rfl) rfl ?_
 refine Dx.r (i := 9) rfl (by kernel_rfl) (ld U23 rfl rfl rfl) rfl ?_
 refine Dx.p (i := 10) rfl (by kernel_rfl) (mv rfl) rfl ?_
 refine Dx.p (i := 11) rfl (by kernel_rfl) (Yx.val (sub rfl rfl (show IntKind.i64.wrap _ = ((i - 1 : Nat) : Int) by rw [wrap64 (by omega) (by omega)]; omega)) (show _ = i64 ((i - 1 : Nat) : Int) from rfl)) rfl ?_
 refine Dx.p (i := 12) rfl (by kernel_rfl) (ia U23 sz9 rfl rfl (by first | exact Int.toNat_natCast _ | rfl) (by omega) (by omega)) rfl ?_
 refine Dx.r (i := 13) rfl (by kernel_rfl) (ldC U9 rfl rfl (Cells.buf (m := 1) hK (by rw [List.length_map]; omega))) rfl ?_
 refine Dx.p (i := 16) rfl (by kernel_rfl) (mv rfl) rfl ?_
 refine Dx.p (i := 17) rfl (by kernel_rfl) (nilc rfl) rfl ?_
 refine Dx.p (i := 18) rfl (by kernel_rfl) (fa' fo113_1 rfl) rfl ?_
 refine Dx.r (i := 19) rfl (by kernel_rfl) (ld U23 rfl rfl rfl) rfl ?_
 refine Dx.p (i := 20) rfl (by kernel_rfl) (mv rfl) rfl ?_
 refine Dx.p (i := 21) rfl (by kernel_rfl) (nilc rfl) rfl ?_
 refine Dx.p (i := 22) rfl (by kernel_rfl) (fa' fo113_1 rfl) rfl ?_
 refine Dx.r (i := 23) rfl (by kernel_rfl) (ld U23 rfl rfl rfl) rfl ?_
 refine Dx.p (i := 24) rfl (by kernel_rfl) (mv rfl) rfl ?_
 refine Dx.p (i := 25) rfl (by kernel_rfl) (Yx.val (sub rfl rfl (show IntKind.i64.wrap _ = ((i - 1 : Nat) : Int) by rw [wrap64 (by omega) (by omega)]; omega)) (show _ = i64 ((i - 1 : Nat) : Int) from rfl)) rfl ?_
 refine Dx.p (i := 26) rfl (by kernel_rfl) (ia U23 sz9 rfl rfl (by first | exact Int.toNat_natCast _ | rfl) (by omega) (by omega)) rfl ?_
 refine Dx.r (i := 27) rfl (by kernel_rfl) (ldC U9 rfl rfl (Cells.buf (m := 1) hW (by rw [List.length_map]; omega))) rfl ?_
 refine Dx.two (i := 14) (j := 28) (by kernel_rfl) ?_ ?_
 ·
  refine Dstep.o (i := 14) rfl (bsl1 U23 ti9 rfl rfl rfl (by decide)) rfl (fun v B' H' hΦ hB => ?_)
  obtain ⟨b1, rfl, rfl, rfl⟩ := hΦ; clear hB
  refine ⟨JOk.yes (JOk.yes (JOk.yes (JOk.edge (JOk.yes (JOk.yes (JOk.top) (ld U23 rfl rfl rfl)) (ld U23 rfl rfl rfl)) (by kernel_rfl)) (ld U23 rfl rfl rfl)) (ld U23 rfl rfl rfl)) (ldC U9 rfl rfl (Cells.buf (m := 1) hW (by rw [List.length_map]; omega))), ?_⟩
  refine Dx.two (i := 15) (j := 28) (by kernel_rfl) ?_ ?_
  ·
   refine Dstep.o (i := 15) rfl (Ox.call rfl rfl rfl (InsS_ct Am 0 nk cm1 (kk.map str) b1 9 [str K] _ (by omega) (by rw [List.length_map]; omega) (strs_all _) rfl rfl (by omega)) (pickSB _ _)) rfl (fun v B' H' hΦ hB => ?_)
   obtain ⟨_, rfl, hΦ⟩ := hΦ
   obtain ⟨Am9, cm9, rfl, hBB, rfl, ⟨_, hAcm9⟩, hcm9⟩ := hΦ
   subst hBB
   rename Frag => B
   clear hB
   refine ⟨JOk.yes (JOk.yes (JOk.yes (JOk.yes (JOk.yes (JOk.edge (JOk.top) (by kernel_rfl)) (ld U23 rfl rfl rfl)) (ldC U9 rfl rfl (Cells.buf (m := 1) hK (by rw [List.length_map]; omega)))) (ld U23 rfl rfl rfl)) (ld U23 rfl rfl rfl)) (ldC U9 rfl rfl (Cells.buf (m := 1) hW (by rw [List.length_map]; omega))), ?_⟩
   refine Dx.one (i := 28) (by kernel_rfl) ?_
   refine Dstep.o (i := 28) rfl (bsl1 U23 ti9 rfl rfl rfl (by decide)) rfl (fun v B' H' hΦ hB => ?_)
   obtain ⟨b2, rfl, rfl, rfl⟩ := hΦ; clear hB
   refine ⟨JOk.edge (JOk.yes (JOk.yes (JOk.yes (JOk.yes (JOk.yes (JOk.top) (ld U23 rfl rfl rfl)) (ld U23 rfl rfl rfl)) (ldC U9 rfl rfl (Cells.buf (m := 1) hK (by rw [List.length_map]; omega)))) (ld U23 rfl rfl rfl)) (ld U23 rfl rfl rfl)) (by kernel_rfl), ?_⟩
   refine Dx.one (i := 29) (by kernel_rfl) ?_
   refine Dstep.o (i := 29) rfl (Ox.call rfl rfl rfl (InsS_ct Bm 0 nk cm2 (kv.map str) b2 9 [str W] _ (by omega) (by rw [List.length_map]; omega) (strs_all _) rfl rfl (by omega)) (pickSB _ _)) rfl (fun v B' H' hΦ hB => ?_)
   obtain ⟨_, rfl, hΦ⟩ := hΦ
   obtain ⟨Bm9, cn9, rfl, hBB, rfl, ⟨_, hAcn9⟩, hcn9⟩ := hΦ
   subst hBB
   rename Frag => B
   clear hB
   refine ⟨JOk.yes (JOk.yes (JOk.edge (JOk.yes (JOk.yes (JOk.yes (JOk.top) (ld U23 rfl rfl rfl)) (ld U23 rfl rfl rfl)) (ldC U9 rfl rfl (Cells.buf (m := 1) hK (by rw [List.length_map]; omega)))) (by kernel_rfl)) (ld U23 rfl rfl rfl)) (ldC U9 rfl rfl (Cells.buf (m := 1) hW (by rw [List.length_map]; omega))), ?_⟩
   refine Dx.p (i := 30) rfl (by kernel_rfl) (nilc rfl) rfl ?_
   refine Dx.p (i := 31) rfl (by kernel_rfl) (fa' fo113_0 rfl) rfl ?_
   refine Dx.one (i := 32) (by kernel_rfl) ?_
   refine Dstep.o0 (i := 32) rfl (stO U23 sz23 rfl rfl rfl (by simp) rfl) (fun v B' H' hΦ hB => ?_)
   obtain ⟨rfl, rfl⟩ := hΦ; clear hB v
   refine ⟨JOk.edge (JOk.edge (JOk.edge (JOk.edge (JOk.edge (JOk.edge (JOk.top) (by kernel_rfl)) (by kernel_rfl)) (by kernel_rfl)) (by kernel_rfl)) (by kernel_rfl)) (by kernel_rfl), ?_⟩
   refine Dx.p (i := 33) rfl (by kernel_rfl) (nilc rfl) rfl ?_
   refine Dx.p (i := 34) rfl (by kernel_rfl) (fa' fo113_1 rfl) rfl ?_
   refine Dx.one (i := 35) (by kernel_rfl) ?_
   refine Dstep.o0 (i := 35) rfl (stO U23 sz23 rfl rfl rfl (by simp) rfl) (fun v B' H' hΦ hB => ?_)
   obtain ⟨rfl, rfl⟩ := hΦ; clear hB v
   refine ⟨JOk.edge (JOk.edge (JOk.edge (JOk.edge (JOk.edge (JOk.edge (JOk.top) (by kernel_rfl)) (by kernel_rfl)) (by kernel_rfl)) (by kernel_rfl)) (by kernel_rfl)) (by kernel_rfl), ?_⟩
   refine Dx.done (by kernel_rfl) ?_
   refine Xx.tn (k3 _ _ _ _ ?_)
   refine Cx.seq (fun K4 k4 => ?_)
   refine Xx.openT (some ⟨bK, 0, none⟩) (by omega) (fun bKx spK hAk hkx hkc hkcl => ?_)
   cases hAk
   refine Xx.openT (some ⟨bV, 0, none⟩) (by omega) (fun bVx spV hAv hvx hvc hvcl => ?_)
   cases hAv
   refine Cx.drawn (by kernel_rfl) ?_
   refine Dx.p (i := 0) rfl (by kernel_rfl) (mv rfl) rfl ?_
   refine Dx.p (i := 1) rfl (by kernel_rfl) (nilc rfl) rfl ?_
   refine Dx.p (i := 2) rfl (by kernel_rfl) (fa' fo113_0 rfl) rfl ?_
   refine Dx.r (i := 3) rfl (by kernel_rfl) (ld U23 rfl rfl rfl) rfl ?_
   refine Dx.p (i := 4) rfl (by kernel_rfl) (mv rfl) rfl ?_
   refine Dx.p (i := 5) rfl (by kernel_rfl) (Yx.val (sub rfl rfl (show IntKind.i64.wrap _ = ((i - 1 : Nat) : Int) by rw [wrap64 (by omega) (by omega)]; omega)) (show _ = i64 ((i - 1 : Nat) : Int) from rfl)) rfl ?_
   refine Dx.p (i := 6) rfl (by kernel_rfl) (mv rfl) rfl ?_
   refine Dx.p (i := 7) rfl (by kernel_rfl) (nilc rfl) rfl ?_
   refine Dx.p (i := 8) rfl (by kernel_rfl) (fa' fo113_1 rfl) rfl ?_
   refine Dx.r (i := 9) rfl (by kernel_rfl) (ld U23 rfl rfl rfl) rfl ?_
   refine Dx.p (i := 10) rfl (by kernel_rfl) (mv rfl) rfl ?_
   refine Dx.p (i := 11) rfl (by kernel_rfl) (Yx.val (sub rfl rfl (show IntKind.i64.wrap _ = ((i - 1 : Nat) : Int) by rw [wrap64 (by omega) (by omega)]; omega)) (show _ = i64 ((i - 1 : Nat) : Int) from rfl)) rfl ?_
   refine Dx.p (i := 12) rfl (by kernel_rfl) (mv rfl) rfl ?_
   refine Dx.p (i := 13) rfl (by kernel_rfl) (nilc rfl) rfl ?_
   refine Dx.p (i := 14) rfl (by kernel_rfl) (fa' fo113_0 rfl) rfl ?_
   refine Dx.r (i := 15) rfl (by kernel_rfl) (ld U23 rfl rfl rfl) rfl ?_
   refine Dx.p (i := 16) rfl (by kernel_rfl) (mv rfl) rfl ?_
   refine Dx.p (i := 17) rfl (by kernel_rfl) (ia U23 sz9 rfl rfl (by first | exact Int.toNat_natCast _ | rfl) (by omega) (by omega)) rfl ?_
   refine Dx.r (i := 18) rfl (by kernel_rfl) (ldC U9 rfl rfl (Cells.buf (m := 1) hK1 (by rw [List.length_map]; omega))) rfl ?_
   refine Dx.p (i := 19) rfl (by kernel_rfl) (mv rfl) rfl ?_
   refine Dx.p (i := 20) rfl (by kernel_rfl) (nilc rfl) rfl ?_
   refine Dx.p (i := 21) rfl (by kernel_rfl) (fa' fo113_1 rfl) rfl ?_
   refine Dx.r (i := 22) rfl (by kernel_rfl) (ld U23 rfl rfl rfl) rfl ?_
   refine Dx.p (i := 23) rfl (by kernel_rfl) (mv rfl) rfl ?_
   refine Dx.p (i := 24) rfl (by kernel_rfl) (ia U23 sz9 rfl rfl (by first | exact Int.toNat_natCast _ | rfl) (by omega) (by omega)) rfl ?_
   refine Dx.r (i := 25) rfl (by kernel_rfl) (ldC U9 rfl rfl (Cells.buf (m := 1) hW1 (by rw [List.length_map]; omega))) rfl ?_
   refine Dx.p (i := 26) rfl (by kernel_rfl) (ia U23 sz9 rfl rfl (Int.toNat_natCast _) (by omega) (by omega)) rfl ?_
   refine Dx.one (i := 27) (by kernel_rfl) ?_
   refine Dstep.o0 (i := 27) rfl (stO U9 sz9 rfl rfl rfl (by rw [List.length_append, List.length_map]; omega) (frc_gen _ _)) (fun v B' H' hΦ hB => ?_)
   obtain ⟨rfl, rfl⟩ := hΦ; clear hB v
   refine ⟨JOk.edge (JOk.edge (JOk.edge (JOk.edge (JOk.edge (JOk.edge (JOk.top) (by kernel_rfl)) (by kernel_rfl)) (by kernel_rfl)) (by kernel_rfl)) (by kernel_rfl)) (by kernel_rfl), ?_⟩
   refine Dx.p (i := 28) rfl (by kernel_rfl) (ia U23 sz9 rfl rfl (Int.toNat_natCast _) (by omega) (by omega)) rfl ?_
   refine Dx.one (i := 29) (by kernel_rfl) ?_
   refine Dstep.o0 (i := 29) rfl (stO U9 sz9 rfl rfl rfl (by rw [List.length_append, List.length_map]; omega) (frc_gen _ _)) (fun v B' H' hΦ hB => ?_)
   obtain ⟨rfl, rfl⟩ := hΦ; clear hB v
   refine ⟨JOk.edge (JOk.edge (JOk.edge (JOk.edge (JOk.edge (JOk.edge (JOk.top) (by kernel_rfl)) (by kernel_rfl)) (by kernel_rfl)) (by kernel_rfl)) (by kernel_rfl)) (by kernel_rfl), ?_⟩
   refine Dx.done (by kernel_rfl) ?_
   refine Xx.tn (k4 _ _ _ _ ?_)
   refine Cx.seq (fun K5 k5 => ?_)
   refine Xx.closeT bK ((ks.set (i - 1) Kx).map str) spK 1 n ck (set_str (by omega)) (by simp; omega) hkc (by rw [List.length_append, List.length_map, List.length_set]; rw [List.length_append, List.length_map] at hkcl; exact hkcl) ?_
   refine Xx.closeT bV ((vs.set (i - 1) Wx).map str) spV 1 n cv (set_str (by omega)) (by simp; omega) hvc (by rw [List.length_append, List.length_map, List.length_set]; rw [List.length_append, List.length_map] at hvcl; exact hvcl) ?_
   refine Cx.drawn (by kernel_rfl) ?_
   refine Dx.p (i := 0) rfl (by kernel_rfl) (mv rfl) rfl ?_
   refine Dx.p (i := 1) rfl (by kernel_rfl) (mv rfl) rfl ?_
   refine Dx.p (i := 2) rfl (by kernel_rfl) (mv rfl) rfl ?_
   refine Dx.p (i := 3) rfl (by kernel_rfl) (nilc rfl) rfl ?_
   refine Dx.p (i := 4) rfl (by kernel_rfl) (fa' fo113_0 rfl) rfl ?_
   refine Dx.r (i := 5) rfl (by kernel_rfl) (ld U23 rfl rfl rfl) rfl ?_
   refine Dx.p (i := 6) rfl (by kernel_rfl) (mv rfl) rfl ?_
   refine Dx.p (i := 7) rfl (by kernel_rfl) (sl2V U23 sz9 rfl rfl (by first | exact Int.toNat_natCast _ | rfl) (by omega) (by omega)) rfl ?_
   refine Dx.p (i := 8) rfl (by kernel_rfl) (mv rfl) rfl ?_
   refine Dx.p (i := 9) rfl (by kernel_rfl) (nilc rfl) rfl ?_
   refine Dx.p (i := 10) rfl (by kernel_rfl) (fa' fo113_1 rfl) rfl ?_
   refine Dx.r (i := 11) rfl (by kernel_rfl) (ld U23 rfl rfl rfl) rfl ?_
   refine Dx.p (i := 12) rfl (by kernel_rfl) (mv rfl) rfl ?_
   refine Dx.p (i := 13) rfl (by kernel_rfl) (sl2V U23 sz9 rfl rfl (by first | exact Int.toNat_natCast _ | rfl) (by omega) (by omega)) rfl ?_
   refine Dx.p (i := 14) rfl (by kernel_rfl) (nilc rfl) rfl ?_
   refine Dx.p (i := 15) rfl (by kernel_rfl) (fa' fo113_0 rfl) rfl ?_
   refine Dx.one (i := 16) (by kernel_rfl) ?_
   refine Dstep.o0 (i := 16) rfl (stO U23 sz23 rfl rfl rfl (by simp) rfl) (fun v B' H' hΦ hB => ?_)
   obtain ⟨rfl, rfl⟩ := hΦ; clear hB v
   refine ⟨JOk.edge (JOk.edge (JOk.top) (by kernel_rfl)) (by kernel_rfl), ?_⟩
   refine Dx.p (i := 17) rfl (by kernel_rfl) (nilc rfl) rfl ?_
   refine Dx.p (i := 18) rfl (by kernel_rfl) (fa' fo113_1 rfl) rfl ?_
   refine Dx.one (i := 19) (by kernel_rfl) ?_
   refine Dstep.o0 (i := 19) rfl (stO U23 sz23 rfl rfl rfl (by simp) rfl) (fun v B' H' hΦ hB => ?_)
   obtain ⟨rfl, rfl⟩ := hΦ; clear hB v
   refine ⟨JOk.edge (JOk.edge (JOk.top) (by kernel_rfl)) (by kernel_rfl), ?_⟩
   refine Dx.done (by kernel_rfl) ?_
   refine Xx.tn (k5 _ _ _ _ ?_)
   refine Cx.seq (fun K6 k6 => ?_)
   refine Cx.region <| Lx.y (mv rfl) rfl <| Lx.y (nilc rfl) rfl <| Lx.y (fa' fo113_2 rfl) rfl <| Lx.y (ld U111 rfl rfl rfl) rfl <| Lx.y (lenV (ty' := 0) U111 rfl) rfl <| Lx.y (gtr rfl rfl) rfl <| Lx.nil <| ?_
   refine Xx.tn (k6 _ _ _ _ ?_)
   refine Cx.condD rfl (fun h7 => ?_) (fun h7 => ?_)
   ·
    have hq1 : ql = nl + 1 := by have := h7; omega
    refine Cx.seq (fun K8 k8 => ?_)
    refine Xx.addrT Cl (by omega) (fun bQ hCl _ hcl3 => ?_)
    subst hCl
    have hg1 : (lp.drop (0 + nl * 1)).take 1 = [.pointer (some ⟨g, 0, none⟩)] := by rw [Nat.zero_add, Nat.mul_one, hg (by omega)]; rfl
    refine Cx.drawn (by kernel_rfl) ?_
    refine Dx.p (i := 0) rfl (by kernel_rfl) (mv rfl) rfl ?_
    refine Dx.p (i := 1) rfl (by kernel_rfl) (mv rfl) rfl ?_
    refine Dx.p (i := 2) rfl (by kernel_rfl) (nilc rfl) rfl ?_
    refine Dx.p (i := 3) rfl (by kernel_rfl) (fa' fo113_2 rfl) rfl ?_
    refine Dx.r (i := 4) rfl (by kernel_rfl) (ld U111 rfl rfl rfl) rfl ?_
    refine Dx.p (i := 5) rfl (by kernel_rfl) (mv rfl) rfl ?_
    refine Dx.p (i := 6) rfl (by kernel_rfl) (nilc rfl) rfl ?_
    refine Dx.p (i := 7) rfl (by kernel_rfl) (fa' fo113_2 rfl) rfl ?_
    refine Dx.r (i := 8) rfl (by kernel_rfl) (ld U111 rfl rfl rfl) rfl ?_
    refine Dx.p (i := 9) rfl (by kernel_rfl) (mv rfl) rfl ?_
    refine Dx.p (i := 10) rfl (by kernel_rfl) (Yx.val (add rfl rfl (show IntKind.i64.wrap _ = ((nl : Nat) : Int) by rw [wrap64 (by omega) (by omega)]; omega)) (show _ = i64 ((nl : Nat) : Int) from rfl)) rfl ?_
    refine Dx.p (i := 11) rfl (by kernel_rfl) (ia U111 sz110 rfl rfl (by first | exact Int.toNat_natCast _ | rfl) (by omega) (by omega)) rfl ?_
    refine Dx.r (i := 12) rfl (by kernel_rfl) (ldC U110 rfl rfl (Cells.buf (m := 1) hg1 (by omega))) rfl ?_
    refine Dx.one (i := 13) (by kernel_rfl) ?_
    refine Dstep.o (i := 13) rfl (bsl1 U111 ti110 rfl rfl rfl (by decide)) rfl (fun v B' H' hΦ hB => ?_)
    obtain ⟨b3, rfl, rfl, rfl⟩ := hΦ; clear hB
    refine ⟨JOk.edge (JOk.yes (JOk.yes (JOk.top) (ld U111 rfl rfl rfl)) (ld U111 rfl rfl rfl)) (by kernel_rfl), ?_⟩
    refine Dx.one (i := 14) (by kernel_rfl) ?_
    refine Dstep.o (i := 14) rfl (Ox.call rfl rfl rfl (InsN_ct Cm 0 qk cm3 kp b3 110 [.pointer (some ⟨g, 0, none⟩)] _ (by omega) (by omega) hka rfl rfl (by omega)) (pickSB _ _)) rfl (fun v B' H' hΦ hB => ?_)
    obtain ⟨_, rfl, hΦ⟩ := hΦ
    obtain ⟨Cm9, co9, rfl, hBB, rfl, ⟨_, hAco9⟩, hco9⟩ := hΦ
    subst hBB
    rename Frag => B
    clear hB
    refine ⟨JOk.yes (JOk.yes (JOk.edge (JOk.top) (by kernel_rfl)) (ld U111 rfl rfl rfl)) (ldC U110 rfl rfl (Cells.buf (m := 1) hg1 (by omega))), ?_⟩
    refine Dx.p (i := 15) rfl (by kernel_rfl) (nilc rfl) rfl ?_
    refine Dx.p (i := 16) rfl (by kernel_rfl) (fa' fo113_2 rfl) rfl ?_
    refine Dx.one (i := 17) (by kernel_rfl) ?_
    refine Dstep.o0 (i := 17) rfl (stO U111 sz111 rfl rfl rfl (by simp) rfl) (fun v B' H' hΦ hB => ?_)
    obtain ⟨rfl, rfl⟩ := hΦ; clear hB v
    refine ⟨JOk.edge (JOk.edge (JOk.edge (JOk.top) (by kernel_rfl)) (by kernel_rfl)) (by kernel_rfl), ?_⟩
    refine Dx.done (by kernel_rfl) ?_
    refine Xx.tn (k8 _ _ _ _ ?_)
    refine Cx.region <| Lx.y (mv rfl) rfl <| Lx.y (mv rfl) rfl <| Lx.y (nilc rfl) rfl <| Lx.y (fa' fo113_2 rfl) rfl <| Lx.y (ld U111 rfl rfl rfl) rfl <| Lx.y (mv rfl) rfl <| Lx.y (Yx.val (add rfl rfl (show IntKind.i64.wrap _ = ((nl : Nat) : Int) by rw [wrap64 (by omega) (by omega)]; omega)) (show _ = i64 ((nl : Nat) : Int) from rfl)) rfl <| Lx.y (sl2V U111 sz110 rfl rfl (by first | exact Int.toNat_natCast _ | rfl) (by omega) (by omega)) rfl <| Lx.y (nilc rfl) rfl <| Lx.y (fa' fo113_2 rfl) rfl <| ?_
    refine Lx.st (stO U111 sz111 rfl rfl rfl (by simp) rfl) ?_
    refine Lx.nil ?_
    refine Xx.lessT bK2 (nl - 1) (by omega) ?_
    refine Xx.lessT bV2 (nl - 1) (by omega) ?_
    refine Xx.lessT bQ nl (by omega) ?_
    exact Xx.end0 rfl ⟨rfl, rfl, Am9, cm9, Bm9, cn9, Cm9, co9, rfl⟩ (Frag.le_refl _) (by rw [show min ql nl = nl by omega, show ql - nl = 1 by omega, hg (by omega)]; simp only [Nat.zero_mul, Nat.mul_one, List.take_zero, List.drop_zero, List.nil_append, List.singleton_append, List.cons_append]; ac_rfl)
   ·
    have hq0 : ql = 0 := by have := h7; omega
    refine Cx.skip ?_
    refine Xx.lessT bK2 (nl - 1) (by omega) ?_
    refine Xx.lessT bV2 (nl - 1) (by omega) ?_
    subst hq0
    obtain rfl := List.length_eq_zero_iff.1 hlp
    exact Xx.end0 rfl ⟨rfl, rfl, Am9, cm9, Bm9, cn9, Cm, cm3, rfl⟩ (Frag.le_refl _) (by rw [show min 0 nl = 0 by omega, show 0 - nl = 0 by omega]; simp only [Nat.zero_mul, Nat.mul_one, List.take_zero, List.drop_zero, List.nil_append, List.singleton_append, List.cons_append, List.take_nil, List.drop_nil, Nat.add_zero]; ac_rfl)
  refine Dstep.o (i := 28) rfl (bsl1 U23 ti9 rfl rfl rfl (by decide)) rfl (fun v B' H' hΦ hB => ?_)
  obtain ⟨b2, rfl, rfl, rfl⟩ := hΦ; clear hB
  refine ⟨JOk.edge (JOk.yes (JOk.yes (JOk.yes (JOk.yes (JOk.yes (JOk.top) (ld U23 rfl rfl rfl)) (ld U23 rfl rfl rfl)) (ldC U9 rfl rfl (Cells.buf (m := 1) hK (by rw [List.length_map]; omega)))) (ld U23 rfl rfl rfl)) (ld U23 rfl rfl rfl)) (by kernel_rfl), ?_⟩
  refine Dx.one (i := 15) (by kernel_rfl) ?_
  refine Dstep.o (i := 15) rfl (Ox.call rfl rfl rfl (InsS_ct Am 0 nk cm1 (kk.map str) b1 9 [str K] _ (by omega) (by rw [List.length_map]; omega) (strs_all _) rfl rfl (by omega)) (pickSB _ _)) rfl (fun v B' H' hΦ hB => ?_)
  obtain ⟨_, rfl, hΦ⟩ := hΦ
  obtain ⟨Am9, cm9, rfl, hBB, rfl, ⟨_, hAcm9⟩, hcm9⟩ := hΦ
  subst hBB
  rename Frag => B
  clear hB
  refine ⟨JOk.yes (JOk.yes (JOk.yes (JOk.yes (JOk.yes (JOk.edge (JOk.top) (by kernel_rfl)) (ld U23 rfl rfl rfl)) (ldC U9 rfl rfl (Cells.buf (m := 1) hK (by rw [List.length_map]; omega)))) (ld U23 rfl rfl rfl)) (ld U23 rfl rfl rfl)) (ldC U9 rfl rfl (Cells.buf (m := 1) hW (by rw [List.length_map]; omega))), ?_⟩
  refine Dx.one (i := 29) (by kernel_rfl) ?_
  refine Dstep.o (i := 29) rfl (Ox.call rfl rfl rfl (InsS_ct Bm 0 nk cm2 (kv.map str) b2 9 [str W] _ (by omega) (by rw [List.length_map]; omega) (strs_all _) rfl rfl (by omega)) (pickSB _ _)) rfl (fun v B' H' hΦ hB => ?_)
  obtain ⟨_, rfl, hΦ⟩ := hΦ
  obtain ⟨Bm9, cn9, rfl, hBB, rfl, ⟨_, hAcn9⟩, hcn9⟩ := hΦ
  subst hBB
  rename Frag => B
  clear hB
  refine ⟨JOk.yes (JOk.yes (JOk.edge (JOk.yes (JOk.yes (JOk.yes (JOk.top) (ld U23 rfl rfl rfl)) (ld U23 rfl rfl rfl)) (ldC U9 rfl rfl (Cells.buf (m := 1) hK (by rw [List.length_map]; omega)))) (by kernel_rfl)) (ld U23 rfl rfl rfl)) (ldC U9 rfl rfl (Cells.buf (m := 1) hW (by rw [List.length_map]; omega))), ?_⟩
  refine Dx.p (i := 30) rfl (by kernel_rfl) (nilc rfl) rfl ?_
  refine Dx.p (i := 31) rfl (by kernel_rfl) (fa' fo113_0 rfl) rfl ?_
  refine Dx.one (i := 32) (by kernel_rfl) ?_
  refine Dstep.o0 (i := 32) rfl (stO U23 sz23 rfl rfl rfl (by simp) rfl) (fun v B' H' hΦ hB => ?_)
  obtain ⟨rfl, rfl⟩ := hΦ; clear hB v
  refine ⟨JOk.edge (JOk.edge (JOk.edge (JOk.edge (JOk.edge (JOk.edge (JOk.top) (by kernel_rfl)) (by kernel_rfl)) (by kernel_rfl)) (by kernel_rfl)) (by kernel_rfl)) (by kernel_rfl), ?_⟩
  refine Dx.p (i := 33) rfl (by kernel_rfl) (nilc rfl) rfl ?_
  refine Dx.p (i := 34) rfl (by kernel_rfl) (fa' fo113_1 rfl) rfl ?_
  refine Dx.one (i := 35) (by kernel_rfl) ?_
  refine Dstep.o0 (i := 35) rfl (stO U23 sz23 rfl rfl rfl (by simp) rfl) (fun v B' H' hΦ hB => ?_)
  obtain ⟨rfl, rfl⟩ := hΦ; clear hB v
  refine ⟨JOk.edge (JOk.edge (JOk.edge (JOk.edge (JOk.edge (JOk.edge (JOk.top) (by kernel_rfl)) (by kernel_rfl)) (by kernel_rfl)) (by kernel_rfl)) (by kernel_rfl)) (by kernel_rfl), ?_⟩
  refine Dx.done (by kernel_rfl) ?_
  refine Xx.tn (k3 _ _ _ _ ?_)
  refine Cx.seq (fun K9 k9 => ?_)
  refine Xx.openT (some ⟨bK, 0, none⟩) (by omega) (fun bKx spK hAk hkx hkc hkcl => ?_)
  cases hAk
  refine Xx.openT (some ⟨bV, 0, none⟩) (by omega) (fun bVx spV hAv hvx hvc hvcl => ?_)
  cases hAv
  refine Cx.drawn (by kernel_rfl) ?_
  refine Dx.p (i := 0) rfl (by kernel_rfl) (mv rfl) rfl ?_
  refine Dx.p (i := 1) rfl (by kernel_rfl) (nilc rfl) rfl ?_
  refine Dx.p (i := 2) rfl (by kernel_rfl) (fa' fo113_0 rfl) rfl ?_
  refine Dx.r (i := 3) rfl (by kernel_rfl) (ld U23 rfl rfl rfl) rfl ?_
  refine Dx.p (i := 4) rfl (by kernel_rfl) (mv rfl) rfl ?_
  refine Dx.p (i := 5) rfl (by kernel_rfl) (Yx.val (sub rfl rfl (show IntKind.i64.wrap _ = ((i - 1 : Nat) : Int) by rw [wrap64 (by omega) (by omega)]; omega)) (show _ = i64 ((i - 1 : Nat) : Int) from rfl)) rfl ?_
  refine Dx.p (i := 6) rfl (by kernel_rfl) (mv rfl) rfl ?_
  refine Dx.p (i := 7) rfl (by kernel_rfl) (nilc rfl) rfl ?_
  refine Dx.p (i := 8) rfl (by kernel_rfl) (fa' fo113_1 rfl) rfl ?_
  refine Dx.r (i := 9) rfl (by kernel_rfl) (ld U23 rfl rfl rfl) rfl ?_
  refine Dx.p (i := 10) rfl (by kernel_rfl) (mv rfl) rfl ?_
  refine Dx.p (i := 11) rfl (by kernel_rfl) (Yx.val (sub rfl rfl (show IntKind.i64.wrap _ = ((i - 1 : Nat) : Int) by rw [wrap64 (by omega) (by omega)]; omega)) (show _ = i64 ((i - 1 : Nat) : Int) from rfl)) rfl ?_
  refine Dx.p (i := 12) rfl (by kernel_rfl) (mv rfl) rfl ?_
  refine Dx.p (i := 13) rfl (by kernel_rfl) (nilc rfl) rfl ?_
  refine Dx.p (i := 14) rfl (by kernel_rfl) (fa' fo113_0 rfl) rfl ?_
  refine Dx.r (i := 15) rfl (by kernel_rfl) (ld U23 rfl rfl rfl) rfl ?_
  refine Dx.p (i := 16) rfl (by kernel_rfl) (mv rfl) rfl ?_
  refine Dx.p (i := 17) rfl (by kernel_rfl) (ia U23 sz9 rfl rfl (by first | exact Int.toNat_natCast _ | rfl) (by omega) (by omega)) rfl ?_
  refine Dx.r (i := 18) rfl (by kernel_rfl) (ldC U9 rfl rfl (Cells.buf (m := 1) hK1 (by rw [List.length_map]; omega))) rfl ?_
  refine Dx.p (i := 19) rfl (by kernel_rfl) (mv rfl) rfl ?_
  refine Dx.p (i := 20) rfl (by kernel_rfl) (nilc rfl) rfl ?_
  refine Dx.p (i := 21) rfl (by kernel_rfl) (fa' fo113_1 rfl) rfl ?_
  refine Dx.r (i := 22) rfl (by kernel_rfl) (ld U23 rfl rfl rfl) rfl ?_
  refine Dx.p (i := 23) rfl (by kernel_rfl) (mv rfl) rfl ?_
  refine Dx.p (i := 24) rfl (by kernel_rfl) (ia U23 sz9 rfl rfl (by first | exact Int.toNat_natCast _ | rfl) (by omega) (by omega)) rfl ?_
  refine Dx.r (i := 25) rfl (by kernel_rfl) (ldC U9 rfl rfl (Cells.buf (m := 1) hW1 (by rw [List.length_map]; omega))) rfl ?_
  refine Dx.p (i := 26) rfl (by kernel_rfl) (ia U23 sz9 rfl rfl (Int.toNat_natCast _) (by omega) (by omega)) rfl ?_
  refine Dx.one (i := 27) (by kernel_rfl) ?_
  refine Dstep.o0 (i := 27) rfl (stO U9 sz9 rfl rfl rfl (by rw [List.length_append, List.length_map]; omega) (frc_gen _ _)) (fun v B' H' hΦ hB => ?_)
  obtain ⟨rfl, rfl⟩ := hΦ; clear hB v
  refine ⟨JOk.edge (JOk.edge (JOk.edge (JOk.edge (JOk.edge (JOk.edge (JOk.top) (by kernel_rfl)) (by kernel_rfl)) (by kernel_rfl)) (by kernel_rfl)) (by kernel_rfl)) (by kernel_rfl), ?_⟩
  refine Dx.p (i := 28) rfl (by kernel_rfl) (ia U23 sz9 rfl rfl (Int.toNat_natCast _) (by omega) (by omega)) rfl ?_
  refine Dx.one (i := 29) (by kernel_rfl) ?_
  refine Dstep.o0 (i := 29) rfl (stO U9 sz9 rfl rfl rfl (by rw [List.length_append, List.length_map]; omega) (frc_gen _ _)) (fun v B' H' hΦ hB => ?_)
  obtain ⟨rfl, rfl⟩ := hΦ; clear hB v
  refine ⟨JOk.edge (JOk.edge (JOk.edge (JOk.edge (JOk.edge (JOk.edge (JOk.top) (by kernel_rfl)) (by kernel_rfl)) (by kernel_rfl)) (by kernel_rfl)) (by kernel_rfl)) (by kernel_rfl), ?_⟩
  refine Dx.done (by kernel_rfl) ?_
  refine Xx.tn (k9 _ _ _ _ ?_)
  refine Cx.seq (fun K10 k10 => ?_)
  refine Xx.closeT bK ((ks.set (i - 1) Kx).map str) spK 1 n ck (set_str (by omega)) (by simp; omega) hkc (by rw [List.length_append, List.length_map, List.length_set]; rw [List.length_append, List.length_map] at hkcl; exact hkcl) ?_
  refine Xx.closeT bV ((vs.set (i - 1) Wx).map str) spV 1 n cv (set_str (by omega)) (by simp; omega) hvc (by rw [List.length_append, List.length_map, List.length_set]; rw [List.length_append, List.length_map] at hvcl; exact hvcl) ?_
  refine Cx.drawn (by kernel_rfl) ?_
  refine Dx.p (i := 0) rfl (by kernel_rfl) (mv rfl) rfl ?_
  refine Dx.p (i := 1) rfl (by kernel_rfl) (mv rfl) rfl ?_
  refine Dx.p (i := 2) rfl (by kernel_rfl) (mv rfl) rfl ?_
  refine Dx.p (i := 3) rfl (by kernel_rfl) (nilc rfl) rfl ?_
  refine Dx.p (i := 4) rfl (by kernel_rfl) (fa' fo113_0 rfl) rfl ?_
  refine Dx.r (i := 5) rfl (by kernel_rfl) (ld U23 rfl rfl rfl) rfl ?_
  refine Dx.p (i := 6) rfl (by kernel_rfl) (mv rfl) rfl ?_
  refine Dx.p (i := 7) rfl (by kernel_rfl) (sl2V U23 sz9 rfl rfl (by first | exact Int.toNat_natCast _ | rfl) (by omega) (by omega)) rfl ?_
  refine Dx.p (i := 8) rfl (by kernel_rfl) (mv rfl) rfl ?_
  refine Dx.p (i := 9) rfl (by kernel_rfl) (nilc rfl) rfl ?_
  refine Dx.p (i := 10) rfl (by kernel_rfl) (fa' fo113_1 rfl) rfl ?_
  refine Dx.r (i := 11) rfl (by kernel_rfl) (ld U23 rfl rfl rfl) rfl ?_
  refine Dx.p (i := 12) rfl (by kernel_rfl) (mv rfl) rfl ?_
  refine Dx.p (i := 13) rfl (by kernel_rfl) (sl2V U23 sz9 rfl rfl (by first | exact Int.toNat_natCast _ | rfl) (by omega) (by omega)) rfl ?_
  refine Dx.p (i := 14) rfl (by kernel_rfl) (nilc rfl) rfl ?_
  refine Dx.p (i := 15) rfl (by kernel_rfl) (fa' fo113_0 rfl) rfl ?_
  refine Dx.one (i := 16) (by kernel_rfl) ?_
  refine Dstep.o0 (i := 16) rfl (stO U23 sz23 rfl rfl rfl (by simp) rfl) (fun v B' H' hΦ hB => ?_)
  obtain ⟨rfl, rfl⟩ := hΦ; clear hB v
  refine ⟨JOk.edge (JOk.edge (JOk.top) (by kernel_rfl)) (by kernel_rfl), ?_⟩
  refine Dx.p (i := 17) rfl (by kernel_rfl) (nilc rfl) rfl ?_
  refine Dx.p (i := 18) rfl (by kernel_rfl) (fa' fo113_1 rfl) rfl ?_
  refine Dx.one (i := 19) (by kernel_rfl) ?_
  refine Dstep.o0 (i := 19) rfl (stO U23 sz23 rfl rfl rfl (by simp) rfl) (fun v B' H' hΦ hB => ?_)
  obtain ⟨rfl, rfl⟩ := hΦ; clear hB v
  refine ⟨JOk.edge (JOk.edge (JOk.top) (by kernel_rfl)) (by kernel_rfl), ?_⟩
  refine Dx.done (by kernel_rfl) ?_
  refine Xx.tn (k10 _ _ _ _ ?_)
  refine Cx.seq (fun K11 k11 => ?_)
  refine Cx.region <| Lx.y (mv rfl) rfl <| Lx.y (nilc rfl) rfl <| Lx.y (fa' fo113_2 rfl) rfl <| Lx.y (ld U111 rfl rfl rfl) rfl <| Lx.y (lenV (ty' := 0) U111 rfl) rfl <| Lx.y (gtr rfl rfl) rfl <| Lx.nil <| ?_
  refine Xx.tn (k11 _ _ _ _ ?_)
  refine Cx.condD rfl (fun h12 => ?_) (fun h12 => ?_)
  ·
   have hq1 : ql = nl + 1 := by have := h12; omega
   refine Cx.seq (fun K13 k13 => ?_)
   refine Xx.addrT Cl (by omega) (fun bQ hCl _ hcl3 => ?_)
   subst hCl
   have hg1 : (lp.drop (0 + nl * 1)).take 1 = [.pointer (some ⟨g, 0, none⟩)] := by rw [Nat.zero_add, Nat.mul_one, hg (by omega)]; rfl
   refine Cx.drawn (by kernel_rfl) ?_
   refine Dx.p (i := 0) rfl (by kernel_rfl) (mv rfl) rfl ?_
   refine Dx.p (i := 1) rfl (by kernel_rfl) (mv rfl) rfl ?_
   refine Dx.p (i := 2) rfl (by kernel_rfl) (nilc rfl) rfl ?_
   refine Dx.p (i := 3) rfl (by kernel_rfl) (fa' fo113_2 rfl) rfl ?_
   refine Dx.r (i := 4) rfl (by kernel_rfl) (ld U111 rfl rfl rfl) rfl ?_
   refine Dx.p (i := 5) rfl (by kernel_rfl) (mv rfl) rfl ?_
   refine Dx.p (i := 6) rfl (by kernel_rfl) (nilc rfl) rfl ?_
   refine Dx.p (i := 7) rfl (by kernel_rfl) (fa' fo113_2 rfl) rfl ?_
   refine Dx.r (i := 8) rfl (by kernel_rfl) (ld U111 rfl rfl rfl) rfl ?_
   refine Dx.p (i := 9) rfl (by kernel_rfl) (mv rfl) rfl ?_
   refine Dx.p (i := 10) rfl (by kernel_rfl) (Yx.val (add rfl rfl (show IntKind.i64.wrap _ = ((nl : Nat) : Int) by rw [wrap64 (by omega) (by omega)]; omega)) (show _ = i64 ((nl : Nat) : Int) from rfl)) rfl ?_
   refine Dx.p (i := 11) rfl (by kernel_rfl) (ia U111 sz110 rfl rfl (by first | exact Int.toNat_natCast _ | rfl) (by omega) (by omega)) rfl ?_
   refine Dx.r (i := 12) rfl (by kernel_rfl) (ldC U110 rfl rfl (Cells.buf (m := 1) hg1 (by omega))) rfl ?_
   refine Dx.one (i := 13) (by kernel_rfl) ?_
   refine Dstep.o (i := 13) rfl (bsl1 U111 ti110 rfl rfl rfl (by decide)) rfl (fun v B' H' hΦ hB => ?_)
   obtain ⟨b3, rfl, rfl, rfl⟩ := hΦ; clear hB
   refine ⟨JOk.edge (JOk.yes (JOk.yes (JOk.top) (ld U111 rfl rfl rfl)) (ld U111 rfl rfl rfl)) (by kernel_rfl), ?_⟩
   refine Dx.one (i := 14) (by kernel_rfl) ?_
   refine Dstep.o (i := 14) rfl (Ox.call rfl rfl rfl (InsN_ct Cm 0 qk cm3 kp b3 110 [.pointer (some ⟨g, 0, none⟩)] _ (by omega) (by omega) hka rfl rfl (by omega)) (pickSB _ _)) rfl (fun v B' H' hΦ hB => ?_)
   obtain ⟨_, rfl, hΦ⟩ := hΦ
   obtain ⟨Cm9, co9, rfl, hBB, rfl, ⟨_, hAco9⟩, hco9⟩ := hΦ
   subst hBB
   rename Frag => B
   clear hB
   refine ⟨JOk.yes (JOk.yes (JOk.edge (JOk.top) (by kernel_rfl)) (ld U111 rfl rfl rfl)) (ldC U110 rfl rfl (Cells.buf (m := 1) hg1 (by omega))), ?_⟩
   refine Dx.p (i := 15) rfl (by kernel_rfl) (nilc rfl) rfl ?_
   refine Dx.p (i := 16) rfl (by kernel_rfl) (fa' fo113_2 rfl) rfl ?_
   refine Dx.one (i := 17) (by kernel_rfl) ?_
   refine Dstep.o0 (i := 17) rfl (stO U111 sz111 rfl rfl rfl (by simp) rfl) (fun v B' H' hΦ hB => ?_)
   obtain ⟨rfl, rfl⟩ := hΦ; clear hB v
   refine ⟨JOk.edge (JOk.edge (JOk.edge (JOk.top) (by kernel_rfl)) (by kernel_rfl)) (by kernel_rfl), ?_⟩
   refine Dx.done (by kernel_rfl) ?_
   refine Xx.tn (k13 _ _ _ _ ?_)
   refine Cx.region <| Lx.y (mv rfl) rfl <| Lx.y (mv rfl) rfl <| Lx.y (nilc rfl) rfl <| Lx.y (fa' fo113_2 rfl) rfl <| Lx.y (ld U111 rfl rfl rfl) rfl <| Lx.y (mv rfl) rfl <| Lx.y (Yx.val (add rfl rfl (show IntKind.i64.wrap _ = ((nl : Nat) : Int) by rw [wrap64 (by omega) (by omega)]; omega)) (show _ = i64 ((nl : Nat) : Int) from rfl)) rfl <| Lx.y (sl2V U111 sz110 rfl rfl (by first | exact Int.toNat_natCast _ | rfl) (by omega) (by omega)) rfl <| Lx.y (nilc rfl) rfl <| Lx.y (fa' fo113_2 rfl) rfl <| ?_
   refine Lx.st (stO U111 sz111 rfl rfl rfl (by simp) rfl) ?_
   refine Lx.nil ?_
   refine Xx.lessT bK2 (nl - 1) (by omega) ?_
   refine Xx.lessT bV2 (nl - 1) (by omega) ?_
   refine Xx.lessT bQ nl (by omega) ?_
   exact Xx.end0 rfl ⟨rfl, rfl, Am9, cm9, Bm9, cn9, Cm9, co9, rfl⟩ (Frag.le_refl _) (by rw [show min ql nl = nl by omega, show ql - nl = 1 by omega, hg (by omega)]; simp only [Nat.zero_mul, Nat.mul_one, List.take_zero, List.drop_zero, List.nil_append, List.singleton_append, List.cons_append]; ac_rfl)
  ·
   have hq0 : ql = 0 := by have := h12; omega
   refine Cx.skip ?_
   refine Xx.lessT bK2 (nl - 1) (by omega) ?_
   refine Xx.lessT bV2 (nl - 1) (by omega) ?_
   subst hq0
   obtain rfl := List.length_eq_zero_iff.1 hlp
   exact Xx.end0 rfl ⟨rfl, rfl, Am9, cm9, Bm9, cn9, Cm, cm3, rfl⟩ (Frag.le_refl _) (by rw [show min 0 nl = 0 by omega, show 0 - nl = 0 by omega]; simp only [Nat.zero_mul, Nat.mul_one, List.take_zero, List.drop_zero, List.nil_append, List.singleton_append, List.cons_append, List.take_nil, List.drop_nil, Nat.add_zero]; ac_rfl)
 refine Dstep.o (i := 28) rfl (bsl1 U23 ti9 rfl rfl rfl (by decide)) rfl (fun v B' H' hΦ hB => ?_)
 obtain ⟨b2, rfl, rfl, rfl⟩ := hΦ; clear hB
 refine ⟨JOk.edge (JOk.yes (JOk.yes (JOk.yes (JOk.yes (JOk.yes (JOk.top) (ld U23 rfl rfl rfl)) (ld U23 rfl rfl rfl)) (ldC U9 rfl rfl (Cells.buf (m := 1) hK (by rw [List.length_map]; omega)))) (ld U23 rfl rfl rfl)) (ld U23 rfl rfl rfl)) (by kernel_rfl), ?_⟩
 refine Dx.one (i := 14) (by kernel_rfl) ?_
 refine Dstep.o (i := 14) rfl (bsl1 U23 ti9 rfl rfl rfl (by decide)) rfl (fun v B' H' hΦ hB => ?_)
 obtain ⟨b1, rfl, rfl, rfl⟩ := hΦ; clear hB
 refine ⟨JOk.yes (JOk.yes (JOk.yes (JOk.edge (JOk.yes (JOk.yes (JOk.top) (ld U23 rfl rfl rfl)) (ld U23 rfl rfl rfl)) (by kernel_rfl)) (ld U23 rfl rfl rfl)) (ld U23 rfl rfl rfl)) (ldC U9 rfl rfl (Cells.buf (m := 1) hW (by rw [List.length_map]; omega))), ?_⟩
 refine Dx.one (i := 15) (by kernel_rfl) ?_
 refine Dstep.o (i := 15) rfl (Ox.call rfl rfl rfl (InsS_ct Am 0 nk cm1 (kk.map str) b1 9 [str K] _ (by omega) (by rw [List.length_map]; omega) (strs_all _) rfl rfl (by omega)) (pickSB _ _)) rfl (fun v B' H' hΦ hB => ?_)
 obtain ⟨_, rfl, hΦ⟩ := hΦ
 obtain ⟨Am9, cm9, rfl, hBB, rfl, ⟨_, hAcm9⟩, hcm9⟩ := hΦ
 subst hBB
 rename Frag => B
 clear hB
 refine ⟨JOk.yes (JOk.yes (JOk.yes (JOk.yes (JOk.yes (JOk.edge (JOk.top) (by kernel_rfl)) (ld U23 rfl rfl rfl)) (ldC U9 rfl rfl (Cells.buf (m := 1) hK (by rw [List.length_map]; omega)))) (ld U23 rfl rfl rfl)) (ld U23 rfl rfl rfl)) (ldC U9 rfl rfl (Cells.buf (m := 1) hW (by rw [List.length_map]; omega))), ?_⟩
 refine Dx.one (i := 29) (by kernel_rfl) ?_
 refine Dstep.o (i := 29) rfl (Ox.call rfl rfl rfl (InsS_ct Bm 0 nk cm2 (kv.map str) b2 9 [str W] _ (by omega) (by rw [List.length_map]; omega) (strs_all _) rfl rfl (by omega)) (pickSB _ _)) rfl (fun v B' H' hΦ hB => ?_)
 obtain ⟨_, rfl, hΦ⟩ := hΦ
 obtain ⟨Bm9, cn9, rfl, hBB, rfl, ⟨_, hAcn9⟩, hcn9⟩ := hΦ
 subst hBB
 rename Frag => B
 clear hB
 refine ⟨JOk.yes (JOk.yes (JOk.edge (JOk.yes (JOk.yes (JOk.yes (JOk.top) (ld U23 rfl rfl rfl)) (ld U23 rfl rfl rfl)) (ldC U9 rfl rfl (Cells.buf (m := 1) hK (by rw [List.length_map]; omega)))) (by kernel_rfl)) (ld U23 rfl rfl rfl)) (ldC U9 rfl rfl (Cells.buf (m := 1) hW (by rw [List.length_map]; omega))), ?_⟩
 refine Dx.p (i := 30) rfl (by kernel_rfl) (nilc rfl) rfl ?_
 refine Dx.p (i := 31) rfl (by kernel_rfl) (fa' fo113_0 rfl) rfl ?_
 refine Dx.one (i := 32) (by kernel_rfl) ?_
 refine Dstep.o0 (i := 32) rfl (stO U23 sz23 rfl rfl rfl (by simp) rfl) (fun v B' H' hΦ hB => ?_)
 obtain ⟨rfl, rfl⟩ := hΦ; clear hB v
 refine ⟨JOk.edge (JOk.edge (JOk.edge (JOk.edge (JOk.edge (JOk.edge (JOk.top) (by kernel_rfl)) (by kernel_rfl)) (by kernel_rfl)) (by kernel_rfl)) (by kernel_rfl)) (by kernel_rfl), ?_⟩
 refine Dx.p (i := 33) rfl (by kernel_rfl) (nilc rfl) rfl ?_
 refine Dx.p (i := 34) rfl (by kernel_rfl) (fa' fo113_1 rfl) rfl ?_
 refine Dx.one (i := 35) (by kernel_rfl) ?_
 refine Dstep.o0 (i := 35) rfl (stO U23 sz23 rfl rfl rfl (by simp) rfl) (fun v B' H' hΦ hB => ?_)
 obtain ⟨rfl, rfl⟩ := hΦ; clear hB v
 refine ⟨JOk.edge (JOk.edge (JOk.edge (JOk.edge (JOk.edge (JOk.edge (JOk.top) (by kernel_rfl)) (by kernel_rfl)) (by kernel_rfl)) (by kernel_rfl)) (by kernel_rfl)) (by kernel_rfl), ?_⟩
 refine Dx.done (by kernel_rfl) ?_
 refine Xx.tn (k3 _ _ _ _ ?_)
 refine Cx.seq (fun K14 k14 => ?_)
 refine Xx.openT (some ⟨bK, 0, none⟩) (by omega) (fun bKx spK hAk hkx hkc hkcl => ?_)
 cases hAk
 refine Xx.openT (some ⟨bV, 0, none⟩) (by omega) (fun bVx spV hAv hvx hvc hvcl => ?_)
 cases hAv
 refine Cx.drawn (by kernel_rfl) ?_
 refine Dx.p (i := 0) rfl (by kernel_rfl) (mv rfl) rfl ?_
 refine Dx.p (i := 1) rfl (by kernel_rfl) (nilc rfl) rfl ?_
 refine Dx.p (i := 2) rfl (by kernel_rfl) (fa' fo113_0 rfl) rfl ?_
 refine Dx.r (i := 3) rfl (by kernel_rfl) (ld U23 rfl rfl rfl) rfl ?_
 refine Dx.p (i := 4) rfl (by kernel_rfl) (mv rfl) rfl ?_
 refine Dx.p (i := 5) rfl (by kernel_rfl) (Yx.val (sub rfl rfl (show IntKind.i64.wrap _ = ((i - 1 : Nat) : Int) by rw [wrap64 (by omega) (by omega)]; omega)) (show _ = i64 ((i - 1 : Nat) : Int) from rfl)) rfl ?_
 refine Dx.p (i := 6) rfl (by kernel_rfl) (mv rfl) rfl ?_
 refine Dx.p (i := 7) rfl (by kernel_rfl) (nilc rfl) rfl ?_
 refine Dx.p (i := 8) rfl (by kernel_rfl) (fa' fo113_1 rfl) rfl ?_
 refine Dx.r (i := 9) rfl (by kernel_rfl) (ld U23 rfl rfl rfl) rfl ?_
 refine Dx.p (i := 10) rfl (by kernel_rfl) (mv rfl) rfl ?_
 refine Dx.p (i := 11) rfl (by kernel_rfl) (Yx.val (sub rfl rfl (show IntKind.i64.wrap _ = ((i - 1 : Nat) : Int) by rw [wrap64 (by omega) (by omega)]; omega)) (show _ = i64 ((i - 1 : Nat) : Int) from rfl)) rfl ?_
 refine Dx.p (i := 12) rfl (by kernel_rfl) (mv rfl) rfl ?_
 refine Dx.p (i := 13) rfl (by kernel_rfl) (nilc rfl) rfl ?_
 refine Dx.p (i := 14) rfl (by kernel_rfl) (fa' fo113_0 rfl) rfl ?_
 refine Dx.r (i := 15) rfl (by kernel_rfl) (ld U23 rfl rfl rfl) rfl ?_
 refine Dx.p (i := 16) rfl (by kernel_rfl) (mv rfl) rfl ?_
 refine Dx.p (i := 17) rfl (by kernel_rfl) (ia U23 sz9 rfl rfl (by first | exact Int.toNat_natCast _ | rfl) (by omega) (by omega)) rfl ?_
 refine Dx.r (i := 18) rfl (by kernel_rfl) (ldC U9 rfl rfl (Cells.buf (m := 1) hK1 (by rw [List.length_map]; omega))) rfl ?_
 refine Dx.p (i := 19) rfl (by kernel_rfl) (mv rfl) rfl ?_
 refine Dx.p (i := 20) rfl (by kernel_rfl) (nilc rfl) rfl ?_
 refine Dx.p (i := 21) rfl (by kernel_rfl) (fa' fo113_1 rfl) rfl ?_
 refine Dx.r (i := 22) rfl (by kernel_rfl) (ld U23 rfl rfl rfl) rfl ?_
 refine Dx.p (i := 23) rfl (by kernel_rfl) (mv rfl) rfl ?_
 refine Dx.p (i := 24) rfl (by kernel_rfl) (ia U23 sz9 rfl rfl (by first | exact Int.toNat_natCast _ | rfl) (by omega) (by omega)) rfl ?_
 refine Dx.r (i := 25) rfl (by kernel_rfl) (ldC U9 rfl rfl (Cells.buf (m := 1) hW1 (by rw [List.length_map]; omega))) rfl ?_
 refine Dx.p (i := 26) rfl (by kernel_rfl) (ia U23 sz9 rfl rfl (Int.toNat_natCast _) (by omega) (by omega)) rfl ?_
 refine Dx.one (i := 27) (by kernel_rfl) ?_
 refine Dstep.o0 (i := 27) rfl (stO U9 sz9 rfl rfl rfl (by rw [List.length_append, List.length_map]; omega) (frc_gen _ _)) (fun v B' H' hΦ hB => ?_)
 obtain ⟨rfl, rfl⟩ := hΦ; clear hB v
 refine ⟨JOk.edge (JOk.edge (JOk.edge (JOk.edge (JOk.edge (JOk.edge (JOk.top) (by kernel_rfl)) (by kernel_rfl)) (by kernel_rfl)) (by kernel_rfl)) (by kernel_rfl)) (by kernel_rfl), ?_⟩
 refine Dx.p (i := 28) rfl (by kernel_rfl) (ia U23 sz9 rfl rfl (Int.toNat_natCast _) (by omega) (by omega)) rfl ?_
 refine Dx.one (i := 29) (by kernel_rfl) ?_
 refine Dstep.o0 (i := 29) rfl (stO U9 sz9 rfl rfl rfl (by rw [List.length_append, List.length_map]; omega) (frc_gen _ _)) (fun v B' H' hΦ hB => ?_)
 obtain ⟨rfl, rfl⟩ := hΦ; clear hB v
 refine ⟨JOk.edge (JOk.edge (JOk.edge (JOk.edge (JOk.edge (JOk.edge (JOk.top) (by kernel_rfl)) (by kernel_rfl)) (by kernel_rfl)) (by kernel_rfl)) (by kernel_rfl)) (by kernel_rfl), ?_⟩
 refine Dx.done (by kernel_rfl) ?_
 refine Xx.tn (k14 _ _ _ _ ?_)
 refine Cx.seq (fun K15 k15 => ?_)
 refine Xx.closeT bK ((ks.set (i - 1) Kx).map str) spK 1 n ck (set_str (by omega)) (by simp; omega) hkc (by rw [List.length_append, List.length_map, List.length_set]; rw [List.length_append, List.length_map] at hkcl; exact hkcl) ?_
 refine Xx.closeT bV ((vs.set (i - 1) Wx).map str) spV 1 n cv (set_str (by omega)) (by simp; omega) hvc (by rw [List.length_append, List.length_map, List.length_set]; rw [List.length_append, List.length_map] at hvcl; exact hvcl) ?_
 refine Cx.drawn (by kernel_rfl) ?_
 refine Dx.p (i := 0) rfl (by kernel_rfl) (mv rfl) rfl ?_
 refine Dx.p (i := 1) rfl (by kernel_rfl) (mv rfl) rfl ?_
 refine Dx.p (i := 2) rfl (by kernel_rfl) (mv rfl) rfl ?_
 refine Dx.p (i := 3) rfl (by kernel_rfl) (nilc rfl) rfl ?_
 refine Dx.p (i := 4) rfl (by kernel_rfl) (fa' fo113_0 rfl) rfl ?_
 refine Dx.r (i := 5) rfl (by kernel_rfl) (ld U23 rfl rfl rfl) rfl ?_
 refine Dx.p (i := 6) rfl (by kernel_rfl) (mv rfl) rfl ?_
 refine Dx.p (i := 7) rfl (by kernel_rfl) (sl2V U23 sz9 rfl rfl (by first | exact Int.toNat_natCast _ | rfl) (by omega) (by omega)) rfl ?_
 refine Dx.p (i := 8) rfl (by kernel_rfl) (mv rfl) rfl ?_
 refine Dx.p (i := 9) rfl (by kernel_rfl) (nilc rfl) rfl ?_
 refine Dx.p (i := 10) rfl (by kernel_rfl) (fa' fo113_1 rfl) rfl ?_
 refine Dx.r (i := 11) rfl (by kernel_rfl) (ld U23 rfl rfl rfl) rfl ?_
 refine Dx.p (i := 12) rfl (by kernel_rfl) (mv rfl) rfl ?_
 refine Dx.p (i := 13) rfl (by kernel_rfl) (sl2V U23 sz9 rfl rfl (by first | exact Int.toNat_natCast _ | rfl) (by omega) (by omega)) rfl ?_
 refine Dx.p (i := 14) rfl (by kernel_rfl) (nilc rfl) rfl ?_
 refine Dx.p (i := 15) rfl (by kernel_rfl) (fa' fo113_0 rfl) rfl ?_
 refine Dx.one (i := 16) (by kernel_rfl) ?_
 refine Dstep.o0 (i := 16) rfl (stO U23 sz23 rfl rfl rfl (by simp) rfl) (fun v B' H' hΦ hB => ?_)
 obtain ⟨rfl, rfl⟩ := hΦ; clear hB v
 refine ⟨JOk.edge (JOk.edge (JOk.top) (by kernel_rfl)) (by kernel_rfl), ?_⟩
 refine Dx.p (i := 17) rfl (by kernel_rfl) (nilc rfl) rfl ?_
 refine Dx.p (i := 18) rfl (by kernel_rfl) (fa' fo113_1 rfl) rfl ?_
 refine Dx.one (i := 19) (by kernel_rfl) ?_
 refine Dstep.o0 (i := 19) rfl (stO U23 sz23 rfl rfl rfl (by simp) rfl) (fun v B' H' hΦ hB => ?_)
 obtain ⟨rfl, rfl⟩ := hΦ; clear hB v
 refine ⟨JOk.edge (JOk.edge (JOk.top) (by kernel_rfl)) (by kernel_rfl), ?_⟩
 refine Dx.done (by kernel_rfl) ?_
 refine Xx.tn (k15 _ _ _ _ ?_)
 refine Cx.seq (fun K16 k16 => ?_)
 refine Cx.region <| Lx.y (mv rfl) rfl <| Lx.y (nilc rfl) rfl <| Lx.y (fa' fo113_2 rfl) rfl <| Lx.y (ld U111 rfl rfl rfl) rfl <| Lx.y (lenV (ty' := 0) U111 rfl) rfl <| Lx.y (gtr rfl rfl) rfl <| Lx.nil <| ?_
 refine Xx.tn (k16 _ _ _ _ ?_)
 refine Cx.condD rfl (fun h17 => ?_) (fun h17 => ?_)
 ·
  have hq1 : ql = nl + 1 := by have := h17; omega
  refine Cx.seq (fun K18 k18 => ?_)
  refine Xx.addrT Cl (by omega) (fun bQ hCl _ hcl3 => ?_)
  subst hCl
  have hg1 : (lp.drop (0 + nl * 1)).take 1 = [.pointer (some ⟨g, 0, none⟩)] := by rw [Nat.zero_add, Nat.mul_one, hg (by omega)]; rfl
  refine Cx.drawn (by kernel_rfl) ?_
  refine Dx.p (i := 0) rfl (by kernel_rfl) (mv rfl) rfl ?_
  refine Dx.p (i := 1) rfl (by kernel_rfl) (mv rfl) rfl ?_
  refine Dx.p (i := 2) rfl (by kernel_rfl) (nilc rfl) rfl ?_
  refine Dx.p (i := 3) rfl (by kernel_rfl) (fa' fo113_2 rfl) rfl ?_
  refine Dx.r (i := 4) rfl (by kernel_rfl) (ld U111 rfl rfl rfl) rfl ?_
  refine Dx.p (i := 5) rfl (by kernel_rfl) (mv rfl) rfl ?_
  refine Dx.p (i := 6) rfl (by kernel_rfl) (nilc rfl) rfl ?_
  refine Dx.p (i := 7) rfl (by kernel_rfl) (fa' fo113_2 rfl) rfl ?_
  refine Dx.r (i := 8) rfl (by kernel_rfl) (ld U111 rfl rfl rfl) rfl ?_
  refine Dx.p (i := 9) rfl (by kernel_rfl) (mv rfl) rfl ?_
  refine Dx.p (i := 10) rfl (by kernel_rfl) (Yx.val (add rfl rfl (show IntKind.i64.wrap _ = ((nl : Nat) : Int) by rw [wrap64 (by omega) (by omega)]; omega)) (show _ = i64 ((nl : Nat) : Int) from rfl)) rfl ?_
  refine Dx.p (i := 11) rfl (by kernel_rfl) (ia U111 sz110 rfl rfl (by first | exact Int.toNat_natCast _ | rfl) (by omega) (by omega)) rfl ?_
  refine Dx.r (i := 12) rfl (by kernel_rfl) (ldC U110 rfl rfl (Cells.buf (m := 1) hg1 (by omega))) rfl ?_
  refine Dx.one (i := 13) (by kernel_rfl) ?_
  refine Dstep.o (i := 13) rfl (bsl1 U111 ti110 rfl rfl rfl (by decide)) rfl (fun v B' H' hΦ hB => ?_)
  obtain ⟨b3, rfl, rfl, rfl⟩ := hΦ; clear hB
  refine ⟨JOk.edge (JOk.yes (JOk.yes (JOk.top) (ld U111 rfl rfl rfl)) (ld U111 rfl rfl rfl)) (by kernel_rfl), ?_⟩
  refine Dx.one (i := 14) (by kernel_rfl) ?_
  refine Dstep.o (i := 14) rfl (Ox.call rfl rfl rfl (InsN_ct Cm 0 qk cm3 kp b3 110 [.pointer (some ⟨g, 0, none⟩)] _ (by omega) (by omega) hka rfl rfl (by omega)) (pickSB _ _)) rfl (fun v B' H' hΦ hB => ?_)
  obtain ⟨_, rfl, hΦ⟩ := hΦ
  obtain ⟨Cm9, co9, rfl, hBB, rfl, ⟨_, hAco9⟩, hco9⟩ := hΦ
  subst hBB
  rename Frag => B
  clear hB
  refine ⟨JOk.yes (JOk.yes (JOk.edge (JOk.top) (by kernel_rfl)) (ld U111 rfl rfl rfl)) (ldC U110 rfl rfl (Cells.buf (m := 1) hg1 (by omega))), ?_⟩
  refine Dx.p (i := 15) rfl (by kernel_rfl) (nilc rfl) rfl ?_
  refine Dx.p (i := 16) rfl (by kernel_rfl) (fa' fo113_2 rfl) rfl ?_
  refine Dx.one (i := 17) (by kernel_rfl) ?_
  refine Dstep.o0 (i := 17) rfl (stO U111 sz111 rfl rfl rfl (by simp) rfl) (fun v B' H' hΦ hB => ?_)
  obtain ⟨rfl, rfl⟩ := hΦ; clear hB v
  refine ⟨JOk.edge (JOk.edge (JOk.edge (JOk.top) (by kernel_rfl)) (by kernel_rfl)) (by kernel_rfl), ?_⟩
  refine Dx.done (by kernel_rfl) ?_
  refine Xx.tn (k18 _ _ _ _ ?_)
  refine Cx.region <| Lx.y (mv rfl) rfl <| Lx.y (mv rfl) rfl <| Lx.y (nilc rfl) rfl <| Lx.y (fa' fo113_2 rfl) rfl <| Lx.y (ld U111 rfl rfl rfl) rfl <| Lx.y (mv rfl) rfl <| Lx.y (Yx.val (add rfl rfl (show IntKind.i64.wrap _ = ((nl : Nat) : Int) by rw [wrap64 (by omega) (by omega)]; omega)) (show _ = i64 ((nl : Nat) : Int) from rfl)) rfl <| Lx.y (sl2V U111 sz110 rfl rfl (by first | exact Int.toNat_natCast _ | rfl) (by omega) (by omega)) rfl <| Lx.y (nilc rfl) rfl <| Lx.y (fa' fo113_2 rfl) rfl <| ?_
  refine Lx.st (stO U111 sz111 rfl rfl rfl (by simp) rfl) ?_
  refine Lx.nil ?_
  refine Xx.lessT bK2 (nl - 1) (by omega) ?_
  refine Xx.lessT bV2 (nl - 1) (by omega) ?_
  refine Xx.lessT bQ nl (by omega) ?_
  exact Xx.end0 rfl ⟨rfl, rfl, Am9, cm9, Bm9, cn9, Cm9, co9, rfl⟩ (Frag.le_refl _) (by rw [show min ql nl = nl by omega, show ql - nl = 1 by omega, hg (by omega)]; simp only [Nat.zero_mul, Nat.mul_one, List.take_zero, List.drop_zero, List.nil_append, List.singleton_append, List.cons_append]; ac_rfl)
 ·
  have hq0 : ql = 0 := by have := h17; omega
  refine Cx.skip ?_
  refine Xx.lessT bK2 (nl - 1) (by omega) ?_
  refine Xx.lessT bV2 (nl - 1) (by omega) ?_
  subst hq0
  obtain rfl := List.length_eq_zero_iff.1 hlp
  exact Xx.end0 rfl ⟨rfl, rfl, Am9, cm9, Bm9, cn9, Cm, cm3, rfl⟩ (Frag.le_refl _) (by rw [show min 0 nl = 0 by omega, show 0 - nl = 0 by omega]; simp only [Nat.zero_mul, Nat.mul_one, List.take_zero, List.drop_zero, List.nil_append, List.singleton_append, List.cons_append, List.take_nil, List.drop_nil, Nat.add_zero]; ac_rfl)
end BtZ
end Go.Proofs.YtdidpocakipinaaGreatDoor
namespace Go.Proofs.YtdidpocakipinaaGreatDoor
open Go.SL Go.RowKit
set_option maxRecDepth 100000
open Ke1 Ke3 Ke4 Ke5 Ke6 Ke7 Ke8 Ke9 KeA KeB KeC KeD KeE KeF KeG KeI RgA BtB BtC BtD BtE BtG BtX BtH BtI BtF BtJ BtY BtZ
namespace DrA
def nd (c : C) : HP := nrow c * (kbuf c * (vbuf c * cbuf c))
theorem nd_mk {b ck cv cc n p : Nat} {Ak Av Ac : Option Addr} {ks vs : List Str8} {cs : List C} {kx vx cx : List Value} (hk : ks.length = n) (hv : vs.length = n) (hc : cs.length = p) (ek : ks.map str = kx) (ev : vs.map str = vx) (ec : cs.map pt = cx) :
    row b 113 [.slice Ak n ck, .slice Av n cv, .slice Ac p cc] * (sbuf 9 1 Ak n ck kx * (sbuf 9 1 Av n cv vx * sbuf 110 1 Ac p cc cx)) = nd (.mk b Ak ck Av cv Ac cc ks vs cs) := by
  subst hk ek ev ec hc
  unfold nd nrow kbuf vbuf cbuf ncells
  simp only [C.b, C.Ak, C.ck, C.Av, C.cv, C.Ac, C.cc, C.ks, C.vs, C.cs]
  rw [hv]
theorem nd_of {c : C} {n p : Nat} (hk : c.ks.length = n) (hv : c.vs.length = n) (hc : c.cs.length = p) :
    row c.b 113 [.slice c.Ak n c.ck, .slice c.Av n c.cv, .slice c.Ac p c.cc] * (sbuf 9 1 c.Ak n c.ck (c.ks.map str) * (sbuf 9 1 c.Av n c.cv (c.vs.map str) * sbuf 110 1 c.Ac p c.cc (c.cs.map pt))) = nd c := by
  cases c; exact nd_mk hk hv hc rfl rfl rfl
theorem tr_nd (d : Nat) (c : C) : tr (d + 1) c = nd c * trs (tr d) c.cs := by
  rw [tr_succ]; unfold nd; ac_rfl
theorem two_tr {d : Nat} {c : C} {A VA : List Str8} {CA : List C} {l : C} {K W : Str8} {r : C} {D VD : List Str8} {CD : List C} (h : Two c A VA CA l K W r D VD CD) : tr (d + 2) c = nd c * (nd l * (nd r * (trs (tr d) l.cs * (trs (tr d) r.cs * (trs (tr (d + 1)) CA * trs (tr (d + 1)) CD))))) := by
  rw [tr_nd, h.cs, trs_app]
  show _ * (_ * (tr (d + 1) l * (tr (d + 1) r * trs _ CD))) = _
  rw [tr_nd d l, tr_nd d r]
  ac_rfl
theorem one_tr {d : Nat} {c m : C} {CA CD : List C} (h : c.cs = CA ++ m :: CD) : tr (d + 2) c = nd c * (nd m * (trs (tr d) m.cs * (trs (tr (d + 1)) CA * trs (tr (d + 1)) CD))) := by
  rw [tr_nd, h, trs_app]
  show _ * (_ * (tr (d + 1) m * trs _ CD)) = _
  rw [tr_nd d m]
  ac_rfl
theorem trs_cut (f : C → HP) (l : List C) (n : Nat) : trs f l = trs f (l.take n) * trs f (l.drop n) := by rw [← trs_app, List.take_append_drop]
theorem set_cut {α : Type} {l : List α} {i : Nat} (h : i < l.length) (a : α) : l.set i a = l.take i ++ a :: l.drop (i + 1) := by
  rw [List.set_eq_take_append_cons_drop, if_pos h]
def MdQ (N d : Nat) (c : C) (B : Frag) (v : Value) (B' : Frag) (H' : HP) : Prop := v = .tuple #[] ∧ B' = B ∧ ∃ c', H' = tr (d + 2) c' ∧ Mended N d c c'
theorem str_at {l : List Str8} {i : Nat} (h : i < l.length) : ((l.map str).drop (0 + i * 1)).take 1 = [str l[i]] := by
  rw [Nat.zero_add, Nat.mul_one, take1 _ (by simpa using h)]; simp
theorem str_get {l : List Str8} {i : Nat} (h : i < l.length) : ((l.map str).drop (0 + i * 1)).take 1 = [str (l.getD i [])] := by
  rw [str_at h]; simp [List.getD, h]
theorem two_pts {l r l' r' : C} {CA CD cs : List C} (h : cs = CA ++ l :: r :: CD) (hl : l'.b = l.b) (hr : r'.b = r.b) : (CA ++ l' :: r' :: CD).map pt = cs.map pt := by
  subst h; simp [pt, hl, hr]
theorem fl_ct (N d : Nat) (hN : N ≤ 90) (c : C) (j : Nat) (hj : j + 1 < c.cs.length) (hok : Ok N (d + 2) c) (hx : MnX (j + 1) (d + 2) c) (h4 : 4 ≤ c.cs[j].ks.length) (h3 : c.cs[j + 1].ks.length < 3) (B : Frag) :
    Ct Tryz.prog 102 [.pointer (some ⟨c.b, 0, none⟩), i64 ((j + 1 : Nat) : Int)] B (tr (d + 2) c) (MdQ N d c B) := by
  have hv := hok.1
  have hkN := hok.2.1
  have hcl : c.cs.length = c.ks.length + 1 := by rcases hok.2.2.1 with z | z; rw [z] at hj; simp at hj; exact z
  have ht := Two.of hok (i := j) (by omega) (by omega) hj
  have okl := hok.2.2.2 _ (List.getElem_mem (show j < c.cs.length by omega))
  have okk := hok.2.2.2 _ (List.getElem_mem hj)
  have ml := hx.2 j _ (List.getElem?_eq_getElem (show j < c.cs.length by omega))
  have mk := hx.2 (j + 1) _ (List.getElem?_eq_getElem hj)
  rw [if_neg (by omega)] at ml
  rw [if_pos rfl] at mk
  have gl := Good.of okl ml.2
  have gk := Good.of okk mk.2
  have hp1 := kid_at (cs := c.cs) (i := j) (by omega)
  have hp2 := kid_at (cs := c.cs) (i := j + 1) hj
  generalize hgl : c.cs[j] = l at *
  generalize hgk : c.cs[j + 1] = k at *
  have hlv := gl.1
  have hl7 := gl.2.1
  have hlc : l.cs.length = 0 ∨ l.cs.length = l.ks.length + 1 := by rcases gl.2.2.1 with ⟨_, z⟩ | ⟨_, z⟩; exact .inl (by simp [z]); exact .inr z
  have hkv := gk.1
  have hk7 := gk.2.1
  have hkc : k.cs.length ≤ 8 := by rcases gk.2.2.1 with ⟨_, z⟩ | ⟨_, z⟩; simp [z]; omega
  have hgd : ∃ g, l.cs.length ≠ 0 → (l.cs.map pt).drop l.ks.length = [.pointer (some ⟨g, 0, none⟩)] := by
    by_cases h0 : l.cs.length = 0
    · exact ⟨0, fun z => absurd h0 z⟩
    · have hlt : l.ks.length < l.cs.length := by omega
      refine ⟨l.cs[l.ks.length].b, fun _ => ?_⟩
      rw [List.drop_eq_getElem_cons (by simpa using hlt), List.drop_of_length_le (by simp; omega)]
      simp [pt]
  obtain ⟨g, hg⟩ := hgd
  have hraw := fl_raw c.b l.b k.b c.ks.length l.ks.length k.ks.length c.cs.length l.cs.length k.cs.length (j + 1) c.Ak c.Av c.Ac l.Ak l.Av l.Ac k.Ak k.Av k.Ac c.ck c.cv c.cc l.ck l.cv l.cc k.ck k.cv k.cc c.ks c.vs l.ks l.vs k.ks k.vs (c.cs.map pt) (l.cs.map pt) (k.cs.map pt) (c.ks[j]'(by omega)) (c.vs[j]'(by omega)) (l.ks.getD (l.ks.length - 1) []) (l.vs.getD (l.ks.length - 1) []) B (by omega) hcl (by omega) hj rfl hv (by simp) ⟨h4, hl7⟩ hk7 rfl hlv rfl hkv hlc (by simp) (by simp) hkc
    hp1 hp2 (str_at (by omega)) (str_at (by omega)) (str_get (by omega)) (str_get (by omega)) g hg (pts_all _) (pts_all _) (pts_all _)
  refine ctTo (ctFrame (trs (tr d) l.cs * (trs (tr d) k.cs * (trs (tr (d + 1)) (c.cs.take j) * trs (tr (d + 1)) (c.cs.drop (j + 2))))) hraw) ?_ ?_
  · rw [two_tr ht, ← nd_of (c := c) rfl hv rfl, ← nd_of (c := l) rfl hlv rfl, ← nd_of (c := k) rfl hkv rfl]
    ac_rfl
  · rintro v B' H' ⟨H0, ⟨rfl, rfl, Am9, cm9, Bm9, cn9, Cm9, co9, rfl⟩, rfl⟩
    obtain ⟨l', hl'⟩ : ∃ l' : C, l' = .mk l.b l.Ak l.ck l.Av l.cv l.Ac l.cc (l.ks.take (l.ks.length - 1)) (l.vs.take (l.ks.length - 1)) (l.cs.take l.ks.length) := ⟨_, rfl⟩
    obtain ⟨k', hk'⟩ : ∃ k' : C, k' = .mk k.b Am9 cm9 Bm9 cn9 Cm9 co9 ((c.ks[j]'(by omega)) :: k.ks) ((c.vs[j]'(by omega)) :: k.vs) (l.cs.drop l.ks.length ++ k.cs) := ⟨_, rfl⟩
    obtain ⟨c', hc'⟩ : ∃ c' : C, c' = .mk c.b c.Ak c.ck c.Av c.cv c.Ac c.cc (c.ks.set j (l.ks.getD (l.ks.length - 1) [])) (c.vs.set j (l.vs.getD (l.ks.length - 1) [])) (c.cs.take j ++ l' :: k' :: c.cs.drop (j + 2)) := ⟨_, rfl⟩
    have h' : Two c' (c.ks.take j) (c.vs.take j) (c.cs.take j) l' (l.ks.getD (l.ks.length - 1) []) (l.vs.getD (l.ks.length - 1) []) k' (c.ks.drop (j + 1)) (c.vs.drop (j + 1)) (c.cs.drop (j + 2)) :=
      ⟨by rw [hc']; exact set_cut (by omega) _, by rw [hc']; exact set_cut (by omega) _, by rw [hc']; rfl, ht.ha, ht.hca, ht.hd, ht.hcd⟩
    have hAl : (c.ks.take j).length = j := by simp; omega
    have hm : Mended N d c c' := left_mend ht h' (by rw [hc']; rfl) hok (by rw [hAl]; exact hx) gl gk h4 mk.1 h3 (by rw [hl']; rfl) (by rw [hl']; rfl) (by rw [hl']; rfl) (by rw [hk']; rfl) (by rw [hk']; rfl) (by rw [hk']; rfl)
    refine ⟨rfl, rfl, c', ?_, hm⟩
    have e1 := nd_mk (b := c.b) (Ak := c.Ak) (ck := c.ck) (Av := c.Av) (cv := c.cv) (Ac := c.Ac) (cc := c.cc) (ks := c.ks.set j (l.ks.getD (l.ks.length - 1) [])) (vs := c.vs.set j (l.vs.getD (l.ks.length - 1) [])) (cs := c.cs.take j ++ l' :: k' :: c.cs.drop (j + 2)) (n := c.ks.length) (p := c.cs.length) (by simp) (by simp; omega) (by simp; omega) rfl rfl (two_pts ht.cs (by rw [hl']; rfl) (by rw [hk']; rfl))
    have e2 := nd_mk (b := l.b) (Ak := l.Ak) (ck := l.ck) (Av := l.Av) (cv := l.cv) (Ac := l.Ac) (cc := l.cc) (ks := l.ks.take (l.ks.length - 1)) (vs := l.vs.take (l.ks.length - 1)) (cs := l.cs.take l.ks.length) (n := l.ks.length - 1) (p := min l.cs.length l.ks.length) (by simp) (by simp; omega) (by simp; omega) (List.map_take ..) (List.map_take ..) (List.map_take ..)
    have e3 := nd_mk (b := k.b) (Ak := Am9) (ck := cm9) (Av := Bm9) (cv := cn9) (Ac := Cm9) (cc := co9) (ks := (c.ks[j]'(by omega)) :: k.ks) (vs := (c.vs[j]'(by omega)) :: k.vs) (cs := l.cs.drop l.ks.length ++ k.cs) (n := k.ks.length + 1) (p := k.cs.length + (l.cs.length - l.ks.length)) (by simp) (by simp; omega) (by simp; omega) rfl rfl (cx := (l.cs.map pt).drop l.ks.length ++ k.cs.map pt) (by simp)
    rw [← hc'] at e1
    rw [← hl'] at e2
    rw [← hk'] at e3
    rw [two_tr h', ← e1, ← e2, ← e3, show l'.cs = l.cs.take l.ks.length by rw [hl']; rfl, show k'.cs = l.cs.drop l.ks.length ++ k.cs by rw [hk']; rfl, trs_app (tr d), trs_cut (tr d) l.cs l.ks.length]
    simp only [Nat.add_sub_cancel, List.map_cons]
    ac_rfl
end DrA
end Go.Proofs.YtdidpocakipinaaGreatDoor
namespace Go.SL
open Go.RowKit
open Go.ChangeMaps (setBlock)
abbrev Me := Int × Value × Nat
def me (t : Me) : MapEntry := ⟨.int .i64 t.1, t.2.1, t.2.2⟩
def Stp (T : List Me) (c : Nat) : Prop := (T.map fun t => t.2.2).Nodup ∧ ∀ t ∈ T, t.2.2 < c
def kvs (T : List Me) : List (Int × Value) := T.map fun t => (t.1, t.2.1)
abbrev mapObj (T : List Me) (c : Nat) : Obj := .map (T.map me).toArray c
def imap (b : Nat) (l : List (Int × Value)) : HP := fun h => ∃ T c, Stp T c ∧ kvs T = l ∧ blk b (mapObj T c) h
def mget (k : Int) : List (Int × Value) → Option Value
  | [] => none
  | (j, v) :: l => if k = j then some v else mget k l
def mset (k : Int) (v : Value) : List (Int × Value) → List (Int × Value)
  | [] => [(k, v)]
  | (j, u) :: l => if k = j then (k, v) :: l else (j, u) :: mset k v l
def mdel (k : Int) : List (Int × Value) → List (Int × Value)
  | [] => []
  | (j, u) :: l => if k = j then l else (j, u) :: mdel k l
def mix (k : Int) : List Me → Option (Nat × Value)
  | [] => none
  | t :: T => if k = t.1 then some (0, t.2.1) else (mix k T).map fun p => (p.1 + 1, p.2)
section
variable {P : Program} {w : World} {t kt et : TypeId} {b c : Nat} {T : List Me} {k : Int}
def newV (k : Int) (v : Value) (t : Me) : Me := (k, v, t.2.2)
theorem map_modify {α β : Type} (f : α → β) (g : α → α) (g' : β → β) (h : ∀ x, f (g x) = g' (f x)) : ∀ (l : List α) (j : Nat), (l.modify j g).map f = (l.map f).modify j g' := by
  intro l
  induction l with
  | nil => intro j; simp
  | cons x l ih =>
    intro j
    cases j with
    | zero => simp [h]
    | succ j => simp [ih]
end
class PickM (H : HP) (b : Nat) (l : outParam (List (Int × Value))) (R : outParam HP) : Prop where
  eq : H = imap b l * R
instance (b : Nat) (l : List (Int × Value)) (R : HP) : PickM (imap b l * R) b l R := ⟨rfl⟩
instance (y H : HP) (b : Nat) (l : List (Int × Value)) (R : HP) [h : PickM H b l R] : PickM (y * H) b l (y * R) := ⟨by rw [h.eq, star_left]⟩
theorem heap_setBlock_ne (w : World) (b : Nat) (o : Obj) (j : Nat) (h : j ≠ b) : (setBlock w b o).heap[j]? = w.heap[j]? := by
  simp only [setBlock, Array.getElem?_setIfInBounds]
  rw [if_neg (by omega)]
theorem St.setBlk {N0 b : Nat} {B : Frag} {R : HP} {w : World} {o : Obj} (h : St N0 B (SL.blk b o * R) w) (o' : Obj) : St N0 B (SL.blk b o' * R) (setBlock w b o') ∧ Below N0 w (setBlock w b o') := by
  obtain ⟨h1, h2, h3⟩ := h.blk
  have hlt : b < w.heap.size := (Array.getElem?_eq_some_iff.1 h1).1
  refine ⟨h.put (by simp [setBlock, hlt]) (fun j hj => heap_setBlock_ne _ _ _ _ hj) (by simp [setBlock]), ⟨rfl, rfl, rfl, by simp [setBlock], fun j hj => heap_setBlock_ne _ _ _ _ (by omega)⟩⟩
section
variable {e : Env} {ds : List Deferred} {ρ : Sl} {B : Frag} {H R : HP} {t kt et ty tk : TypeId} {x y z : Operand} {b : Nat} {l : List (Int × Value)} {k : Int} {v zv : Value}
abbrev itObj (b c : Nat) (done : List Me) : Obj := .mapIter (some b) c (done.map fun t => t.2.2).toArray c
def Vis (T done : List Me) : Prop := (∀ t ∈ done, t ∈ T) ∧ (done.map fun t => t.2.2).Nodup
theorem nodup_of_map {α β : Type} (f : α → β) : ∀ {l : List α}, (l.map f).Nodup → l.Nodup := by
  intro l
  induction l with
  | nil => intro _; exact List.nodup_nil
  | cons x l ih =>
    intro h
    rw [List.map_cons, List.nodup_cons] at h
    exact List.nodup_cons.2 ⟨fun hx => h.1 (List.mem_map.2 ⟨x, hx, rfl⟩), ih h.2⟩
theorem nodup_len {α : Type} : ∀ (l m : List α), l.Nodup → (∀ x ∈ l, x ∈ m) → l.length ≤ m.length := by
  classical
  intro l
  induction l with
  | nil => intro m _ _; simp
  | cons x l ih =>
    intro m hn hm
    rw [List.nodup_cons] at hn
    have hx := hm x (by simp)
    have := ih (m.erase x) hn.2 fun y hy => (List.mem_erase_of_ne (fun e => hn.1 (by rw [← e]; exact hy))).2 (hm y (by simp [hy]))
    rw [List.length_erase_of_mem hx] at this
    have := List.length_pos_of_mem hx
    simp; omega
def nx : Option Me → Array Value
  | none => #[.bool false]
  | some t => #[.bool true, .int .i64 t.1, t.2.1]
def After (T done : List Me) (done' : List Me) : Option Me → Prop
  | none => done' = done ∧ ∀ t ∈ T, t.2.2 ∈ done.map fun t => t.2.2
  | some t => done' = done ++ [t] ∧ t ∈ T ∧ t.2.2 ∉ done.map fun t => t.2.2
end
section
variable {e : Env} {ds : List Deferred} {ρ : Sl} {B : Frag} {H R R2 : HP} {ty : TypeId} {x : Operand} {b i c : Nat} {T done : List Me}
end
end Go.SL
