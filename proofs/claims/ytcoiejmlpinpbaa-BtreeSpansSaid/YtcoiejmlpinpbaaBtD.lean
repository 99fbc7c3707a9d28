/-
  A full node halved.
-/
import Derived.Test.YtcoiejmlpinpbaaProg
import Derived.Test.YtcoiejmlpinpbaaSlj
import Derived.Test.YtcoiejmlpinpbaaBtC
namespace Go.Proofs.Ytcoiejmlpinpbaa
open Go.SL Go.RowKit
set_option linter.unusedVariables false
set_option linter.unusedSimpArgs false
set_option maxRecDepth 100000
open BtA BtB BtC
namespace BtD
theorem sz9 : (Try.prog.info? 9).map (·.size) = some 1 := by kernel_rfl
theorem sz22 : (Try.prog.info? 22).map (·.size) = some 1 := by kernel_rfl
theorem sz67 : (Try.prog.info? 67).map (·.size) = some 1 := by kernel_rfl
theorem sz68 : (Try.prog.info? 68).map (·.size) = some 1 := by kernel_rfl
theorem ti9 : TI Try.prog 9 [str []] 1 16 := TI.of (by kernel_rfl) rfl rfl
theorem ti67 : TI Try.prog 67 [.pointer none] 1 8 := TI.of (by kernel_rfl) rfl rfl
theorem ti70 : TI Try.prog 70 [.slice none 0 0, .slice none 0 0, .slice none 0 0] 3 72 := TI.of (by kernel_rfl) rfl rfl
theorem fo70_0 : FO Try.prog 70 0 0 1 false := FO.of Try.underlying70 rfl rfl (by kernel_rfl) Try.underlying22 rfl rfl
theorem fo70_1 : FO Try.prog 70 1 1 1 false := FO.of Try.underlying70 rfl rfl (by kernel_rfl) Try.underlying22 rfl rfl
theorem fo70_2 : FO Try.prog 70 2 2 1 false := FO.of Try.underlying70 rfl rfl (by kernel_rfl) Try.underlying68 rfl rfl
theorem pl70 : PL Try.prog 70 [(0, 1), (1, 1), (2, 1)] := PL.of Try.underlying70 (by kernel_rfl)

theorem strs_all (l : List Str8) : (l.map str).all (·.oneCell') = true := by
  rw [List.all_eq_true]; intro v hv; obtain ⟨x, _, rfl⟩ := List.mem_map.1 hv; rfl
theorem BSo_ct (ks : List Str8) (t : Str8) (A : Option Addr) (c n : Nat) (B : Frag) (hl : ks.length = n) (hs : Srt ks) (hn : n ≤ 4611686018427387904) : CtC Try.prog 37 [.slice A n c, str t] B (sbuf 9 1 A n c (ks.map str)) (.tuple #[i64 (lb ks t : Nat), .bool (decide (t ∈ ks))]) (sbuf 9 1 A n c (ks.map str)) := by
  subst hl
  exact CtC.lend (Go.SL.enters_of Try.func37 rfl (by kernel_rfl)) fun k hk ha => BS_ct ks t A c _ (roe_of (sbuf_ro hk ha).1) hs hn

theorem CloneSo_ct (b n c j : Nat) (xs : List Value) (B : Frag) (hj : j < n) (h1 : xs.all (·.oneCell') = true) (hbd : n * 16 ≤ 140737488355328) : Ct Try.prog 64 [.slice (some ⟨b, 0 + j * 1, none⟩) (n - j) (c - j)] B (sbuf 9 1 (some ⟨b, 0, none⟩) n c xs) (fun v B' H' => B' = B ∧ ∃ H0, (∃ A' c', v = .slice A' (n - j) c' ∧ H0 = sbuf 9 1 A' (n - j) c' (xs.drop (j * 1)) ∧ n - j ≤ c') ∧ H' = sbuf 9 1 (some ⟨b, 0, none⟩) n c xs * H0) := by
  have h := Ct.lend (p := sbuf 9 1 (some ⟨b, 0, none⟩) n c xs) (q := 1) (B := B) (args := [.slice (some ⟨b, 0 + j * 1, none⟩) (n - j) (c - j)]) (Φ := fun v H0 => ∃ A' c', v = .slice A' (n - j) c' ∧ H0 = sbuf 9 1 A' (n - j) c' (xs.drop (j * 1)) ∧ n - j ≤ c') (Go.SL.enters_of Try.func64 rfl (by kernel_rfl)) (fun k hk ha => CloneS_ct _ _ _ _ _ (by omega) (RoS.cut (c := c) (sbuf_ro hk ha).1 (by omega)) (by rw [List.all_eq_true] at h1 ⊢; exact fun v hv => h1 v (List.mem_of_mem_drop hv)) (by omega))
  rw [star_comm, one_star] at h
  exact h

theorem CloneNo_ct (b n c j : Nat) (xs : List Value) (B : Frag) (hj : j < n) (h1 : xs.all (·.oneCell') = true) (hbd : n * 16 ≤ 140737488355328) : Ct Try.prog 65 [.slice (some ⟨b, 0 + j * 1, none⟩) (n - j) (c - j)] B (sbuf 67 1 (some ⟨b, 0, none⟩) n c xs) (fun v B' H' => B' = B ∧ ∃ H0, (∃ A' c', v = .slice A' (n - j) c' ∧ H0 = sbuf 67 1 A' (n - j) c' (xs.drop (j * 1)) ∧ n - j ≤ c') ∧ H' = sbuf 67 1 (some ⟨b, 0, none⟩) n c xs * H0) := by
  have h := Ct.lend (p := sbuf 67 1 (some ⟨b, 0, none⟩) n c xs) (q := 1) (B := B) (args := [.slice (some ⟨b, 0 + j * 1, none⟩) (n - j) (c - j)]) (Φ := fun v H0 => ∃ A' c', v = .slice A' (n - j) c' ∧ H0 = sbuf 67 1 A' (n - j) c' (xs.drop (j * 1)) ∧ n - j ≤ c') (Go.SL.enters_of Try.func65 rfl (by kernel_rfl)) (fun k hk ha => CloneN_ct _ _ _ _ _ (by omega) (RoS.cut (c := c) (sbuf_ro hk ha).1 (by omega)) (by rw [List.all_eq_true] at h1 ⊢; exact fun v hv => h1 v (List.mem_of_mem_drop hv)) (by omega))
  rw [star_comm, one_star] at h
  exact h

set_option maxHeartbeats 4000000 in
theorem halve_raw (b n p q i b2 : Nat) (Ak Av Ac Ak2 Av2 Ac2 : Option Addr) (ck cv cc ck2 cv2 cc2 : Nat) (ks vs k7 v7 : List Str8) (ps qs : List Value) (kM vM : Str8) (B : Frag) (hn : n ≤ 100) (hp : p = n + 1) (hi : i < p) (hks : ks.length = n) (hvs : vs.length = n) (hpl : ps.length = p) (hk7 : k7.length = 7) (hv7 : v7.length = 7) (hq : q = 0 ∨ q = 8) (hql : qs.length = q) (hpi : (ps.drop (0 + i * 1)).take 1 = [.pointer (some ⟨b2, 0, none⟩)]) (hk3 : ((k7.map str).drop (0 + 3 * 1)).take 1 = [str kM]) (hv3 : ((v7.map str).drop (0 + 3 * 1)).take 1 = [str vM]) (hpa : ps.all (·.oneCell') = true) (hqa : qs.all (·.oneCell') = true) : Ct Try.prog 34 [.pointer (some ⟨b, 0, none⟩), i64 i] B (row b 70 [.slice Ak n ck, .slice Av n cv, .slice Ac p cc] * (sbuf 9 1 Ak n ck (ks.map str) * (sbuf 9 1 Av n cv (vs.map str) * (sbuf 67 1 Ac p cc ps * row b2 70 [.slice Ak2 7 ck2, .slice Av2 7 cv2, .slice Ac2 q cc2] * (sbuf 9 1 Ak2 7 ck2 (k7.map str) * (sbuf 9 1 Av2 7 cv2 (v7.map str) * sbuf 67 1 Ac2 q cc2 qs)))))) (fun v B' H' => v = .tuple #[] ∧ B' = B ∧ ∃ Ak' ck' Av' cv' Ac' cc' cc2' Ac2' b3 Ak3 ck3 Av3 cv3 Ac3 cc3, H' = row b 70 [.slice Ak' (n + 1) ck', .slice Av' (n + 1) cv', .slice Ac' (p + 1) cc'] * (sbuf 9 1 Ak' (n + 1) ck' ((ks.map str).take (i * 1) ++ [str kM] ++ (ks.map str).drop (i * 1)) * (sbuf 9 1 Av' (n + 1) cv' ((vs.map str).take (i * 1) ++ [str vM] ++ (vs.map str).drop (i * 1)) * (sbuf 67 1 Ac' (p + 1) cc' (ps.take ((i + 1) * 1) ++ [.pointer (some ⟨b3, 0, none⟩)] ++ ps.drop ((i + 1) * 1)) * (row b2 70 [.slice Ak2 3 ck2, .slice Av2 3 cv2, .slice Ac2' (min q 4) cc2'] * (sbuf 9 1 Ak2 3 ck2 ((k7.map str).take (3 * 1)) * (sbuf 9 1 Av2 3 cv2 ((v7.map str).take (3 * 1)) * (sbuf 67 1 Ac2' (min q 4) cc2' (qs.take (4 * 1)) * (row b3 70 [.slice Ak3 (7 - 4) ck3, .slice Av3 (7 - 4) cv3, .slice Ac3 (q - 4) cc3] * (sbuf 9 1 Ak3 (7 - 4) ck3 ((k7.map str).drop (4 * 1)) * (sbuf 9 1 Av3 (7 - 4) cv3 ((v7.map str).drop (4 * 1)) * sbuf 67 1 Ac3 (q - 4) cc3 (qs.drop (4 * 1))))))))))))) := by
  refine Ct.of_body Try.func34 rfl (nt := 129) rfl (by kernel_rfl) rfl ?_
  intro N0 w0 R
  simp only [star_assoc]
  refine Xx.addrT Ac (by omega) (fun bC hAc _ _ => ?_)
  subst hAc
  refine Xx.addrT Ak2 (by omega) (fun bK hAk _ hck2 => ?_)
  subst hAk
  refine Xx.addrT Av2 (by omega) (fun bV hAv _ hcv2 => ?_)
  subst hAv
  refine Cx.seq (fun K1 k1 => ?_)
  refine Cx.region ?_
  refine Lx.y (mv rfl) rfl ?_
  refine Lx.y (nilc rfl) rfl ?_
  refine Lx.y (fa' fo70_2 rfl) rfl ?_
  refine Lx.y (ld Try.underlying68 rfl rfl rfl) rfl ?_
  refine Lx.y (mv rfl) rfl ?_
  refine Lx.y (ia Try.underlying68 sz67 rfl rfl (by first | exact Int.toNat_natCast _ | rfl) (by omega) (by omega)) rfl ?_
  refine Lx.y (ldC Try.underlying67 rfl rfl (Cells.buf (m := 1) hpi (by omega))) rfl ?_
  refine Lx.y (asg rfl) rfl ?_
  refine Lx.nil ?_
  refine Xx.tn (k1 _ _ _ _ ?_)
  refine Cx.seq (fun K2 k2 => ?_)
  refine Cx.region ?_
  refine Lx.y (mv rfl) rfl ?_
  refine Lx.y (nilc rfl) rfl ?_
  refine Lx.y (fa' fo70_0 rfl) rfl ?_
  refine Lx.y (ld Try.underlying22 rfl rfl rfl) rfl ?_
  refine Lx.y (Yx.val (lenV (ty' := 0) Try.underlying22 rfl) (show _ = i64 ((7 : Nat) : Int) from rfl)) rfl ?_
  refine Lx.y (Yx.val (quoN rfl rfl (by decide) (by decide) (show IntKind.i64.wrap _ = _ from rfl)) (show _ = i64 ((3 : Nat) : Int) from rfl)) rfl ?_
  refine Lx.y (asg rfl) rfl ?_
  refine Lx.nil ?_
  refine Xx.tn (k2 _ _ _ _ ?_)
  refine Cx.seq (fun K3 k3 => ?_)
  refine Cx.drawn (by kernel_rfl) ?_
  refine Dx.p (i := 0) rfl (by kernel_rfl) (mv rfl) rfl ?_
  refine Dx.p (i := 1) rfl (by kernel_rfl) (nilc rfl) rfl ?_
  refine Dx.p (i := 2) rfl (by kernel_rfl) (fa' fo70_0 rfl) rfl ?_
  refine Dx.r (i := 3) rfl (by kernel_rfl) (ld Try.underlying22 rfl rfl rfl) rfl ?_
  refine Dx.p (i := 4) rfl (by kernel_rfl) (mv rfl) rfl ?_
  refine Dx.p (i := 5) rfl (by kernel_rfl) (Yx.val (add rfl rfl (show IntKind.i64.wrap _ = _ from rfl)) (show _ = i64 ((4 : Nat) : Int) from rfl)) rfl ?_
  refine Dx.p (i := 6) rfl (by kernel_rfl) (sl1A 4 Try.underlying22 sz9 rfl rfl rfl (by omega) (by omega)) rfl ?_
  refine Dx.p (i := 8) rfl (by kernel_rfl) (mv rfl) rfl ?_
  refine Dx.p (i := 9) rfl (by kernel_rfl) (nilc rfl) rfl ?_
  refine Dx.p (i := 10) rfl (by kernel_rfl) (fa' fo70_1 rfl) rfl ?_
  refine Dx.r (i := 11) rfl (by kernel_rfl) (ld Try.underlying22 rfl rfl rfl) rfl ?_
  refine Dx.p (i := 12) rfl (by kernel_rfl) (mv rfl) rfl ?_
  refine Dx.p (i := 13) rfl (by kernel_rfl) (Yx.val (add rfl rfl (show IntKind.i64.wrap _ = _ from rfl)) (show _ = i64 ((4 : Nat) : Int) from rfl)) rfl ?_
  refine Dx.p (i := 14) rfl (by kernel_rfl) (sl1A 4 Try.underlying22 sz9 rfl rfl rfl (by omega) (by omega)) rfl ?_
  refine Dx.one (i := 7) (by kernel_rfl) ?_
  refine Dstep.o (i := 7) rfl (Ox.call rfl rfl rfl (CloneSo_ct bK 7 ck2 4 _ _ (by omega) (strs_all _) (by omega)) (pickS _)) rfl (fun v B' H' hΦ hB => ?_)
  obtain ⟨_, rfl, hΦ⟩ := hΦ
  obtain ⟨hBB, H0, ⟨Ak3, ck3, rfl, rfl, hck3⟩, rfl⟩ := hΦ
  subst hBB
  rename Frag => B
  clear hB
  rw [star_assoc]
  refine ⟨JOk.yes (JOk.yes (JOk.top) (ld Try.underlying22 rfl rfl rfl)) (ld Try.underlying22 rfl rfl rfl), ?_⟩
  refine Dx.one (i := 15) (by kernel_rfl) ?_
  refine Dstep.o (i := 15) rfl (Ox.call rfl rfl rfl (CloneSo_ct bV 7 cv2 4 _ _ (by omega) (strs_all _) (by omega)) (pickS _)) rfl (fun v B' H' hΦ hB => ?_)
  obtain ⟨_, rfl, hΦ⟩ := hΦ
  obtain ⟨hBB, H0, ⟨Av3, cv3, rfl, rfl, hcv3⟩, rfl⟩ := hΦ
  subst hBB
  rename Frag => B
  clear hB
  rw [star_assoc]
  refine ⟨JOk.yes (JOk.yes (JOk.top) (ld Try.underlying22 rfl rfl rfl)) (ld Try.underlying22 rfl rfl rfl), ?_⟩
  refine Dx.p (i := 16) rfl (by kernel_rfl) (bld ti70 pl70 rfl rfl) rfl ?_
  refine Dx.one (i := 17) (by kernel_rfl) ?_
  refine Dstep.o (i := 17) rfl (boxA rfl) rfl (fun v B' H' hΦ hB => ?_)
  obtain ⟨b3, rfl, rfl, rfl⟩ := hΦ; clear hB
  refine ⟨JOk.yes (JOk.yes (JOk.top) (ld Try.underlying22 rfl rfl rfl)) (ld Try.underlying22 rfl rfl rfl), ?_⟩
  refine Dx.p (i := 18) rfl (by kernel_rfl) (asg rfl) rfl ?_
  refine Dx.done (by kernel_rfl) ?_
  refine Xx.tn (k3 _ _ _ _ ?_)
  rename Frag => B
  refine Cx.cutK (ds' := []) (Sub.cons (s := 0) rfl (Sub.cons (s := 1) rfl (Sub.cons (s := 4) rfl (Sub.cons (s := 5) rfl (Sub.cons (s := 6) rfl (Sub.cons (s := 7) rfl (Sub.cons (s := 8) rfl (Sub.cons (s := 9) rfl (Sub.cons (s := 10) rfl (Sub.cons (s := 11) rfl (Sub.cons (s := 12) rfl (Sub.cons (s := 13) rfl (Sub.cons (s := 14) rfl (Sub.cons (s := 15) rfl (Sub.cons (s := 16) rfl (Sub.cons (s := 17) rfl (Sub.cons (s := 18) rfl (Sub.cons (s := 19) rfl (Sub.cons (s := 20) rfl (Sub.cons (s := 21) rfl (Sub.cons (s := 22) rfl (Sub.cons (s := 23) rfl (Sub.cons (s := 24) rfl (Sub.cons (s := 25) rfl (Sub.cons (s := 26) rfl (Sub.cons (s := 27) rfl (Sub.cons (s := 28) rfl (Sub.cons (s := 29) rfl (Sub.cons (s := 30) rfl (Sub.cons (s := 31) rfl (Sub.cons (s := 32) rfl (Sub.cons (s := 33) rfl (Sub.cons (s := 34) rfl (Sub.cons (s := 35) rfl (Sub.cons (s := 36) rfl (Sub.cons (s := 37) rfl (Sub.nil _))))))))))))))))))))))))))))))))))))) (fun ρ' B' H' => ∃ Ac2' cc2' Ac3 cc3, ρ' = [] ∧ B = B' ∧ row b 70 [.slice Ak n ck, .slice Av n cv, .slice (some ⟨bC, 0, none⟩) p cc] * (sbuf 9 1 Ak n ck (ks.map str) * (sbuf 9 1 Av n cv (vs.map str) * (row b2 70 [.slice (some ⟨bK, 0, none⟩) 7 ck2, .slice (some ⟨bV, 0, none⟩) 7 cv2, .slice Ac2' (min q 4) cc2'] * (row b3 70 [.slice Ak3 (7 - 4) ck3, .slice Av3 (7 - 4) cv3, .slice Ac3 (q - 4) cc3] * (sbuf 67 1 Ac2' (min q 4) cc2' (qs.take (4 * 1)) * (sbuf 67 1 Ac3 (q - 4) cc3 (qs.drop (4 * 1)) * (sbuf 9 1 (some ⟨bV, 0, none⟩) 7 cv2 (v7.map str) * (sbuf 9 1 Av3 (7 - 4) cv3 ((v7.map str).drop (4 * 1)) * (sbuf 9 1 (some ⟨bK, 0, none⟩) 7 ck2 (k7.map str) * (sbuf 9 1 Ak3 (7 - 4) ck3 ((k7.map str).drop (4 * 1)) * (sbuf 67 1 (some ⟨bC, 0, none⟩) p cc ps * R))))))))))) = H') ?_ ?_
  · skip
    refine Cx.seq (fun K4 k4 => ?_)
    refine Cx.region ?_
    refine Lx.y (mv rfl) rfl ?_
    refine Lx.y (nilc rfl) rfl ?_
    refine Lx.y (fa' fo70_2 rfl) rfl ?_
    refine Lx.y (ld Try.underlying68 rfl rfl rfl) rfl ?_
    refine Lx.y (lenV (ty' := 0) Try.underlying68 rfl) rfl ?_
    refine Lx.y (gtr rfl rfl) rfl ?_
    refine Lx.nil ?_
    refine Xx.tn (k4 _ _ _ _ ?_)
    refine Cx.condD rfl (fun h5 => ?_) (fun h5 => ?_)
    · skip
      have hq8 : q = 8 := by have := h5; omega
      refine Cx.seq (fun K6 k6 => ?_)
      refine Xx.addrT Ac2 (by omega) (fun bQ hAq _ hcq => ?_)
      subst hAq
      refine Cx.region ?_
      refine Lx.y (mv rfl) rfl ?_
      refine Lx.y (mv rfl) rfl ?_
      refine Lx.y (nilc rfl) rfl ?_
      refine Lx.y (fa' fo70_2 rfl) rfl ?_
      refine Lx.y (ld Try.underlying68 rfl rfl rfl) rfl ?_
      refine Lx.y (mv rfl) rfl ?_
      refine Lx.y (Yx.val (add rfl rfl (show IntKind.i64.wrap _ = _ from rfl)) (show _ = i64 ((4 : Nat) : Int) from rfl)) rfl ?_
      refine Lx.y (sl1A 4 Try.underlying68 sz67 rfl rfl rfl (by omega) (by omega)) rfl ?_
      refine Lx.c rfl rfl rfl (CloneNo_ct bQ q cc2 4 _ _ (by omega) hqa (by omega)) (pickS _) rfl ?_
      rintro v B1 H1 ⟨hBB, H0, ⟨Ac3, cc3, rfl, rfl, hcc3⟩, rfl⟩ hB1
      subst hBB
      rename Frag => B
      clear hB1
      rw [star_assoc]
      refine Lx.y (nilc rfl) rfl ?_
      refine Lx.y (fa' fo70_2 rfl) rfl ?_
      refine Lx.st (stO Try.underlying68 sz68 rfl rfl rfl (by simp) rfl) ?_
      refine Lx.nil ?_
      refine Xx.tn (k6 _ _ _ _ ?_)
      refine Cx.region ?_
      refine Lx.y (mv rfl) rfl ?_
      refine Lx.y (mv rfl) rfl ?_
      refine Lx.y (nilc rfl) rfl ?_
      refine Lx.y (fa' fo70_2 rfl) rfl ?_
      refine Lx.y (ld Try.underlying68 rfl rfl rfl) rfl ?_
      refine Lx.y (mv rfl) rfl ?_
      refine Lx.y (Yx.val (add rfl rfl (show IntKind.i64.wrap _ = _ from rfl)) (show _ = i64 ((4 : Nat) : Int) from rfl)) rfl ?_
      refine Lx.y (sl2V Try.underlying68 sz67 rfl rfl (by first | exact Int.toNat_natCast _ | rfl) (by omega) (by omega)) rfl ?_
      refine Lx.y (nilc rfl) rfl ?_
      refine Lx.y (fa' fo70_2 rfl) rfl ?_
      refine Lx.st (stO Try.underlying68 sz68 rfl rfl rfl (by simp) rfl) ?_
      refine Lx.nil ?_
      refine Xx.lessT bQ 4 (by omega) ?_
      exact Xx.mkK (⟨some ⟨bQ, 0, none⟩, cc2, Ac3, cc3, rfl, rfl, by rw [show min q 4 = 4 by omega]; ac_rfl⟩) (Sub.cons (s := 0) rfl (Sub.cons (s := 1) rfl (Sub.cons (s := 4) rfl (Sub.cons (s := 5) rfl (Sub.cons (s := 6) rfl (Sub.cons (s := 7) rfl (Sub.cons (s := 8) rfl (Sub.cons (s := 9) rfl (Sub.cons (s := 10) rfl (Sub.cons (s := 11) rfl (Sub.cons (s := 12) rfl (Sub.cons (s := 13) rfl (Sub.cons (s := 14) rfl (Sub.cons (s := 15) rfl (Sub.cons (s := 16) rfl (Sub.cons (s := 17) rfl (Sub.cons (s := 18) rfl (Sub.cons (s := 19) rfl (Sub.cons (s := 20) rfl (Sub.cons (s := 21) rfl (Sub.cons (s := 22) rfl (Sub.cons (s := 23) rfl (Sub.cons (s := 24) rfl (Sub.cons (s := 25) rfl (Sub.cons (s := 26) rfl (Sub.cons (s := 27) rfl (Sub.cons (s := 28) rfl (Sub.cons (s := 29) rfl (Sub.cons (s := 30) rfl (Sub.cons (s := 31) rfl (Sub.cons (s := 32) rfl (Sub.cons (s := 33) rfl (Sub.cons (s := 34) rfl (Sub.cons (s := 35) rfl (Sub.cons (s := 36) rfl (Sub.cons (s := 37) rfl (Sub.nil _)))))))))))))))))))))))))))))))))))))
    · skip
      have hq0 : q = 0 := by have := h5; omega
      refine Cx.skip ?_
      exact Xx.mkK (⟨Ac2, cc2, none, 0, rfl, rfl, by subst hq0; obtain rfl := List.length_eq_zero_iff.1 hql; simp only [Nat.zero_sub, Nat.zero_min, List.take_nil, List.drop_nil, sbuf_nil, one_star]; ac_rfl⟩) (Sub.cons (s := 0) rfl (Sub.cons (s := 1) rfl (Sub.cons (s := 4) rfl (Sub.cons (s := 5) rfl (Sub.cons (s := 6) rfl (Sub.cons (s := 7) rfl (Sub.cons (s := 8) rfl (Sub.cons (s := 9) rfl (Sub.cons (s := 10) rfl (Sub.cons (s := 11) rfl (Sub.cons (s := 12) rfl (Sub.cons (s := 13) rfl (Sub.cons (s := 14) rfl (Sub.cons (s := 15) rfl (Sub.cons (s := 16) rfl (Sub.cons (s := 17) rfl (Sub.cons (s := 18) rfl (Sub.cons (s := 19) rfl (Sub.cons (s := 20) rfl (Sub.cons (s := 21) rfl (Sub.cons (s := 22) rfl (Sub.cons (s := 23) rfl (Sub.cons (s := 24) rfl (Sub.cons (s := 25) rfl (Sub.cons (s := 26) rfl (Sub.cons (s := 27) rfl (Sub.cons (s := 28) rfl (Sub.cons (s := 29) rfl (Sub.cons (s := 30) rfl (Sub.cons (s := 31) rfl (Sub.cons (s := 32) rfl (Sub.cons (s := 33) rfl (Sub.cons (s := 34) rfl (Sub.cons (s := 35) rfl (Sub.cons (s := 36) rfl (Sub.cons (s := 37) rfl (Sub.nil _)))))))))))))))))))))))))))))))))))))
  · rintro ρ' B' H' ⟨Ac2', cc2', Ac3, cc3, rfl, rfl, rfl⟩
    rename Frag => B
    refine Cx.cutK (ds' := []) (Sub.cons (s := 0) rfl (Sub.cons (s := 1) rfl (Sub.cons (s := 4) rfl (Sub.cons (s := 5) rfl (Sub.cons (s := 6) rfl (Sub.cons (s := 7) rfl (Sub.cons (s := 8) rfl (Sub.cons (s := 9) rfl (Sub.cons (s := 10) rfl (Sub.cons (s := 11) rfl (Sub.cons (s := 12) rfl (Sub.cons (s := 13) rfl (Sub.cons (s := 14) rfl (Sub.cons (s := 15) rfl (Sub.cons (s := 16) rfl (Sub.cons (s := 17) rfl (Sub.cons (s := 18) rfl (Sub.cons (s := 19) rfl (Sub.cons (s := 20) rfl (Sub.cons (s := 21) rfl (Sub.cons (s := 22) rfl (Sub.cons (s := 23) rfl (Sub.cons (s := 24) rfl (Sub.cons (s := 25) rfl (Sub.cons (s := 26) rfl (Sub.cons (s := 27) rfl (Sub.cons (s := 28) rfl (Sub.cons (s := 29) rfl (Sub.cons (s := 30) rfl (Sub.cons (s := 31) rfl (Sub.cons (s := 32) rfl (Sub.cons (s := 33) rfl (Sub.cons (s := 34) rfl (Sub.cons (s := 35) rfl (Sub.cons (s := 36) rfl (Sub.cons (s := 37) rfl (Sub.nil _))))))))))))))))))))))))))))))))))))) (fun ρ' B' H' => ∃ Ak9 ck9 Av9 cv9, ρ' = [] ∧ B = B' ∧ row b 70 [.slice Ak9 (n + 1) ck9, .slice Av9 (n + 1) cv9, .slice (some ⟨bC, 0, none⟩) p cc] * (sbuf 9 1 Ak9 (n + 1) ck9 ((ks.map str).take (i * 1) ++ [str kM] ++ (ks.map str).drop (i * 1)) * (sbuf 9 1 Av9 (n + 1) cv9 ((vs.map str).take (i * 1) ++ [str vM] ++ (vs.map str).drop (i * 1)) * (row b2 70 [.slice (some ⟨bK, 0, none⟩) 7 ck2, .slice (some ⟨bV, 0, none⟩) 7 cv2, .slice Ac2' (min q 4) cc2'] * (row b3 70 [.slice Ak3 (7 - 4) ck3, .slice Av3 (7 - 4) cv3, .slice Ac3 (q - 4) cc3] * (sbuf 67 1 Ac2' (min q 4) cc2' (qs.take (4 * 1)) * (sbuf 67 1 Ac3 (q - 4) cc3 (qs.drop (4 * 1)) * (sbuf 9 1 (some ⟨bV, 0, none⟩) 7 cv2 (v7.map str) * (sbuf 9 1 Av3 (7 - 4) cv3 ((v7.map str).drop (4 * 1)) * (sbuf 9 1 (some ⟨bK, 0, none⟩) 7 ck2 (k7.map str) * (sbuf 9 1 Ak3 (7 - 4) ck3 ((k7.map str).drop (4 * 1)) * (sbuf 67 1 (some ⟨bC, 0, none⟩) p cc ps * R))))))))))) = H') ?_ ?_
    · skip
      refine Cx.drawn (by kernel_rfl) ?_
      refine Dx.p (i := 0) rfl (by kernel_rfl) (mv rfl) rfl ?_
      refine Dx.p (i := 1) rfl (by kernel_rfl) (mv rfl) rfl ?_
      refine Dx.p (i := 2) rfl (by kernel_rfl) (mv rfl) rfl ?_
      refine Dx.p (i := 3) rfl (by kernel_rfl) (nilc rfl) rfl ?_
      refine Dx.p (i := 4) rfl (by kernel_rfl) (fa' fo70_0 rfl) rfl ?_
      refine Dx.r (i := 5) rfl (by kernel_rfl) (ld Try.underlying22 rfl rfl rfl) rfl ?_
      refine Dx.p (i := 6) rfl (by kernel_rfl) (mv rfl) rfl ?_
      refine Dx.p (i := 7) rfl (by kernel_rfl) (mv rfl) rfl ?_
      refine Dx.p (i := 8) rfl (by kernel_rfl) (nilc rfl) rfl ?_
      refine Dx.p (i := 9) rfl (by kernel_rfl) (fa' fo70_0 rfl) rfl ?_
      refine Dx.r (i := 10) rfl (by kernel_rfl) (ld Try.underlying22 rfl rfl rfl) rfl ?_
      refine Dx.p (i := 11) rfl (by kernel_rfl) (mv rfl) rfl ?_
      refine Dx.p (i := 12) rfl (by kernel_rfl) (ia Try.underlying22 sz9 rfl rfl (by first | exact Int.toNat_natCast _ | rfl) (by omega) (by omega)) rfl ?_
      refine Dx.r (i := 13) rfl (by kernel_rfl) (ldC Try.underlying9 rfl rfl (Cells.buf (m := 1) hk3 (by rw [List.length_map]; omega))) rfl ?_
      refine Dx.p (i := 16) rfl (by kernel_rfl) (mv rfl) rfl ?_
      refine Dx.p (i := 17) rfl (by kernel_rfl) (nilc rfl) rfl ?_
      refine Dx.p (i := 18) rfl (by kernel_rfl) (fa' fo70_1 rfl) rfl ?_
      refine Dx.r (i := 19) rfl (by kernel_rfl) (ld Try.underlying22 rfl rfl rfl) rfl ?_
      refine Dx.p (i := 20) rfl (by kernel_rfl) (mv rfl) rfl ?_
      refine Dx.p (i := 21) rfl (by kernel_rfl) (mv rfl) rfl ?_
      refine Dx.p (i := 22) rfl (by kernel_rfl) (nilc rfl) rfl ?_
      refine Dx.p (i := 23) rfl (by kernel_rfl) (fa' fo70_1 rfl) rfl ?_
      refine Dx.r (i := 24) rfl (by kernel_rfl) (ld Try.underlying22 rfl rfl rfl) rfl ?_
      refine Dx.p (i := 25) rfl (by kernel_rfl) (mv rfl) rfl ?_
      refine Dx.p (i := 26) rfl (by kernel_rfl) (ia Try.underlying22 sz9 rfl rfl (by first | exact Int.toNat_natCast _ | rfl) (by omega) (by omega)) rfl ?_
      refine Dx.r (i := 27) rfl (by kernel_rfl) (ldC Try.underlying9 rfl rfl (Cells.buf (m := 1) hv3 (by rw [List.length_map]; omega))) rfl ?_
      refine Dx.two (i := 14) (j := 28) (by kernel_rfl) ?_ ?_
      · skip
        refine Dstep.o (i := 14) rfl (bsl1 Try.underlying22 ti9 rfl rfl rfl (by decide)) rfl (fun v B' H' hΦ hB => ?_)
        obtain ⟨b614, rfl, rfl, rfl⟩ := hΦ; clear hB
        refine ⟨JOk.yes (JOk.yes (JOk.yes (JOk.edge (JOk.yes (JOk.yes (JOk.top) (ld Try.underlying22 rfl rfl rfl)) (ld Try.underlying22 rfl rfl rfl)) (by kernel_rfl)) (ld Try.underlying22 rfl rfl rfl)) (ld Try.underlying22 rfl rfl rfl)) (ldC Try.underlying9 rfl rfl (Cells.buf (m := 1) hv3 (by rw [List.length_map]; omega))), ?_⟩
        refine Dx.two (i := 15) (j := 28) (by kernel_rfl) ?_ ?_
        · skip
          refine Dstep.o (i := 15) rfl (Ox.call rfl rfl rfl (InsS_ct Ak i n ck (ks.map str) b614 9 [str kM] _ (by omega) (by rw [List.length_map]; omega) (strs_all _) rfl rfl (by omega)) (pickSB _ _)) rfl (fun v B' H' hΦ hB => ?_)
          obtain ⟨_, rfl, hΦ⟩ := hΦ
          obtain ⟨Ak9, ck9, rfl, hBB, rfl, ⟨_, hAck9⟩, hck9⟩ := hΦ
          subst hBB
          rename Frag => B
          clear hB
          refine ⟨JOk.yes (JOk.yes (JOk.yes (JOk.yes (JOk.yes (JOk.edge (JOk.top) (by kernel_rfl)) (ld Try.underlying22 rfl rfl rfl)) (ldC Try.underlying9 rfl rfl (Cells.buf (m := 1) hk3 (by rw [List.length_map]; omega)))) (ld Try.underlying22 rfl rfl rfl)) (ld Try.underlying22 rfl rfl rfl)) (ldC Try.underlying9 rfl rfl (Cells.buf (m := 1) hv3 (by rw [List.length_map]; omega))), ?_⟩
          refine Dx.one (i := 28) (by kernel_rfl) ?_
          refine Dstep.o (i := 28) rfl (bsl1 Try.underlying22 ti9 rfl rfl rfl (by decide)) rfl (fun v B' H' hΦ hB => ?_)
          obtain ⟨b628, rfl, rfl, rfl⟩ := hΦ; clear hB
          refine ⟨JOk.edge (JOk.yes (JOk.yes (JOk.yes (JOk.yes (JOk.yes (JOk.top) (ld Try.underlying22 rfl rfl rfl)) (ld Try.underlying22 rfl rfl rfl)) (ldC Try.underlying9 rfl rfl (Cells.buf (m := 1) hk3 (by rw [List.length_map]; omega)))) (ld Try.underlying22 rfl rfl rfl)) (ld Try.underlying22 rfl rfl rfl)) (by kernel_rfl), ?_⟩
          refine Dx.one (i := 29) (by kernel_rfl) ?_
          refine Dstep.o (i := 29) rfl (Ox.call rfl rfl rfl (InsS_ct Av i n cv (vs.map str) b628 9 [str vM] _ (by omega) (by rw [List.length_map]; omega) (strs_all _) rfl rfl (by omega)) (pickSB _ _)) rfl (fun v B' H' hΦ hB => ?_)
          obtain ⟨_, rfl, hΦ⟩ := hΦ
          obtain ⟨Av9, cv9, rfl, hBB, rfl, ⟨_, hAcv9⟩, hcv9⟩ := hΦ
          subst hBB
          rename Frag => B
          clear hB
          refine ⟨JOk.yes (JOk.yes (JOk.edge (JOk.yes (JOk.yes (JOk.yes (JOk.top) (ld Try.underlying22 rfl rfl rfl)) (ld Try.underlying22 rfl rfl rfl)) (ldC Try.underlying9 rfl rfl (Cells.buf (m := 1) hk3 (by rw [List.length_map]; omega)))) (by kernel_rfl)) (ld Try.underlying22 rfl rfl rfl)) (ldC Try.underlying9 rfl rfl (Cells.buf (m := 1) hv3 (by rw [List.length_map]; omega))), ?_⟩
          refine Dx.p (i := 30) rfl (by kernel_rfl) (nilc rfl) rfl ?_
          refine Dx.p (i := 31) rfl (by kernel_rfl) (fa' fo70_0 rfl) rfl ?_
          refine Dx.one (i := 32) (by kernel_rfl) ?_
          refine Dstep.o0 (i := 32) rfl (stO Try.underlying22 sz22 rfl rfl rfl (by simp) rfl) (fun v B' H' hΦ hB => ?_)
          obtain ⟨rfl, rfl⟩ := hΦ; clear hB v
          refine ⟨JOk.edge (JOk.edge (JOk.edge (JOk.edge (JOk.edge (JOk.edge (JOk.top) (by kernel_rfl)) (by kernel_rfl)) (by kernel_rfl)) (by kernel_rfl)) (by kernel_rfl)) (by kernel_rfl), ?_⟩
          refine Dx.p (i := 33) rfl (by kernel_rfl) (nilc rfl) rfl ?_
          refine Dx.p (i := 34) rfl (by kernel_rfl) (fa' fo70_1 rfl) rfl ?_
          refine Dx.one (i := 35) (by kernel_rfl) ?_
          refine Dstep.o0 (i := 35) rfl (stO Try.underlying22 sz22 rfl rfl rfl (by simp) rfl) (fun v B' H' hΦ hB => ?_)
          obtain ⟨rfl, rfl⟩ := hΦ; clear hB v
          refine ⟨JOk.edge (JOk.edge (JOk.edge (JOk.edge (JOk.edge (JOk.edge (JOk.top) (by kernel_rfl)) (by kernel_rfl)) (by kernel_rfl)) (by kernel_rfl)) (by kernel_rfl)) (by kernel_rfl), ?_⟩
          refine Dx.done (by kernel_rfl) ?_
          exact Xx.mkK (⟨Ak9, ck9, Av9, cv9, rfl, rfl, by ac_rfl⟩) (Sub.cons (s := 0) rfl (Sub.cons (s := 1) rfl (Sub.cons (s := 4) rfl (Sub.cons (s := 5) rfl (Sub.cons (s := 6) rfl (Sub.cons (s := 7) rfl (Sub.cons (s := 8) rfl (Sub.cons (s := 9) rfl (Sub.cons (s := 10) rfl (Sub.cons (s := 11) rfl (Sub.cons (s := 12) rfl (Sub.cons (s := 13) rfl (Sub.cons (s := 14) rfl (Sub.cons (s := 15) rfl (Sub.cons (s := 16) rfl (Sub.cons (s := 17) rfl (Sub.cons (s := 18) rfl (Sub.cons (s := 19) rfl (Sub.cons (s := 20) rfl (Sub.cons (s := 21) rfl (Sub.cons (s := 22) rfl (Sub.cons (s := 23) rfl (Sub.cons (s := 24) rfl (Sub.cons (s := 25) rfl (Sub.cons (s := 26) rfl (Sub.cons (s := 27) rfl (Sub.cons (s := 28) rfl (Sub.cons (s := 29) rfl (Sub.cons (s := 30) rfl (Sub.cons (s := 31) rfl (Sub.cons (s := 32) rfl (Sub.cons (s := 33) rfl (Sub.cons (s := 34) rfl (Sub.cons (s := 35) rfl (Sub.cons (s := 36) rfl (Sub.cons (s := 37) rfl (Sub.nil _)))))))))))))))))))))))))))))))))))))
        refine Dstep.o (i := 28) rfl (bsl1 Try.underlying22 ti9 rfl rfl rfl (by decide)) rfl (fun v B' H' hΦ hB => ?_)
        obtain ⟨b628, rfl, rfl, rfl⟩ := hΦ; clear hB
        refine ⟨JOk.edge (JOk.yes (JOk.yes (JOk.yes (JOk.yes (JOk.yes (JOk.top) (ld Try.underlying22 rfl rfl rfl)) (ld Try.underlying22 rfl rfl rfl)) (ldC Try.underlying9 rfl rfl (Cells.buf (m := 1) hk3 (by rw [List.length_map]; omega)))) (ld Try.underlying22 rfl rfl rfl)) (ld Try.underlying22 rfl rfl rfl)) (by kernel_rfl), ?_⟩
        refine Dx.one (i := 15) (by kernel_rfl) ?_
        refine Dstep.o (i := 15) rfl (Ox.call rfl rfl rfl (InsS_ct Ak i n ck (ks.map str) b614 9 [str kM] _ (by omega) (by rw [List.length_map]; omega) (strs_all _) rfl rfl (by omega)) (pickSB _ _)) rfl (fun v B' H' hΦ hB => ?_)
        obtain ⟨_, rfl, hΦ⟩ := hΦ
        obtain ⟨Ak9, ck9, rfl, hBB, rfl, ⟨_, hAck9⟩, hck9⟩ := hΦ
        subst hBB
        rename Frag => B
        clear hB
        refine ⟨JOk.yes (JOk.yes (JOk.yes (JOk.yes (JOk.yes (JOk.edge (JOk.top) (by kernel_rfl)) (ld Try.underlying22 rfl rfl rfl)) (ldC Try.underlying9 rfl rfl (Cells.buf (m := 1) hk3 (by rw [List.length_map]; omega)))) (ld Try.underlying22 rfl rfl rfl)) (ld Try.underlying22 rfl rfl rfl)) (ldC Try.underlying9 rfl rfl (Cells.buf (m := 1) hv3 (by rw [List.length_map]; omega))), ?_⟩
        refine Dx.one (i := 29) (by kernel_rfl) ?_
        refine Dstep.o (i := 29) rfl (Ox.call rfl rfl rfl (InsS_ct Av i n cv (vs.map str) b628 9 [str vM] _ (by omega) (by rw [List.length_map]; omega) (strs_all _) rfl rfl (by omega)) (pickSB _ _)) rfl (fun v B' H' hΦ hB => ?_)
        obtain ⟨_, rfl, hΦ⟩ := hΦ
        obtain ⟨Av9, cv9, rfl, hBB, rfl, ⟨_, hAcv9⟩, hcv9⟩ := hΦ
        subst hBB
        rename Frag => B
        clear hB
        refine ⟨JOk.yes (JOk.yes (JOk.edge (JOk.yes (JOk.yes (JOk.yes (JOk.top) (ld Try.underlying22 rfl rfl rfl)) (ld Try.underlying22 rfl rfl rfl)) (ldC Try.underlying9 rfl rfl (Cells.buf (m := 1) hk3 (by rw [List.length_map]; omega)))) (by kernel_rfl)) (ld Try.underlying22 rfl rfl rfl)) (ldC Try.underlying9 rfl rfl (Cells.buf (m := 1) hv3 (by rw [List.length_map]; omega))), ?_⟩
        refine Dx.p (i := 30) rfl (by kernel_rfl) (nilc rfl) rfl ?_
        refine Dx.p (i := 31) rfl (by kernel_rfl) (fa' fo70_0 rfl) rfl ?_
        refine Dx.one (i := 32) (by kernel_rfl) ?_
        refine Dstep.o0 (i := 32) rfl (stO Try.underlying22 sz22 rfl rfl rfl (by simp) rfl) (fun v B' H' hΦ hB => ?_)
        obtain ⟨rfl, rfl⟩ := hΦ; clear hB v
        refine ⟨JOk.edge (JOk.edge (JOk.edge (JOk.edge (JOk.edge (JOk.edge (JOk.top) (by kernel_rfl)) (by kernel_rfl)) (by kernel_rfl)) (by kernel_rfl)) (by kernel_rfl)) (by kernel_rfl), ?_⟩
        refine Dx.p (i := 33) rfl (by kernel_rfl) (nilc rfl) rfl ?_
        refine Dx.p (i := 34) rfl (by kernel_rfl) (fa' fo70_1 rfl) rfl ?_
        refine Dx.one (i := 35) (by kernel_rfl) ?_
        refine Dstep.o0 (i := 35) rfl (stO Try.underlying22 sz22 rfl rfl rfl (by simp) rfl) (fun v B' H' hΦ hB => ?_)
        obtain ⟨rfl, rfl⟩ := hΦ; clear hB v
        refine ⟨JOk.edge (JOk.edge (JOk.edge (JOk.edge (JOk.edge (JOk.edge (JOk.top) (by kernel_rfl)) (by kernel_rfl)) (by kernel_rfl)) (by kernel_rfl)) (by kernel_rfl)) (by kernel_rfl), ?_⟩
        refine Dx.done (by kernel_rfl) ?_
        exact Xx.mkK (⟨Ak9, ck9, Av9, cv9, rfl, rfl, by ac_rfl⟩) (Sub.cons (s := 0) rfl (Sub.cons (s := 1) rfl (Sub.cons (s := 4) rfl (Sub.cons (s := 5) rfl (Sub.cons (s := 6) rfl (Sub.cons (s := 7) rfl (Sub.cons (s := 8) rfl (Sub.cons (s := 9) rfl (Sub.cons (s := 10) rfl (Sub.cons (s := 11) rfl (Sub.cons (s := 12) rfl (Sub.cons (s := 13) rfl (Sub.cons (s := 14) rfl (Sub.cons (s := 15) rfl (Sub.cons (s := 16) rfl (Sub.cons (s := 17) rfl (Sub.cons (s := 18) rfl (Sub.cons (s := 19) rfl (Sub.cons (s := 20) rfl (Sub.cons (s := 21) rfl (Sub.cons (s := 22) rfl (Sub.cons (s := 23) rfl (Sub.cons (s := 24) rfl (Sub.cons (s := 25) rfl (Sub.cons (s := 26) rfl (Sub.cons (s := 27) rfl (Sub.cons (s := 28) rfl (Sub.cons (s := 29) rfl (Sub.cons (s := 30) rfl (Sub.cons (s := 31) rfl (Sub.cons (s := 32) rfl (Sub.cons (s := 33) rfl (Sub.cons (s := 34) rfl (Sub.cons (s := 35) rfl (Sub.cons (s := 36) rfl (Sub.cons (s := 37) rfl (Sub.nil _)))))))))))))))))))))))))))))))))))))
      refine Dstep.o (i := 28) rfl (bsl1 Try.underlying22 ti9 rfl rfl rfl (by decide)) rfl (fun v B' H' hΦ hB => ?_)
      obtain ⟨b628, rfl, rfl, rfl⟩ := hΦ; clear hB
      refine ⟨JOk.edge (JOk.yes (JOk.yes (JOk.yes (JOk.yes (JOk.yes (JOk.top) (ld Try.underlying22 rfl rfl rfl)) (ld Try.underlying22 rfl rfl rfl)) (ldC Try.underlying9 rfl rfl (Cells.buf (m := 1) hk3 (by rw [List.length_map]; omega)))) (ld Try.underlying22 rfl rfl rfl)) (ld Try.underlying22 rfl rfl rfl)) (by kernel_rfl), ?_⟩
      refine Dx.one (i := 14) (by kernel_rfl) ?_
      refine Dstep.o (i := 14) rfl (bsl1 Try.underlying22 ti9 rfl rfl rfl (by decide)) rfl (fun v B' H' hΦ hB => ?_)
      obtain ⟨b614, rfl, rfl, rfl⟩ := hΦ; clear hB
      refine ⟨JOk.yes (JOk.yes (JOk.yes (JOk.edge (JOk.yes (JOk.yes (JOk.top) (ld Try.underlying22 rfl rfl rfl)) (ld Try.underlying22 rfl rfl rfl)) (by kernel_rfl)) (ld Try.underlying22 rfl rfl rfl)) (ld Try.underlying22 rfl rfl rfl)) (ldC Try.underlying9 rfl rfl (Cells.buf (m := 1) hv3 (by rw [List.length_map]; omega))), ?_⟩
      refine Dx.one (i := 15) (by kernel_rfl) ?_
      refine Dstep.o (i := 15) rfl (Ox.call rfl rfl rfl (InsS_ct Ak i n ck (ks.map str) b614 9 [str kM] _ (by omega) (by rw [List.length_map]; omega) (strs_all _) rfl rfl (by omega)) (pickSB _ _)) rfl (fun v B' H' hΦ hB => ?_)
      obtain ⟨_, rfl, hΦ⟩ := hΦ
      obtain ⟨Ak9, ck9, rfl, hBB, rfl, ⟨_, hAck9⟩, hck9⟩ := hΦ
      subst hBB
      rename Frag => B
      clear hB
      refine ⟨JOk.yes (JOk.yes (JOk.yes (JOk.yes (JOk.yes (JOk.edge (JOk.top) (by kernel_rfl)) (ld Try.underlying22 rfl rfl rfl)) (ldC Try.underlying9 rfl rfl (Cells.buf (m := 1) hk3 (by rw [List.length_map]; omega)))) (ld Try.underlying22 rfl rfl rfl)) (ld Try.underlying22 rfl rfl rfl)) (ldC Try.underlying9 rfl rfl (Cells.buf (m := 1) hv3 (by rw [List.length_map]; omega))), ?_⟩
      refine Dx.one (i := 29) (by kernel_rfl) ?_
      refine Dstep.o (i := 29) rfl (Ox.call rfl rfl rfl (InsS_ct Av i n cv (vs.map str) b628 9 [str vM] _ (by omega) (by rw [List.length_map]; omega) (strs_all _) rfl rfl (by omega)) (pickSB _ _)) rfl (fun v B' H' hΦ hB => ?_)
      obtain ⟨_, rfl, hΦ⟩ := hΦ
      obtain ⟨Av9, cv9, rfl, hBB, rfl, ⟨_, hAcv9⟩, hcv9⟩ := hΦ
      subst hBB
      rename Frag => B
      clear hB
      refine ⟨JOk.yes (JOk.yes (JOk.edge (JOk.yes (JOk.yes (JOk.yes (JOk.top) (ld Try.underlying22 rfl rfl rfl)) (ld Try.underlying22 rfl rfl rfl)) (ldC Try.underlying9 rfl rfl (Cells.buf (m := 1) hk3 (by rw [List.length_map]; omega)))) (by kernel_rfl)) (ld Try.underlying22 rfl rfl rfl)) (ldC Try.underlying9 rfl rfl (Cells.buf (m := 1) hv3 (by rw [List.length_map]; omega))), ?_⟩
      refine Dx.p (i := 30) rfl (by kernel_rfl) (nilc rfl) rfl ?_
      refine Dx.p (i := 31) rfl (by kernel_rfl) (fa' fo70_0 rfl) rfl ?_
      refine Dx.one (i := 32) (by kernel_rfl) ?_
      refine Dstep.o0 (i := 32) rfl (stO Try.underlying22 sz22 rfl rfl rfl (by simp) rfl) (fun v B' H' hΦ hB => ?_)
      obtain ⟨rfl, rfl⟩ := hΦ; clear hB v
      refine ⟨JOk.edge (JOk.edge (JOk.edge (JOk.edge (JOk.edge (JOk.edge (JOk.top) (by kernel_rfl)) (by kernel_rfl)) (by kernel_rfl)) (by kernel_rfl)) (by kernel_rfl)) (by kernel_rfl), ?_⟩
      refine Dx.p (i := 33) rfl (by kernel_rfl) (nilc rfl) rfl ?_
      refine Dx.p (i := 34) rfl (by kernel_rfl) (fa' fo70_1 rfl) rfl ?_
      refine Dx.one (i := 35) (by kernel_rfl) ?_
      refine Dstep.o0 (i := 35) rfl (stO Try.underlying22 sz22 rfl rfl rfl (by simp) rfl) (fun v B' H' hΦ hB => ?_)
      obtain ⟨rfl, rfl⟩ := hΦ; clear hB v
      refine ⟨JOk.edge (JOk.edge (JOk.edge (JOk.edge (JOk.edge (JOk.edge (JOk.top) (by kernel_rfl)) (by kernel_rfl)) (by kernel_rfl)) (by kernel_rfl)) (by kernel_rfl)) (by kernel_rfl), ?_⟩
      refine Dx.done (by kernel_rfl) ?_
      exact Xx.mkK (⟨Ak9, ck9, Av9, cv9, rfl, rfl, by ac_rfl⟩) (Sub.cons (s := 0) rfl (Sub.cons (s := 1) rfl (Sub.cons (s := 4) rfl (Sub.cons (s := 5) rfl (Sub.cons (s := 6) rfl (Sub.cons (s := 7) rfl (Sub.cons (s := 8) rfl (Sub.cons (s := 9) rfl (Sub.cons (s := 10) rfl (Sub.cons (s := 11) rfl (Sub.cons (s := 12) rfl (Sub.cons (s := 13) rfl (Sub.cons (s := 14) rfl (Sub.cons (s := 15) rfl (Sub.cons (s := 16) rfl (Sub.cons (s := 17) rfl (Sub.cons (s := 18) rfl (Sub.cons (s := 19) rfl (Sub.cons (s := 20) rfl (Sub.cons (s := 21) rfl (Sub.cons (s := 22) rfl (Sub.cons (s := 23) rfl (Sub.cons (s := 24) rfl (Sub.cons (s := 25) rfl (Sub.cons (s := 26) rfl (Sub.cons (s := 27) rfl (Sub.cons (s := 28) rfl (Sub.cons (s := 29) rfl (Sub.cons (s := 30) rfl (Sub.cons (s := 31) rfl (Sub.cons (s := 32) rfl (Sub.cons (s := 33) rfl (Sub.cons (s := 34) rfl (Sub.cons (s := 35) rfl (Sub.cons (s := 36) rfl (Sub.cons (s := 37) rfl (Sub.nil _)))))))))))))))))))))))))))))))))))))
    · rintro ρ' B' H' ⟨Ak9, ck9, Av9, cv9, rfl, rfl, rfl⟩
      refine Cx.seq (fun K7 k7 => ?_)
      refine Cx.region ?_
      refine Lx.y (mv rfl) rfl ?_
      refine Lx.y (mv rfl) rfl ?_
      refine Lx.y (nilc rfl) rfl ?_
      refine Lx.y (fa' fo70_2 rfl) rfl ?_
      refine Lx.y (ld Try.underlying68 rfl rfl rfl) rfl ?_
      refine Lx.y (mv rfl) rfl ?_
      refine Lx.y (Yx.val (add rfl rfl (by first | exact wrap64 (by omega) (by omega) | rfl)) (show _ = i64 ((i + 1 : Nat) : Int) from rfl)) rfl ?_
      refine Lx.y (mv rfl) rfl ?_
      refine Lx.bsl (bsl1 Try.underlying68 ti67 rfl rfl rfl (by decide)) rfl (fun b78 => ?_)
      refine Lx.c rfl rfl rfl (InsN_ct _ (i + 1) p cc ps b78 67 [.pointer (some ⟨b3, 0, none⟩)] _ (by omega) (by omega) hpa rfl rfl (by omega)) (pickSB _ _) rfl ?_
      rintro v B1 H1 ⟨Ac9, cc9, rfl, hBB, rfl, ⟨_, hAcc9⟩, hcc9⟩ hB1
      subst hBB
      rename Frag => B
      clear hB1
      refine Lx.y (nilc rfl) rfl ?_
      refine Lx.y (fa' fo70_2 rfl) rfl ?_
      refine Lx.st (stO Try.underlying68 sz68 rfl rfl rfl (by simp) rfl) ?_
      refine Lx.nil ?_
      refine Xx.tn (k7 _ _ _ _ ?_)
      refine Cx.drawn (by kernel_rfl) ?_
      refine Dx.p (i := 0) rfl (by kernel_rfl) (mv rfl) rfl ?_
      refine Dx.p (i := 1) rfl (by kernel_rfl) (mv rfl) rfl ?_
      refine Dx.p (i := 2) rfl (by kernel_rfl) (mv rfl) rfl ?_
      refine Dx.p (i := 3) rfl (by kernel_rfl) (nilc rfl) rfl ?_
      refine Dx.p (i := 4) rfl (by kernel_rfl) (fa' fo70_0 rfl) rfl ?_
      refine Dx.r (i := 5) rfl (by kernel_rfl) (ld Try.underlying22 rfl rfl rfl) rfl ?_
      refine Dx.p (i := 6) rfl (by kernel_rfl) (mv rfl) rfl ?_
      refine Dx.p (i := 7) rfl (by kernel_rfl) (sl2V Try.underlying22 sz9 rfl rfl (by first | exact Int.toNat_natCast _ | rfl) (by omega) (by omega)) rfl ?_
      refine Dx.p (i := 8) rfl (by kernel_rfl) (mv rfl) rfl ?_
      refine Dx.p (i := 9) rfl (by kernel_rfl) (nilc rfl) rfl ?_
      refine Dx.p (i := 10) rfl (by kernel_rfl) (fa' fo70_1 rfl) rfl ?_
      refine Dx.r (i := 11) rfl (by kernel_rfl) (ld Try.underlying22 rfl rfl rfl) rfl ?_
      refine Dx.p (i := 12) rfl (by kernel_rfl) (mv rfl) rfl ?_
      refine Dx.p (i := 13) rfl (by kernel_rfl) (sl2V Try.underlying22 sz9 rfl rfl (by first | exact Int.toNat_natCast _ | rfl) (by omega) (by omega)) rfl ?_
      refine Dx.p (i := 14) rfl (by kernel_rfl) (nilc rfl) rfl ?_
      refine Dx.p (i := 15) rfl (by kernel_rfl) (fa' fo70_0 rfl) rfl ?_
      refine Dx.one (i := 16) (by kernel_rfl) ?_
      refine Dstep.o0 (i := 16) rfl (stO Try.underlying22 sz22 rfl rfl rfl (by simp) rfl) (fun v B' H' hΦ hB => ?_)
      obtain ⟨rfl, rfl⟩ := hΦ; clear hB v
      refine ⟨JOk.edge (JOk.edge (JOk.top) (by kernel_rfl)) (by kernel_rfl), ?_⟩
      refine Dx.p (i := 17) rfl (by kernel_rfl) (nilc rfl) rfl ?_
      refine Dx.p (i := 18) rfl (by kernel_rfl) (fa' fo70_1 rfl) rfl ?_
      refine Dx.one (i := 19) (by kernel_rfl) ?_
      refine Dstep.o0 (i := 19) rfl (stO Try.underlying22 sz22 rfl rfl rfl (by simp) rfl) (fun v B' H' hΦ hB => ?_)
      obtain ⟨rfl, rfl⟩ := hΦ; clear hB v
      refine ⟨JOk.edge (JOk.edge (JOk.top) (by kernel_rfl)) (by kernel_rfl), ?_⟩
      refine Dx.done (by kernel_rfl) ?_
      refine Xx.lessT bK 3 (by omega) ?_
      refine Xx.lessT bV 3 (by omega) ?_
      exact Xx.end0 rfl ⟨rfl, rfl, Ak9, ck9, Av9, cv9, Ac9, cc9, cc2', Ac2', b3, Ak3, ck3, Av3, cv3, Ac3, cc3, rfl⟩ (Frag.le_refl _) (by ac_rfl)
end BtD
end Go.Proofs.Ytcoiejmlpinpbaa
