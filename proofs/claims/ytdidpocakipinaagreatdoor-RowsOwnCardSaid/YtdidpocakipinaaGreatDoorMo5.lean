/-
  Texts of this seat, one behind the other: DrB, DrC, DrD, BtQ, BtR, DrE, DrF, RgB, SlC.
-/
import Derived.Test.YtdidpocakipinaaGreatDoorProg
import Derived.Test.YtdidpocakipinaaGreatDoorMo4

/-
  A key from the right neighbour; two neighbours joined: what lies there.
-/
namespace Go.Proofs.YtdidpocakipinaaGreatDoor
open Go.SL Go.RowKit
set_option linter.unusedVariables false
set_option linter.unusedSimpArgs false
set_option maxRecDepth 100000
open Ke1 Ke3 Ke4 Ke5 Ke6 Ke7 Ke8 Ke9 KeA KeB KeC KeD KeE KeF KeG KeI RgA BtB BtC BtD BtE BtG BtX BtH BtI BtF BtJ BtN BtO BtY BtZ DrA
namespace DrB
theorem sz9 : (Tryz.prog.info? 9).map (·.size) = some 1 := by kernel_rfl
theorem sz23 : (Tryz.prog.info? 23).map (·.size) = some 1 := by kernel_rfl
theorem sz110 : (Tryz.prog.info? 110).map (·.size) = some 1 := by kernel_rfl
theorem sz111 : (Tryz.prog.info? 111).map (·.size) = some 1 := by kernel_rfl
theorem ti9 : TI Tryz.prog 9 [str []] 1 16 := TI.of (by kernel_rfl) rfl rfl
theorem ti110 : TI Tryz.prog 110 [.pointer none] 1 8 := TI.of (by kernel_rfl) rfl rfl
theorem fo113_0 : FO Tryz.prog 113 0 0 1 false := FO.of Tryz.underlying113 rfl rfl (by kernel_rfl) Tryz.underlying23 rfl rfl
theorem fo113_1 : FO Tryz.prog 113 1 1 1 false := FO.of Tryz.underlying113 rfl rfl (by kernel_rfl) Tryz.underlying23 rfl rfl
theorem fo113_2 : FO Tryz.prog 113 2 2 1 false := FO.of Tryz.underlying113 rfl rfl (by kernel_rfl) Tryz.underlying111 rfl rfl

set_option maxHeartbeats 4000000 in
theorem fr_raw (b bl bk n nl nk p ql qk i : Nat) (Ak Av Ac Al Bl Cl Am Bm Cm : Option Addr) (ck cv cc cl1 cl2 cl3 cm1 cm2 cm3 : Nat) (ks vs lk lv kk kv : List Str8) (ps lp kp : List Value) (K W : Str8) (B : Frag) (hn : n ≤ 100) (hp : p = n + 1) (hi : i + 1 < p) (hks : ks.length = n) (hvs : vs.length = n) (hpl : ps.length = p) (hnl : nl ≤ 7) (hlk : lk.length = nl) (hlv : lv.length = nl) (hkk : kk.length = nk) (hkv : kv.length = nk) (hlp : lp.length = ql) (hkp : kp.length = qk) (hql : ql ≤ 8) (hqk : qk ≤ 8) (hpl1 : (ps.drop (0 + i * 1)).take 1 = [.pointer (some ⟨bl, 0, none⟩)]) (hpk1 : (ps.drop (0 + (i + 1) * 1)).take 1 = [.pointer (some ⟨bk, 0, none⟩)]) (hK : ((ks.map str).drop (0 + i * 1)).take 1 = [str K]) (hW : ((vs.map str).drop (0 + i * 1)).take 1 = [str W]) (hpa : ps.all (·.oneCell') = true) (hla : lp.all (·.oneCell') = true) (hka : kp.all (·.oneCell') = true) (Kx Wx : Str8) (hnk : 4 ≤ nk ∧ nk ≤ 7) (hK1 : ((kk.map str).drop (0 + 0 * 1)).take 1 = [str Kx]) (hW1 : ((kv.map str).drop (0 + 0 * 1)).take 1 = [str Wx]) (g : Nat) (hg : qk ≠ 0 → kp.take 1 = [.pointer (some ⟨g, 0, none⟩)]) : Ct Tryz.prog 103 [.pointer (some ⟨b, 0, none⟩), i64 i] B (row b 113 [.slice Ak (n) ck, .slice Av (n) cv, .slice Ac (p) cc] * (sbuf 9 1 Ak (n) ck (ks.map str) * (sbuf 9 1 Av (n) cv (vs.map str) * (sbuf 110 1 Ac (p) cc (ps) * (row bl 113 [.slice Al (nl) cl1, .slice Bl (nl) cl2, .slice Cl (ql) cl3] * (sbuf 9 1 Al (nl) cl1 (lk.map str) * (sbuf 9 1 Bl (nl) cl2 (lv.map str) * (sbuf 110 1 Cl (ql) cl3 (lp) * (row bk 113 [.slice Am (nk) cm1, .slice Bm (nk) cm2, .slice Cm (qk) cm3] * (sbuf 9 1 Am (nk) cm1 (kk.map str) * (sbuf 9 1 Bm (nk) cm2 (kv.map str) * (sbuf 110 1 Cm (qk) cm3 (kp))))))))))))) (fun v B' H' => v = .tuple #[] ∧ B' = B ∧ ∃ Al9 cl9 Bl9 dl9 Cl9 el9, H' = row b 113 [.slice Ak (n) ck, .slice Av (n) cv, .slice Ac (p) cc] * (sbuf 9 1 Ak (n) ck ((ks.set i Kx).map str) * (sbuf 9 1 Av (n) cv ((vs.set i Wx).map str) * (sbuf 110 1 Ac (p) cc (ps) * (row bl 113 [.slice Al9 (nl + 1) cl9, .slice Bl9 (nl + 1) dl9, .slice Cl9 (ql + min qk 1) el9] * (sbuf 9 1 Al9 (nl + 1) cl9 (lk.map str ++ [str K]) * (sbuf 9 1 Bl9 (nl + 1) dl9 (lv.map str ++ [str W]) * (sbuf 110 1 Cl9 (ql + min qk 1) el9 (lp ++ kp.take 1) * (row bk 113 [.slice Am (nk - 1) cm1, .slice Bm (nk - 1) cm2, .slice Cm (qk - 1) cm3] * (sbuf 9 1 Am (nk - 1) cm1 ((kk.map str).drop 1) * (sbuf 9 1 Bm (nk - 1) cm2 ((kv.map str).drop 1) * (sbuf 110 1 Cm (qk - 1) cm3 (kp.drop 1))))))))))))) := by
  refine Ct.of_body Tryz.func103 rfl (nt := 122) rfl (by kernel_rfl) rfl ?_
  intro N0 w0 R
  simp only [star_assoc]
  refine Xx.addrT Ac (by omega) (fun bC hAc _ _ => ?_)
  subst hAc
  refine Xx.addrT Ak (by omega) (fun bK hAk _ _ => ?_)
  subst hAk
  refine Xx.addrT Av (by omega) (fun bV hAv _ _ => ?_)
  subst hAv
  refine Xx.addrT Am (by omega) (fun bK2 hAm _ hcm1 => ?_)
  subst hAm
  refine Xx.addrT Bm (by omega) (fun bV2 hBm _ hcm2 => ?_)
  subst hBm
  refine Cx.seq (fun K1 k1 => ?_)
  refine Cx.drawn (by kernel_rfl) ?_
  refine Dx.p (i := 0) rfl (by kernel_rfl) (mv rfl) rfl ?_
  refine Dx.p (i := 1) rfl (by kernel_rfl) (nilc rfl) rfl ?_
  refine Dx.p (i := 2) rfl (by kernel_rfl) (fa' fo113_2 rfl) rfl ?_
  refine Dx.r (i := 3) rfl (by kernel_rfl) (ld Tryz.underlying111 rfl rfl rfl) rfl ?_
  refine Dx.p (i := 4) rfl (by kernel_rfl) (mv rfl) rfl ?_
  refine Dx.p (i := 5) rfl (by kernel_rfl) (ia Tryz.underlying111 sz110 rfl rfl (by first | exact Int.toNat_natCast _ | rfl) (by omega) (by omega)) rfl ?_
  refine Dx.r (i := 6) rfl (by kernel_rfl) (ldC Tryz.underlying110 rfl rfl (Cells.buf (m := 1) hpl1 (by omega))) rfl ?_
  refine Dx.p (i := 7) rfl (by kernel_rfl) (mv rfl) rfl ?_
  refine Dx.p (i := 8) rfl (by kernel_rfl) (nilc rfl) rfl ?_
  refine Dx.p (i := 9) rfl (by kernel_rfl) (fa' fo113_2 rfl) rfl ?_
  refine Dx.r (i := 10) rfl (by kernel_rfl) (ld Tryz.underlying111 rfl rfl rfl) rfl ?_
  refine Dx.p (i := 11) rfl (by kernel_rfl) (mv rfl) rfl ?_
  refine Dx.p (i := 12) rfl (by kernel_rfl) (Yx.val (add rfl rfl (by first | exact wrap64 (by omega) (by omega) | rfl)) (show _ = i64 ((i + 1 : Nat) : Int) from rfl)) rfl ?_
  refine Dx.p (i := 13) rfl (by kernel_rfl) (ia Tryz.underlying111 sz110 rfl rfl (by first | exact Int.toNat_natCast _ | rfl) (by omega) (by omega)) rfl ?_
  refine Dx.r (i := 14) rfl (by kernel_rfl) (ldC Tryz.underlying110 rfl rfl (Cells.buf (m := 1) hpk1 (by omega))) rfl ?_
  refine Dx.p (i := 15) rfl (by kernel_rfl) (asg rfl) rfl ?_
  refine Dx.p (i := 16) rfl (by kernel_rfl) (asg rfl) rfl ?_
  refine Dx.done (by kernel_rfl) ?_
  refine Xx.tn (k1 _ _ _ _ ?_)
  refine Cx.seq (fun K2 k2 => ?_)
  refine Cx.drawn (by kernel_rfl) ?_
  refine Dx.p (i := 0) rfl (by kernel_rfl) (mv rfl) rfl ?_
  refine Dx.p (i := 1) rfl (by kernel_rfl) (mv rfl) rfl ?_
  refine Dx.p (i := 2) rfl (by kernel_rfl) (mv rfl) rfl ?_
  refine Dx.p (i := 3) rfl (by kernel_rfl) (nilc rfl) rfl ?_
  refine Dx.p (i := 4) rfl (by kernel_rfl) (fa' fo113_0 rfl) rfl ?_
  refine Dx.r (i := 5) rfl (by kernel_rfl) (ld Tryz.underlying23 rfl rfl rfl) rfl ?_
  refine Dx.p (i := 6) rfl (by kernel_rfl) (mv rfl) rfl ?_
  refine Dx.p (i := 7) rfl (by kernel_rfl) (nilc rfl) rfl ?_
  refine Dx.p (i := 8) rfl (by kernel_rfl) (fa' fo113_0 rfl) rfl ?_
  refine Dx.r (i := 9) rfl (by kernel_rfl) (ld Tryz.underlying23 rfl rfl rfl) rfl ?_
  refine Dx.p (i := 10) rfl (by kernel_rfl) (mv rfl) rfl ?_
  refine Dx.p (i := 11) rfl (by kernel_rfl) (ia Tryz.underlying23 sz9 rfl rfl (by first | exact Int.toNat_natCast _ | rfl) (by omega) (by omega)) rfl ?_
  refine Dx.r (i := 12) rfl (by kernel_rfl) (ldC Tryz.underlying9 rfl rfl (Cells.buf (m := 1) hK (by rw [List.length_map]; omega))) rfl ?_
  refine Dx.p (i := 15) rfl (by kernel_rfl) (mv rfl) rfl ?_
  refine Dx.p (i := 16) rfl (by kernel_rfl) (nilc rfl) rfl ?_
  refine Dx.p (i := 17) rfl (by kernel_rfl) (fa' fo113_1 rfl) rfl ?_
  refine Dx.r (i := 18) rfl (by kernel_rfl) (ld Tryz.underlying23 rfl rfl rfl) rfl ?_
  refine Dx.p (i := 19) rfl (by kernel_rfl) (mv rfl) rfl ?_
  refine Dx.p (i := 20) rfl (by kernel_rfl) (nilc rfl) rfl ?_
  refine Dx.p (i := 21) rfl (by kernel_rfl) (fa' fo113_1 rfl) rfl ?_
  refine Dx.r (i := 22) rfl (by kernel_rfl) (ld Tryz.underlying23 rfl rfl rfl) rfl ?_
  refine Dx.p (i := 23) rfl (by kernel_rfl) (mv rfl) rfl ?_
  refine Dx.p (i := 24) rfl (by kernel_rfl) (ia Tryz.underlying23 sz9 rfl rfl (by first | exact Int.toNat_natCast _ | rfl) (by omega) (by omega)) rfl ?_
  refine Dx.r (i := 25) rfl (by kernel_rfl) (ldC Tryz.underlying9 rfl rfl (Cells.buf (m := 1) hW (by rw [List.length_map]; omega))) rfl ?_
  refine Dx.two (i := 13) (j := 26) (by kernel_rfl) ?_ ?_
  · skip
    refine Dstep.o (i := 13) rfl (bsl1 Tryz.underlying23 ti9 rfl rfl rfl (by decide)) rfl (fun v B' H' hΦ hB => ?_)
    obtain ⟨b1, rfl, rfl, rfl⟩ := hΦ; clear hB
    refine ⟨JOk.yes (JOk.yes (JOk.yes (JOk.edge (JOk.yes (JOk.yes (JOk.top) (ld Tryz.underlying23 rfl rfl rfl)) (ld Tryz.underlying23 rfl rfl rfl)) (by kernel_rfl)) (ld Tryz.underlying23 rfl rfl rfl)) (ld Tryz.underlying23 rfl rfl rfl)) (ldC Tryz.underlying9 rfl rfl (Cells.buf (m := 1) hW (by rw [List.length_map]; omega))), ?_⟩
    refine Dx.two (i := 14) (j := 26) (by kernel_rfl) ?_ ?_
    · skip
      refine Dstep.o (i := 14) rfl (appN (et := 9) (nl + 1) [str K] (lk.map str ++ [str K]) Tryz.underlying23 Tryz.underlying23 ti9 rfl rfl rfl rfl rfl (by omega) (by omega) rfl rfl) rfl (fun v B' H' hΦ hB => ?_)
      obtain ⟨Al9, cl9, rfl, _, _, hcl9, hBB, rfl⟩ := hΦ
      subst hBB
      rename Frag => B
      clear hB
      refine ⟨JOk.yes (JOk.yes (JOk.yes (JOk.yes (JOk.yes (JOk.edge (JOk.top) (by kernel_rfl)) (ld Tryz.underlying23 rfl rfl rfl)) (ldC Tryz.underlying9 rfl rfl (Cells.buf (m := 1) hK (by rw [List.length_map]; omega)))) (ld Tryz.underlying23 rfl rfl rfl)) (ld Tryz.underlying23 rfl rfl rfl)) (ldC Tryz.underlying9 rfl rfl (Cells.buf (m := 1) hW (by rw [List.length_map]; omega))), ?_⟩
      refine Dx.one (i := 26) (by kernel_rfl) ?_
      refine Dstep.o (i := 26) rfl (bsl1 Tryz.underlying23 ti9 rfl rfl rfl (by decide)) rfl (fun v B' H' hΦ hB => ?_)
      obtain ⟨b2, rfl, rfl, rfl⟩ := hΦ; clear hB
      refine ⟨JOk.edge (JOk.yes (JOk.yes (JOk.yes (JOk.yes (JOk.yes (JOk.top) (ld Tryz.underlying23 rfl rfl rfl)) (ld Tryz.underlying23 rfl rfl rfl)) (ldC Tryz.underlying9 rfl rfl (Cells.buf (m := 1) hK (by rw [List.length_map]; omega)))) (ld Tryz.underlying23 rfl rfl rfl)) (ld Tryz.underlying23 rfl rfl rfl)) (by kernel_rfl), ?_⟩
      refine Dx.one (i := 27) (by kernel_rfl) ?_
      refine Dstep.o (i := 27) rfl (appN (et := 9) (nl + 1) [str W] (lv.map str ++ [str W]) Tryz.underlying23 Tryz.underlying23 ti9 rfl rfl rfl rfl rfl (by omega) (by omega) rfl rfl) rfl (fun v B' H' hΦ hB => ?_)
      obtain ⟨Bl9, dl9, rfl, _, _, hdl9, hBB, rfl⟩ := hΦ
      subst hBB
      rename Frag => B
      clear hB
      refine ⟨JOk.yes (JOk.yes (JOk.edge (JOk.yes (JOk.yes (JOk.yes (JOk.top) (ld Tryz.underlying23 rfl rfl rfl)) (ld Tryz.underlying23 rfl rfl rfl)) (ldC Tryz.underlying9 rfl rfl (Cells.buf (m := 1) hK (by rw [List.length_map]; omega)))) (by kernel_rfl)) (ld Tryz.underlying23 rfl rfl rfl)) (ldC Tryz.underlying9 rfl rfl (Cells.buf (m := 1) hW (by rw [List.length_map]; omega))), ?_⟩
      refine Dx.p (i := 28) rfl (by kernel_rfl) (nilc rfl) rfl ?_
      refine Dx.p (i := 29) rfl (by kernel_rfl) (fa' fo113_0 rfl) rfl ?_
      refine Dx.one (i := 30) (by kernel_rfl) ?_
      refine Dstep.o0 (i := 30) rfl (stO Tryz.underlying23 sz23 rfl rfl rfl (by simp) rfl) (fun v B' H' hΦ hB => ?_)
      obtain ⟨rfl, rfl⟩ := hΦ; clear hB v
      refine ⟨JOk.edge (JOk.edge (JOk.edge (JOk.edge (JOk.edge (JOk.edge (JOk.top) (by kernel_rfl)) (by kernel_rfl)) (by kernel_rfl)) (by kernel_rfl)) (by kernel_rfl)) (by kernel_rfl), ?_⟩
      refine Dx.p (i := 31) rfl (by kernel_rfl) (nilc rfl) rfl ?_
      refine Dx.p (i := 32) rfl (by kernel_rfl) (fa' fo113_1 rfl) rfl ?_
      refine Dx.one (i := 33) (by kernel_rfl) ?_
      refine Dstep.o0 (i := 33) rfl (stO Tryz.underlying23 sz23 rfl rfl rfl (by simp) rfl) (fun v B' H' hΦ hB => ?_)
      obtain ⟨rfl, rfl⟩ := hΦ; clear hB v
      refine ⟨JOk.edge (JOk.edge (JOk.edge (JOk.edge (JOk.edge (JOk.edge (JOk.top) (by kernel_rfl)) (by kernel_rfl)) (by kernel_rfl)) (by kernel_rfl)) (by kernel_rfl)) (by kernel_rfl), ?_⟩
      refine Dx.done (by kernel_rfl) ?_
      refine Xx.tn (k2 _ _ _ _ ?_)
      refine Cx.seq (fun K3 k3 => ?_)
      refine Xx.dropB b1 (Xx.dropB b2 ?_)
      refine Xx.openT (some ⟨bK, 0, none⟩) (by omega) (fun bKx spK hAk hkx hkc hkcl => ?_)
      cases hAk
      refine Xx.openT (some ⟨bV, 0, none⟩) (by omega) (fun bVx spV hAv hvx hvc hvcl => ?_)
      cases hAv
      refine Cx.drawn (by kernel_rfl) ?_
      refine Dx.p (i := 0) rfl (by kernel_rfl) (mv rfl) rfl ?_
      refine Dx.p (i := 1) rfl (by kernel_rfl) (nilc rfl) rfl ?_
      refine Dx.p (i := 2) rfl (by kernel_rfl) (fa' fo113_0 rfl) rfl ?_
      refine Dx.r (i := 3) rfl (by kernel_rfl) (ld Tryz.underlying23 rfl rfl rfl) rfl ?_
      refine Dx.p (i := 4) rfl (by kernel_rfl) (mv rfl) rfl ?_
      refine Dx.p (i := 5) rfl (by kernel_rfl) (mv rfl) rfl ?_
      refine Dx.p (i := 6) rfl (by kernel_rfl) (nilc rfl) rfl ?_
      refine Dx.p (i := 7) rfl (by kernel_rfl) (fa' fo113_1 rfl) rfl ?_
      refine Dx.r (i := 8) rfl (by kernel_rfl) (ld Tryz.underlying23 rfl rfl rfl) rfl ?_
      refine Dx.p (i := 9) rfl (by kernel_rfl) (mv rfl) rfl ?_
      refine Dx.p (i := 10) rfl (by kernel_rfl) (mv rfl) rfl ?_
      refine Dx.p (i := 11) rfl (by kernel_rfl) (nilc rfl) rfl ?_
      refine Dx.p (i := 12) rfl (by kernel_rfl) (fa' fo113_0 rfl) rfl ?_
      refine Dx.r (i := 13) rfl (by kernel_rfl) (ld Tryz.underlying23 rfl rfl rfl) rfl ?_
      refine Dx.p (i := 14) rfl (by kernel_rfl) (ia Tryz.underlying23 sz9 rfl rfl (show Int.toNat _ = 0 from rfl) (by omega) (by omega)) rfl ?_
      refine Dx.r (i := 15) rfl (by kernel_rfl) (ldC Tryz.underlying9 rfl rfl (Cells.buf (m := 1) hK1 (by rw [List.length_map]; omega))) rfl ?_
      refine Dx.p (i := 16) rfl (by kernel_rfl) (mv rfl) rfl ?_
      refine Dx.p (i := 17) rfl (by kernel_rfl) (nilc rfl) rfl ?_
      refine Dx.p (i := 18) rfl (by kernel_rfl) (fa' fo113_1 rfl) rfl ?_
      refine Dx.r (i := 19) rfl (by kernel_rfl) (ld Tryz.underlying23 rfl rfl rfl) rfl ?_
      refine Dx.p (i := 20) rfl (by kernel_rfl) (ia Tryz.underlying23 sz9 rfl rfl (show Int.toNat _ = 0 from rfl) (by omega) (by omega)) rfl ?_
      refine Dx.r (i := 21) rfl (by kernel_rfl) (ldC Tryz.underlying9 rfl rfl (Cells.buf (m := 1) hW1 (by rw [List.length_map]; omega))) rfl ?_
      refine Dx.p (i := 22) rfl (by kernel_rfl) (ia Tryz.underlying23 sz9 rfl rfl (Int.toNat_natCast _) (by omega) (by omega)) rfl ?_
      refine Dx.one (i := 23) (by kernel_rfl) ?_
      refine Dstep.o0 (i := 23) rfl (stO Tryz.underlying9 sz9 rfl rfl rfl (by rw [List.length_append, List.length_map]; omega) (frc_gen _ _)) (fun v B' H' hΦ hB => ?_)
      obtain ⟨rfl, rfl⟩ := hΦ; clear hB v
      refine ⟨JOk.edge (JOk.edge (JOk.edge (JOk.edge (JOk.edge (JOk.edge (JOk.top) (by kernel_rfl)) (by kernel_rfl)) (by kernel_rfl)) (by kernel_rfl)) (by kernel_rfl)) (by kernel_rfl), ?_⟩
      refine Dx.p (i := 24) rfl (by kernel_rfl) (ia Tryz.underlying23 sz9 rfl rfl (Int.toNat_natCast _) (by omega) (by omega)) rfl ?_
      refine Dx.one (i := 25) (by kernel_rfl) ?_
      refine Dstep.o0 (i := 25) rfl (stO Tryz.underlying9 sz9 rfl rfl rfl (by rw [List.length_append, List.length_map]; omega) (frc_gen _ _)) (fun v B' H' hΦ hB => ?_)
      obtain ⟨rfl, rfl⟩ := hΦ; clear hB v
      refine ⟨JOk.edge (JOk.edge (JOk.edge (JOk.edge (JOk.edge (JOk.edge (JOk.top) (by kernel_rfl)) (by kernel_rfl)) (by kernel_rfl)) (by kernel_rfl)) (by kernel_rfl)) (by kernel_rfl), ?_⟩
      refine Dx.done (by kernel_rfl) ?_
      refine Xx.tn (k3 _ _ _ _ ?_)
      refine Cx.seq (fun K4 k4 => ?_)
      refine Xx.closeT bK ((ks.set i Kx).map str) spK 1 n ck (set_str (by omega)) (by simp; omega) hkc (by rw [List.length_append, List.length_map, List.length_set]; rw [List.length_append, List.length_map] at hkcl; exact hkcl) ?_
      refine Xx.closeT bV ((vs.set i Wx).map str) spV 1 n cv (set_str (by omega)) (by simp; omega) hvc (by rw [List.length_append, List.length_map, List.length_set]; rw [List.length_append, List.length_map] at hvcl; exact hvcl) ?_
      refine Cx.drawn (by kernel_rfl) ?_
      refine Dx.p (i := 0) rfl (by kernel_rfl) (mv rfl) rfl ?_
      refine Dx.p (i := 1) rfl (by kernel_rfl) (mv rfl) rfl ?_
      refine Dx.p (i := 2) rfl (by kernel_rfl) (mv rfl) rfl ?_
      refine Dx.p (i := 3) rfl (by kernel_rfl) (nilc rfl) rfl ?_
      refine Dx.p (i := 4) rfl (by kernel_rfl) (fa' fo113_0 rfl) rfl ?_
      refine Dx.r (i := 5) rfl (by kernel_rfl) (ld Tryz.underlying23 rfl rfl rfl) rfl ?_
      refine Dx.p (i := 7) rfl (by kernel_rfl) (mv rfl) rfl ?_
      refine Dx.p (i := 8) rfl (by kernel_rfl) (nilc rfl) rfl ?_
      refine Dx.p (i := 9) rfl (by kernel_rfl) (fa' fo113_1 rfl) rfl ?_
      refine Dx.r (i := 10) rfl (by kernel_rfl) (ld Tryz.underlying23 rfl rfl rfl) rfl ?_
      refine Dx.one (i := 6) (by kernel_rfl) ?_
      refine Dstep.o (i := 6) rfl (Ox.call rfl rfl rfl (Del_ct (some ⟨bK2, 0, none⟩) 0 (nk) cm1 (kk.map str) _ (by omega) (by rw [List.length_map]; omega) (strs_all _) (by omega)) (pickS _)) rfl (fun v B' H' hΦ hB => ?_)
      obtain ⟨_, rfl, hΦ⟩ := hΦ
      obtain ⟨rfl, hBB, rfl⟩ := hΦ
      subst hBB
      rename Frag => B
      clear hB
      refine ⟨JOk.yes (JOk.edge (JOk.top) (by kernel_rfl)) (ld Tryz.underlying23 rfl rfl rfl), ?_⟩
      refine Dx.one (i := 11) (by kernel_rfl) ?_
      refine Dstep.o (i := 11) rfl (Ox.call rfl rfl rfl (Del_ct (some ⟨bV2, 0, none⟩) 0 (nk) cm2 (kv.map str) _ (by omega) (by rw [List.length_map]; omega) (strs_all _) (by omega)) (pickS _)) rfl (fun v B' H' hΦ hB => ?_)
      obtain ⟨_, rfl, hΦ⟩ := hΦ
      obtain ⟨rfl, hBB, rfl⟩ := hΦ
      subst hBB
      rename Frag => B
      clear hB
      refine ⟨JOk.edge (JOk.yes (JOk.top) (ld Tryz.underlying23 rfl rfl rfl)) (by kernel_rfl), ?_⟩
      refine Dx.p (i := 12) rfl (by kernel_rfl) (nilc rfl) rfl ?_
      refine Dx.p (i := 13) rfl (by kernel_rfl) (fa' fo113_0 rfl) rfl ?_
      refine Dx.one (i := 14) (by kernel_rfl) ?_
      refine Dstep.o0 (i := 14) rfl (stO Tryz.underlying23 sz23 rfl rfl rfl (by simp) rfl) (fun v B' H' hΦ hB => ?_)
      obtain ⟨rfl, rfl⟩ := hΦ; clear hB v
      refine ⟨JOk.edge (JOk.edge (JOk.top) (by kernel_rfl)) (by kernel_rfl), ?_⟩
      refine Dx.p (i := 15) rfl (by kernel_rfl) (nilc rfl) rfl ?_
      refine Dx.p (i := 16) rfl (by kernel_rfl) (fa' fo113_1 rfl) rfl ?_
      refine Dx.one (i := 17) (by kernel_rfl) ?_
      refine Dstep.o0 (i := 17) rfl (stO Tryz.underlying23 sz23 rfl rfl rfl (by simp) rfl) (fun v B' H' hΦ hB => ?_)
      obtain ⟨rfl, rfl⟩ := hΦ; clear hB v
      refine ⟨JOk.edge (JOk.edge (JOk.top) (by kernel_rfl)) (by kernel_rfl), ?_⟩
      refine Dx.done (by kernel_rfl) ?_
      refine Xx.tn (k4 _ _ _ _ ?_)
      refine Cx.seq (fun K5 k5 => ?_)
      refine Cx.region ?_
      refine Lx.y (mv rfl) rfl ?_
      refine Lx.y (nilc rfl) rfl ?_
      refine Lx.y (fa' fo113_2 rfl) rfl ?_
      refine Lx.y (ld Tryz.underlying111 rfl rfl rfl) rfl ?_
      refine Lx.y (lenV (ty' := 0) Tryz.underlying111 rfl) rfl ?_
      refine Lx.y (gtr rfl rfl) rfl ?_
      refine Lx.nil ?_
      refine Xx.tn (k5 _ _ _ _ ?_)
      refine Cx.condD rfl (fun h6 => ?_) (fun h6 => ?_)
      · skip
        have hq1 : qk ≠ 0 := by have := h6; omega
        refine Xx.addrT Cm (by omega) (fun bQ hCm _ hcm3 => ?_)
        subst hCm
        have hg1 : (kp.drop (0 + 0 * 1)).take 1 = [.pointer (some ⟨g, 0, none⟩)] := by rw [← hg hq1]; rfl
        refine Cx.seq (fun K7 k7 => ?_)
        refine Cx.drawn (by kernel_rfl) ?_
        refine Dx.p (i := 0) rfl (by kernel_rfl) (mv rfl) rfl ?_
        refine Dx.p (i := 1) rfl (by kernel_rfl) (mv rfl) rfl ?_
        refine Dx.p (i := 2) rfl (by kernel_rfl) (nilc rfl) rfl ?_
        refine Dx.p (i := 3) rfl (by kernel_rfl) (fa' fo113_2 rfl) rfl ?_
        refine Dx.r (i := 4) rfl (by kernel_rfl) (ld Tryz.underlying111 rfl rfl rfl) rfl ?_
        refine Dx.p (i := 5) rfl (by kernel_rfl) (mv rfl) rfl ?_
        refine Dx.p (i := 6) rfl (by kernel_rfl) (nilc rfl) rfl ?_
        refine Dx.p (i := 7) rfl (by kernel_rfl) (fa' fo113_2 rfl) rfl ?_
        refine Dx.r (i := 8) rfl (by kernel_rfl) (ld Tryz.underlying111 rfl rfl rfl) rfl ?_
        refine Dx.p (i := 9) rfl (by kernel_rfl) (ia Tryz.underlying111 sz110 rfl rfl (show Int.toNat _ = 0 from rfl) (by omega) (by omega)) rfl ?_
        refine Dx.r (i := 10) rfl (by kernel_rfl) (ldC Tryz.underlying110 rfl rfl (Cells.buf (m := 1) hg1 (by omega))) rfl ?_
        refine Dx.one (i := 11) (by kernel_rfl) ?_
        refine Dstep.o (i := 11) rfl (bsl1 Tryz.underlying111 ti110 rfl rfl rfl (by decide)) rfl (fun v B' H' hΦ hB => ?_)
        obtain ⟨b3, rfl, rfl, rfl⟩ := hΦ; clear hB
        refine ⟨JOk.edge (JOk.yes (JOk.yes (JOk.top) (ld Tryz.underlying111 rfl rfl rfl)) (ld Tryz.underlying111 rfl rfl rfl)) (by kernel_rfl), ?_⟩
        refine Dx.one (i := 12) (by kernel_rfl) ?_
        refine Dstep.o (i := 12) rfl (appN (et := 110) (ql + 1) [.pointer (some ⟨g, 0, none⟩)] (lp ++ [.pointer (some ⟨g, 0, none⟩)]) Tryz.underlying111 Tryz.underlying111 ti110 rfl rfl rfl rfl rfl (by omega) (by omega) rfl rfl) rfl (fun v B' H' hΦ hB => ?_)
        obtain ⟨Cl9, el9, rfl, _, _, hel9, hBB, rfl⟩ := hΦ
        subst hBB
        rename Frag => B
        clear hB
        refine ⟨JOk.yes (JOk.yes (JOk.edge (JOk.top) (by kernel_rfl)) (ld Tryz.underlying111 rfl rfl rfl)) (ldC Tryz.underlying110 rfl rfl (Cells.buf (m := 1) hg1 (by omega))), ?_⟩
        refine Dx.p (i := 13) rfl (by kernel_rfl) (nilc rfl) rfl ?_
        refine Dx.p (i := 14) rfl (by kernel_rfl) (fa' fo113_2 rfl) rfl ?_
        refine Dx.one (i := 15) (by kernel_rfl) ?_
        refine Dstep.o0 (i := 15) rfl (stO Tryz.underlying111 sz111 rfl rfl rfl (by simp) rfl) (fun v B' H' hΦ hB => ?_)
        obtain ⟨rfl, rfl⟩ := hΦ; clear hB v
        refine ⟨JOk.edge (JOk.edge (JOk.edge (JOk.top) (by kernel_rfl)) (by kernel_rfl)) (by kernel_rfl), ?_⟩
        refine Dx.done (by kernel_rfl) ?_
        refine Xx.tn (k7 _ _ _ _ ?_)
        refine Xx.dropB b3 ?_
        refine Cx.region ?_
        refine Lx.y (mv rfl) rfl ?_
        refine Lx.y (mv rfl) rfl ?_
        refine Lx.y (nilc rfl) rfl ?_
        refine Lx.y (fa' fo113_2 rfl) rfl ?_
        refine Lx.y (ld Tryz.underlying111 rfl rfl rfl) rfl ?_
        refine Lx.c rfl rfl rfl (DelN_ct (some ⟨bQ, 0, none⟩) 0 (qk) cm3 (kp) _ (by omega) (by omega) hka (by omega)) (pickS _) rfl ?_
        rintro v B1 H1 ⟨rfl, hBB, rfl⟩ hB1
        subst hBB
        rename Frag => B
        clear hB1
        refine Lx.y (nilc rfl) rfl ?_
        refine Lx.y (fa' fo113_2 rfl) rfl ?_
        refine Lx.st (stO Tryz.underlying111 sz111 rfl rfl rfl (by simp) rfl) ?_
        refine Lx.nil ?_
        exact Xx.end0 rfl ⟨rfl, rfl, Al9, cl9, Bl9, dl9, Cl9, el9, rfl⟩ (Frag.le_refl _) (by rw [show min qk 1 = 1 by omega, hg (by omega)]; simp only [List.take_zero, List.nil_append, Nat.zero_add]; ac_rfl)
      · skip
        have hq0 : qk = 0 := by have := h6; omega
        subst hq0
        obtain rfl := List.length_eq_zero_iff.1 hkp
        refine Cx.skip ?_
        exact Xx.end0 rfl ⟨rfl, rfl, Al9, cl9, Bl9, dl9, Cl, cl3, rfl⟩ (Frag.le_refl _) (by rw [show min 0 1 = 0 by omega, show 0 - 1 = 0 by omega]; simp only [List.take_zero, List.nil_append, Nat.zero_add, List.take_nil, List.drop_nil, List.append_nil, Nat.add_zero]; ac_rfl)
    refine Dstep.o (i := 26) rfl (bsl1 Tryz.underlying23 ti9 rfl rfl rfl (by decide)) rfl (fun v B' H' hΦ hB => ?_)
    obtain ⟨b2, rfl, rfl, rfl⟩ := hΦ; clear hB
    refine ⟨JOk.edge (JOk.yes (JOk.yes (JOk.yes (JOk.yes (JOk.yes (JOk.top) (ld Tryz.underlying23 rfl rfl rfl)) (ld Tryz.underlying23 rfl rfl rfl)) (ldC Tryz.underlying9 rfl rfl (Cells.buf (m := 1) hK (by rw [List.length_map]; omega)))) (ld Tryz.underlying23 rfl rfl rfl)) (ld Tryz.underlying23 rfl rfl rfl)) (by kernel_rfl), ?_⟩
    refine Dx.one (i := 14) (by kernel_rfl) ?_
    refine Dstep.o (i := 14) rfl (appN (et := 9) (nl + 1) [str K] (lk.map str ++ [str K]) Tryz.underlying23 Tryz.underlying23 ti9 rfl rfl rfl rfl rfl (by omega) (by omega) rfl rfl) rfl (fun v B' H' hΦ hB => ?_)
    obtain ⟨Al9, cl9, rfl, _, _, hcl9, hBB, rfl⟩ := hΦ
    subst hBB
    rename Frag => B
    clear hB
    refine ⟨JOk.yes (JOk.yes (JOk.yes (JOk.yes (JOk.yes (JOk.edge (JOk.top) (by kernel_rfl)) (ld Tryz.underlying23 rfl rfl rfl)) (ldC Tryz.underlying9 rfl rfl (Cells.buf (m := 1) hK (by rw [List.length_map]; omega)))) (ld Tryz.underlying23 rfl rfl rfl)) (ld Tryz.underlying23 rfl rfl rfl)) (ldC Tryz.underlying9 rfl rfl (Cells.buf (m := 1) hW (by rw [List.length_map]; omega))), ?_⟩
    refine Dx.one (i := 27) (by kernel_rfl) ?_
    refine Dstep.o (i := 27) rfl (appN (et := 9) (nl + 1) [str W] (lv.map str ++ [str W]) Tryz.underlying23 Tryz.underlying23 ti9 rfl rfl rfl rfl rfl (by omega) (by omega) rfl rfl) rfl (fun v B' H' hΦ hB => ?_)
    obtain ⟨Bl9, dl9, rfl, _, _, hdl9, hBB, rfl⟩ := hΦ
    subst hBB
    rename Frag => B
    clear hB
    refine ⟨JOk.yes (JOk.yes (JOk.edge (JOk.yes (JOk.yes (JOk.yes (JOk.top) (ld Tryz.underlying23 rfl rfl rfl)) (ld Tryz.underlying23 rfl rfl rfl)) (ldC Tryz.underlying9 rfl rfl (Cells.buf (m := 1) hK (by rw [List.length_map]; omega)))) (by kernel_rfl)) (ld Tryz.underlying23 rfl rfl rfl)) (ldC Tryz.underlying9 rfl rfl (Cells.buf (m := 1) hW (by rw [List.length_map]; omega))), ?_⟩
    refine Dx.p (i := 28) rfl (by kernel_rfl) (nilc rfl) rfl ?_
    refine Dx.p (i := 29) rfl (by kernel_rfl) (fa' fo113_0 rfl) rfl ?_
    refine Dx.one (i := 30) (by kernel_rfl) ?_
    refine Dstep.o0 (i := 30) rfl (stO Tryz.underlying23 sz23 rfl rfl rfl (by simp) rfl) (fun v B' H' hΦ hB => ?_)
    obtain ⟨rfl, rfl⟩ := hΦ; clear hB v
    refine ⟨JOk.edge (JOk.edge (JOk.edge (JOk.edge (JOk.edge (JOk.edge (JOk.top) (by kernel_rfl)) (by kernel_rfl)) (by kernel_rfl)) (by kernel_rfl)) (by kernel_rfl)) (by kernel_rfl), ?_⟩
    refine Dx.p (i := 31) rfl (by kernel_rfl) (nilc rfl) rfl ?_
    refine Dx.p (i := 32) rfl (by kernel_rfl) (fa' fo113_1 rfl) rfl ?_
    refine Dx.one (i := 33) (by kernel_rfl) ?_
    refine Dstep.o0 (i := 33) rfl (stO Tryz.underlying23 sz23 rfl rfl rfl (by simp) rfl) (fun v B' H' hΦ hB => ?_)
    obtain ⟨rfl, rfl⟩ := hΦ; clear hB v
    refine ⟨JOk.edge (JOk.edge (JOk.edge (JOk.edge (JOk.edge (JOk.edge (JOk.top) (by kernel_rfl)) (by kernel_rfl)) (by kernel_rfl)) (by kernel_rfl)) (by kernel_rfl)) (by kernel_rfl), ?_⟩
    refine Dx.done (by kernel_rfl) ?_
    refine Xx.tn (k2 _ _ _ _ ?_)
    refine Cx.seq (fun K8 k8 => ?_)
    refine Xx.dropB b1 (Xx.dropB b2 ?_)
    refine Xx.openT (some ⟨bK, 0, none⟩) (by omega) (fun bKx spK hAk hkx hkc hkcl => ?_)
    cases hAk
    refine Xx.openT (some ⟨bV, 0, none⟩) (by omega) (fun bVx spV hAv hvx hvc hvcl => ?_)
    cases hAv
    refine Cx.drawn (by kernel_rfl) ?_
    refine Dx.p (i := 0) rfl (by kernel_rfl) (mv rfl) rfl ?_
    refine Dx.p (i := 1) rfl (by kernel_rfl) (nilc rfl) rfl ?_
    refine Dx.p (i := 2) rfl (by kernel_rfl) (fa' fo113_0 rfl) rfl ?_
    refine Dx.r (i := 3) rfl (by kernel_rfl) (ld Tryz.underlying23 rfl rfl rfl) rfl ?_
    refine Dx.p (i := 4) rfl (by kernel_rfl) (mv rfl) rfl ?_
    refine Dx.p (i := 5) rfl (by kernel_rfl) (mv rfl) rfl ?_
    refine Dx.p (i := 6) rfl (by kernel_rfl) (nilc rfl) rfl ?_
    refine Dx.p (i := 7) rfl (by kernel_rfl) (fa' fo113_1 rfl) rfl ?_
    refine Dx.r (i := 8) rfl (by kernel_rfl) (ld Tryz.underlying23 rfl rfl rfl) rfl ?_
    refine Dx.p (i := 9) rfl (by kernel_rfl) (mv rfl) rfl ?_
    refine Dx.p (i := 10) rfl (by kernel_rfl) (mv rfl) rfl ?_
    refine Dx.p (i := 11) rfl (by kernel_rfl) (nilc rfl) rfl ?_
    refine Dx.p (i := 12) rfl (by kernel_rfl) (fa' fo113_0 rfl) rfl ?_
    refine Dx.r (i := 13) rfl (by kernel_rfl) (ld Tryz.underlying23 rfl rfl rfl) rfl ?_
    refine Dx.p (i := 14) rfl (by kernel_rfl) (ia Tryz.underlying23 sz9 rfl rfl (show Int.toNat _ = 0 from rfl) (by omega) (by omega)) rfl ?_
    refine Dx.r (i := 15) rfl (by kernel_rfl) (ldC Tryz.underlying9 rfl rfl (Cells.buf (m := 1) hK1 (by rw [List.length_map]; omega))) rfl ?_
    refine Dx.p (i := 16) rfl (by kernel_rfl) (mv rfl) rfl ?_
    refine Dx.p (i := 17) rfl (by kernel_rfl) (nilc rfl) rfl ?_
    refine Dx.p (i := 18) rfl (by kernel_rfl) (fa' fo113_1 rfl) rfl ?_
    refine Dx.r (i := 19) rfl (by kernel_rfl) (ld Tryz.underlying23 rfl rfl rfl) rfl ?_
    refine Dx.p (i := 20) rfl (by kernel_rfl) (ia Tryz.underlying23 sz9 rfl rfl (show Int.toNat _ = 0 from rfl) (by omega) (by omega)) rfl ?_
    refine Dx.r (i := 21) rfl (by kernel_rfl) (ldC Tryz.underlying9 rfl rfl (Cells.buf (m := 1) hW1 (by rw [List.length_map]; omega))) rfl ?_
    refine Dx.p (i := 22) rfl (by kernel_rfl) (ia Tryz.underlying23 sz9 rfl rfl (Int.toNat_natCast _) (by omega) (by omega)) rfl ?_
    refine Dx.one (i := 23) (by kernel_rfl) ?_
    refine Dstep.o0 (i := 23) rfl (stO Tryz.underlying9 sz9 rfl rfl rfl (by rw [List.length_append, List.length_map]; omega) (frc_gen _ _)) (fun v B' H' hΦ hB => ?_)
    obtain ⟨rfl, rfl⟩ := hΦ; clear hB v
    refine ⟨JOk.edge (JOk.edge (JOk.edge (JOk.edge (JOk.edge (JOk.edge (JOk.top) (by kernel_rfl)) (by kernel_rfl)) (by kernel_rfl)) (by kernel_rfl)) (by kernel_rfl)) (by kernel_rfl), ?_⟩
    refine Dx.p (i := 24) rfl (by kernel_rfl) (ia Tryz.underlying23 sz9 rfl rfl (Int.toNat_natCast _) (by omega) (by omega)) rfl ?_
    refine Dx.one (i := 25) (by kernel_rfl) ?_
    refine Dstep.o0 (i := 25) rfl (stO Tryz.underlying9 sz9 rfl rfl rfl (by rw [List.length_append, List.length_map]; omega) (frc_gen _ _)) (fun v B' H' hΦ hB => ?_)
    obtain ⟨rfl, rfl⟩ := hΦ; clear hB v
    refine ⟨JOk.edge (JOk.edge (JOk.edge (JOk.edge (JOk.edge (JOk.edge (JOk.top) (by kernel_rfl)) (by kernel_rfl)) (by kernel_rfl)) (by kernel_rfl)) (by kernel_rfl)) (by kernel_rfl), ?_⟩
    refine Dx.done (by kernel_rfl) ?_
    refine Xx.tn (k8 _ _ _ _ ?_)
    refine Cx.seq (fun K9 k9 => ?_)
    refine Xx.closeT bK ((ks.set i Kx).map str) spK 1 n ck (set_str (by omega)) (by simp; omega) hkc (by rw [List.length_append, List.length_map, List.length_set]; rw [List.length_append, List.length_map] at hkcl; exact hkcl) ?_
    refine Xx.closeT bV ((vs.set i Wx).map str) spV 1 n cv (set_str (by omega)) (by simp; omega) hvc (by rw [List.length_append, List.length_map, List.length_set]; rw [List.length_append, List.length_map] at hvcl; exact hvcl) ?_
    refine Cx.drawn (by kernel_rfl) ?_
    refine Dx.p (i := 0) rfl (by kernel_rfl) (mv rfl) rfl ?_
    refine Dx.p (i := 1) rfl (by kernel_rfl) (mv rfl) rfl ?_
    refine Dx.p (i := 2) rfl (by kernel_rfl) (mv rfl) rfl ?_
    refine Dx.p (i := 3) rfl (by kernel_rfl) (nilc rfl) rfl ?_
    refine Dx.p (i := 4) rfl (by kernel_rfl) (fa' fo113_0 rfl) rfl ?_
    refine Dx.r (i := 5) rfl (by kernel_rfl) (ld Tryz.underlying23 rfl rfl rfl) rfl ?_
    refine Dx.p (i := 7) rfl (by kernel_rfl) (mv rfl) rfl ?_
    refine Dx.p (i := 8) rfl (by kernel_rfl) (nilc rfl) rfl ?_
    refine Dx.p (i := 9) rfl (by kernel_rfl) (fa' fo113_1 rfl) rfl ?_
    refine Dx.r (i := 10) rfl (by kernel_rfl) (ld Tryz.underlying23 rfl rfl rfl) rfl ?_
    refine Dx.one (i := 6) (by kernel_rfl) ?_
    refine Dstep.o (i := 6) rfl (Ox.call rfl rfl rfl (Del_ct (some ⟨bK2, 0, none⟩) 0 (nk) cm1 (kk.map str) _ (by omega) (by rw [List.length_map]; omega) (strs_all _) (by omega)) (pickS _)) rfl (fun v B' H' hΦ hB => ?_)
    obtain ⟨_, rfl, hΦ⟩ := hΦ
    obtain ⟨rfl, hBB, rfl⟩ := hΦ
    subst hBB
    rename Frag => B
    clear hB
    refine ⟨JOk.yes (JOk.edge (JOk.top) (by kernel_rfl)) (ld Tryz.underlying23 rfl rfl rfl), ?_⟩
    refine Dx.one (i := 11) (by kernel_rfl) ?_
    refine Dstep.o (i := 11) rfl (Ox.call rfl rfl rfl (Del_ct (some ⟨bV2, 0, none⟩) 0 (nk) cm2 (kv.map str) _ (by omega) (by rw [List.length_map]; omega) (strs_all _) (by omega)) (pickS _)) rfl (fun v B' H' hΦ hB => ?_)
    obtain ⟨_, rfl, hΦ⟩ := hΦ
    obtain ⟨rfl, hBB, rfl⟩ := hΦ
    subst hBB
    rename Frag => B
    clear hB
    refine ⟨JOk.edge (JOk.yes (JOk.top) (ld Tryz.underlying23 rfl rfl rfl)) (by kernel_rfl), ?_⟩
    refine Dx.p (i := 12) rfl (by kernel_rfl) (nilc rfl) rfl ?_
    refine Dx.p (i := 13) rfl (by kernel_rfl) (fa' fo113_0 rfl) rfl ?_
    refine Dx.one (i := 14) (by kernel_rfl) ?_
    refine Dstep.o0 (i := 14) rfl (stO Tryz.underlying23 sz23 rfl rfl rfl (by simp) rfl) (fun v B' H' hΦ hB => ?_)
    obtain ⟨rfl, rfl⟩ := hΦ; clear hB v
    refine ⟨JOk.edge (JOk.edge (JOk.top) (by kernel_rfl)) (by kernel_rfl), ?_⟩
    refine Dx.p (i := 15) rfl (by kernel_rfl) (nilc rfl) rfl ?_
    refine Dx.p (i := 16) rfl (by kernel_rfl) (fa' fo113_1 rfl) rfl ?_
    refine Dx.one (i := 17) (by kernel_rfl) ?_
    refine Dstep.o0 (i := 17) rfl (stO Tryz.underlying23 sz23 rfl rfl rfl (by simp) rfl) (fun v B' H' hΦ hB => ?_)
    obtain ⟨rfl, rfl⟩ := hΦ; clear hB v
    refine ⟨JOk.edge (JOk.edge (JOk.top) (by kernel_rfl)) (by kernel_rfl), ?_⟩
    refine Dx.done (by kernel_rfl) ?_
    refine Xx.tn (k9 _ _ _ _ ?_)
    refine Cx.seq (fun K10 k10 => ?_)
    refine Cx.region ?_
    refine Lx.y (mv rfl) rfl ?_
    refine Lx.y (nilc rfl) rfl ?_
    refine Lx.y (fa' fo113_2 rfl) rfl ?_
    refine Lx.y (ld Tryz.underlying111 rfl rfl rfl) rfl ?_
    refine Lx.y (lenV (ty' := 0) Tryz.underlying111 rfl) rfl ?_
    refine Lx.y (gtr rfl rfl) rfl ?_
    refine Lx.nil ?_
    refine Xx.tn (k10 _ _ _ _ ?_)
    refine Cx.condD rfl (fun h11 => ?_) (fun h11 => ?_)
    · skip
      have hq1 : qk ≠ 0 := by have := h11; omega
      refine Xx.addrT Cm (by omega) (fun bQ hCm _ hcm3 => ?_)
      subst hCm
      have hg1 : (kp.drop (0 + 0 * 1)).take 1 = [.pointer (some ⟨g, 0, none⟩)] := by rw [← hg hq1]; rfl
      refine Cx.seq (fun K12 k12 => ?_)
      refine Cx.drawn (by kernel_rfl) ?_
      refine Dx.p (i := 0) rfl (by kernel_rfl) (mv rfl) rfl ?_
      refine Dx.p (i := 1) rfl (by kernel_rfl) (mv rfl) rfl ?_
      refine Dx.p (i := 2) rfl (by kernel_rfl) (nilc rfl) rfl ?_
      refine Dx.p (i := 3) rfl (by kernel_rfl) (fa' fo113_2 rfl) rfl ?_
      refine Dx.r (i := 4) rfl (by kernel_rfl) (ld Tryz.underlying111 rfl rfl rfl) rfl ?_
      refine Dx.p (i := 5) rfl (by kernel_rfl) (mv rfl) rfl ?_
      refine Dx.p (i := 6) rfl (by kernel_rfl) (nilc rfl) rfl ?_
      refine Dx.p (i := 7) rfl (by kernel_rfl) (fa' fo113_2 rfl) rfl ?_
      refine Dx.r (i := 8) rfl (by kernel_rfl) (ld Tryz.underlying111 rfl rfl rfl) rfl ?_
      refine Dx.p (i := 9) rfl (by kernel_rfl) (ia Tryz.underlying111 sz110 rfl rfl (show Int.toNat _ = 0 from rfl) (by omega) (by omega)) rfl ?_
      refine Dx.r (i := 10) rfl (by kernel_rfl) (ldC Tryz.underlying110 rfl rfl (Cells.buf (m := 1) hg1 (by omega))) rfl ?_
      refine Dx.one (i := 11) (by kernel_rfl) ?_
      refine Dstep.o (i := 11) rfl (bsl1 Tryz.underlying111 ti110 rfl rfl rfl (by decide)) rfl (fun v B' H' hΦ hB => ?_)
      obtain ⟨b3, rfl, rfl, rfl⟩ := hΦ; clear hB
      refine ⟨JOk.edge (JOk.yes (JOk.yes (JOk.top) (ld Tryz.underlying111 rfl rfl rfl)) (ld Tryz.underlying111 rfl rfl rfl)) (by kernel_rfl), ?_⟩
      refine Dx.one (i := 12) (by kernel_rfl) ?_
      refine Dstep.o (i := 12) rfl (appN (et := 110) (ql + 1) [.pointer (some ⟨g, 0, none⟩)] (lp ++ [.pointer (some ⟨g, 0, none⟩)]) Tryz.underlying111 Tryz.underlying111 ti110 rfl rfl rfl rfl rfl (by omega) (by omega) rfl rfl) rfl (fun v B' H' hΦ hB => ?_)
      obtain ⟨Cl9, el9, rfl, _, _, hel9, hBB, rfl⟩ := hΦ
      subst hBB
      rename Frag => B
      clear hB
      refine ⟨JOk.yes (JOk.yes (JOk.edge (JOk.top) (by kernel_rfl)) (ld Tryz.underlying111 rfl rfl rfl)) (ldC Tryz.underlying110 rfl rfl (Cells.buf (m := 1) hg1 (by omega))), ?_⟩
      refine Dx.p (i := 13) rfl (by kernel_rfl) (nilc rfl) rfl ?_
      refine Dx.p (i := 14) rfl (by kernel_rfl) (fa' fo113_2 rfl) rfl ?_
      refine Dx.one (i := 15) (by kernel_rfl) ?_
      refine Dstep.o0 (i := 15) rfl (stO Tryz.underlying111 sz111 rfl rfl rfl (by simp) rfl) (fun v B' H' hΦ hB => ?_)
      obtain ⟨rfl, rfl⟩ := hΦ; clear hB v
      refine ⟨JOk.edge (JOk.edge (JOk.edge (JOk.top) (by kernel_rfl)) (by kernel_rfl)) (by kernel_rfl), ?_⟩
      refine Dx.done (by kernel_rfl) ?_
      refine Xx.tn (k12 _ _ _ _ ?_)
      refine Xx.dropB b3 ?_
      refine Cx.region ?_
      refine Lx.y (mv rfl) rfl ?_
      refine Lx.y (mv rfl) rfl ?_
      refine Lx.y (nilc rfl) rfl ?_
      refine Lx.y (fa' fo113_2 rfl) rfl ?_
      refine Lx.y (ld Tryz.underlying111 rfl rfl rfl) rfl ?_
      refine Lx.c rfl rfl rfl (DelN_ct (some ⟨bQ, 0, none⟩) 0 (qk) cm3 (kp) _ (by omega) (by omega) hka (by omega)) (pickS _) rfl ?_
      rintro v B1 H1 ⟨rfl, hBB, rfl⟩ hB1
      subst hBB
      rename Frag => B
      clear hB1
      refine Lx.y (nilc rfl) rfl ?_
      refine Lx.y (fa' fo113_2 rfl) rfl ?_
      refine Lx.st (stO Tryz.underlying111 sz111 rfl rfl rfl (by simp) rfl) ?_
      refine Lx.nil ?_
      exact Xx.end0 rfl ⟨rfl, rfl, Al9, cl9, Bl9, dl9, Cl9, el9, rfl⟩ (Frag.le_refl _) (by rw [show min qk 1 = 1 by omega, hg (by omega)]; simp only [List.take_zero, List.nil_append, Nat.zero_add]; ac_rfl)
    · skip
      have hq0 : qk = 0 := by have := h11; omega
      subst hq0
      obtain rfl := List.length_eq_zero_iff.1 hkp
      refine Cx.skip ?_
      exact Xx.end0 rfl ⟨rfl, rfl, Al9, cl9, Bl9, dl9, Cl, cl3, rfl⟩ (Frag.le_refl _) (by rw [show min 0 1 = 0 by omega, show 0 - 1 = 0 by omega]; simp only [List.take_zero, List.nil_append, Nat.zero_add, List.take_nil, List.drop_nil, List.append_nil, Nat.add_zero]; ac_rfl)
  refine Dstep.o (i := 26) rfl (bsl1 Tryz.underlying23 ti9 rfl rfl rfl (by decide)) rfl (fun v B' H' hΦ hB => ?_)
  obtain ⟨b2, rfl, rfl, rfl⟩ := hΦ; clear hB
  refine ⟨JOk.edge (JOk.yes (JOk.yes (JOk.yes (JOk.yes (JOk.yes (JOk.top) (ld Tryz.underlying23 rfl rfl rfl)) (ld Tryz.underlying23 rfl rfl rfl)) (ldC Tryz.underlying9 rfl rfl (Cells.buf (m := 1) hK (by rw [List.length_map]; omega)))) (ld Tryz.underlying23 rfl rfl rfl)) (ld Tryz.underlying23 rfl rfl rfl)) (by kernel_rfl), ?_⟩
  refine Dx.one (i := 13) (by kernel_rfl) ?_
  refine Dstep.o (i := 13) rfl (bsl1 Tryz.underlying23 ti9 rfl rfl rfl (by decide)) rfl (fun v B' H' hΦ hB => ?_)
  obtain ⟨b1, rfl, rfl, rfl⟩ := hΦ; clear hB
  refine ⟨JOk.yes (JOk.yes (JOk.yes (JOk.edge (JOk.yes (JOk.yes (JOk.top) (ld Tryz.underlying23 rfl rfl rfl)) (ld Tryz.underlying23 rfl rfl rfl)) (by kernel_rfl)) (ld Tryz.underlying23 rfl rfl rfl)) (ld Tryz.underlying23 rfl rfl rfl)) (ldC Tryz.underlying9 rfl rfl (Cells.buf (m := 1) hW (by rw [List.length_map]; omega))), ?_⟩
  refine Dx.one (i := 14) (by kernel_rfl) ?_
  refine Dstep.o (i := 14) rfl (appN (et := 9) (nl + 1) [str K] (lk.map str ++ [str K]) Tryz.underlying23 Tryz.underlying23 ti9 rfl rfl rfl rfl rfl (by omega) (by omega) rfl rfl) rfl (fun v B' H' hΦ hB => ?_)
  obtain ⟨Al9, cl9, rfl, _, _, hcl9, hBB, rfl⟩ := hΦ
  subst hBB
  rename Frag => B
  clear hB
  refine ⟨JOk.yes (JOk.yes (JOk.yes (JOk.yes (JOk.yes (JOk.edge (JOk.top) (by kernel_rfl)) (ld Tryz.underlying23 rfl rfl rfl)) (ldC Tryz.underlying9 rfl rfl (Cells.buf (m := 1) hK (by rw [List.length_map]; omega)))) (ld Tryz.underlying23 rfl rfl rfl)) (ld Tryz.underlying23 rfl rfl rfl)) (ldC Tryz.underlying9 rfl rfl (Cells.buf (m := 1) hW (by rw [List.length_map]; omega))), ?_⟩
  refine Dx.one (i := 27) (by kernel_rfl) ?_
  refine Dstep.o (i := 27) rfl (appN (et := 9) (nl + 1) [str W] (lv.map str ++ [str W]) Tryz.underlying23 Tryz.underlying23 ti9 rfl rfl rfl rfl rfl (by omega) (by omega) rfl rfl) rfl (fun v B' H' hΦ hB => ?_)
  obtain ⟨Bl9, dl9, rfl, _, _, hdl9, hBB, rfl⟩ := hΦ
  subst hBB
  rename Frag => B
  clear hB
  refine ⟨JOk.yes (JOk.yes (JOk.edge (JOk.yes (JOk.yes (JOk.yes (JOk.top) (ld Tryz.underlying23 rfl rfl rfl)) (ld Tryz.underlying23 rfl rfl rfl)) (ldC Tryz.underlying9 rfl rfl (Cells.buf (m := 1) hK (by rw [List.length_map]; omega)))) (by kernel_rfl)) (ld Tryz.underlying23 rfl rfl rfl)) (ldC Tryz.underlying9 rfl rfl (Cells.buf (m := 1) hW (by rw [List.length_map]; omega))), ?_⟩
  refine Dx.p (i := 28) rfl (by kernel_rfl) (nilc rfl) rfl ?_
  refine Dx.p (i := 29) rfl (by kernel_rfl) (fa' fo113_0 rfl) rfl ?_
  refine Dx.one (i := 30) (by kernel_rfl) ?_
  refine Dstep.o0 (i := 30) rfl (stO Tryz.underlying23 sz23 rfl rfl rfl (by simp) rfl) (fun v B' H' hΦ hB => ?_)
  obtain ⟨rfl, rfl⟩ := hΦ; clear hB v
  refine ⟨JOk.edge (JOk.edge (JOk.edge (JOk.edge (JOk.edge (JOk.edge (JOk.top) (by kernel_rfl)) (by kernel_rfl)) (by kernel_rfl)) (by kernel_rfl)) (by kernel_rfl)) (by kernel_rfl), ?_⟩
  refine Dx.p (i := 31) rfl (by kernel_rfl) (nilc rfl) rfl ?_
  refine Dx.p (i := 32) rfl (by kernel_rfl) (fa' fo113_1 rfl) rfl ?_
  refine Dx.one (i := 33) (by kernel_rfl) ?_
  refine Dstep.o0 (i := 33) rfl (stO Tryz.underlying23 sz23 rfl rfl rfl (by simp) rfl) (fun v B' H' hΦ hB => ?_)
  obtain ⟨rfl, rfl⟩ := hΦ; clear hB v
  refine ⟨JOk.edge (JOk.edge (JOk.edge (JOk.edge (JOk.edge (JOk.edge (JOk.top) (by kernel_rfl)) (by kernel_rfl)) (by kernel_rfl)) (by kernel_rfl)) (by kernel_rfl)) (by kernel_rfl), ?_⟩
  refine Dx.done (by kernel_rfl) ?_
  refine Xx.tn (k2 _ _ _ _ ?_)
  refine Cx.seq (fun K13 k13 => ?_)
  refine Xx.dropB b1 (Xx.dropB b2 ?_)
  refine Xx.openT (some ⟨bK, 0, none⟩) (by omega) (fun bKx spK hAk hkx hkc hkcl => ?_)
  cases hAk
  refine Xx.openT (some ⟨bV, 0, none⟩) (by omega) (fun bVx spV hAv hvx hvc hvcl => ?_)
  cases hAv
  refine Cx.drawn (by kernel_rfl) ?_
  refine Dx.p (i := 0) rfl (by kernel_rfl) (mv rfl) rfl ?_
  refine Dx.p (i := 1) rfl (by kernel_rfl) (nilc rfl) rfl ?_
  refine Dx.p (i := 2) rfl (by kernel_rfl) (fa' fo113_0 rfl) rfl ?_
  refine Dx.r (i := 3) rfl (by kernel_rfl) (ld Tryz.underlying23 rfl rfl rfl) rfl ?_
  refine Dx.p (i := 4) rfl (by kernel_rfl) (mv rfl) rfl ?_
  refine Dx.p (i := 5) rfl (by kernel_rfl) (mv rfl) rfl ?_
  refine Dx.p (i := 6) rfl (by kernel_rfl) (nilc rfl) rfl ?_
  refine Dx.p (i := 7) rfl (by kernel_rfl) (fa' fo113_1 rfl) rfl ?_
  refine Dx.r (i := 8) rfl (by kernel_rfl) (ld Tryz.underlying23 rfl rfl rfl) rfl ?_
  refine Dx.p (i := 9) rfl (by kernel_rfl) (mv rfl) rfl ?_
  refine Dx.p (i := 10) rfl (by kernel_rfl) (mv rfl) rfl ?_
  refine Dx.p (i := 11) rfl (by kernel_rfl) (nilc rfl) rfl ?_
  refine Dx.p (i := 12) rfl (by kernel_rfl) (fa' fo113_0 rfl) rfl ?_
  refine Dx.r (i := 13) rfl (by kernel_rfl) (ld Tryz.underlying23 rfl rfl rfl) rfl ?_
  refine Dx.p (i := 14) rfl (by kernel_rfl) (ia Tryz.underlying23 sz9 rfl rfl (show Int.toNat _ = 0 from rfl) (by omega) (by omega)) rfl ?_
  refine Dx.r (i := 15) rfl (by kernel_rfl) (ldC Tryz.underlying9 rfl rfl (Cells.buf (m := 1) hK1 (by rw [List.length_map]; omega))) rfl ?_
  refine Dx.p (i := 16) rfl (by kernel_rfl) (mv rfl) rfl ?_
  refine Dx.p (i := 17) rfl (by kernel_rfl) (nilc rfl) rfl ?_
  refine Dx.p (i := 18) rfl (by kernel_rfl) (fa' fo113_1 rfl) rfl ?_
  refine Dx.r (i := 19) rfl (by kernel_rfl) (ld Tryz.underlying23 rfl rfl rfl) rfl ?_
  refine Dx.p (i := 20) rfl (by kernel_rfl) (ia Tryz.underlying23 sz9 rfl rfl (show Int.toNat _ = 0 from rfl) (by omega) (by omega)) rfl ?_
  refine Dx.r (i := 21) rfl (by kernel_rfl) (ldC Tryz.underlying9 rfl rfl (Cells.buf (m := 1) hW1 (by rw [List.length_map]; omega))) rfl ?_
  refine Dx.p (i := 22) rfl (by kernel_rfl) (ia Tryz.underlying23 sz9 rfl rfl (Int.toNat_natCast _) (by omega) (by omega)) rfl ?_
  refine Dx.one (i := 23) (by kernel_rfl) ?_
  refine Dstep.o0 (i := 23) rfl (stO Tryz.underlying9 sz9 rfl rfl rfl (by rw [List.length_append, List.length_map]; omega) (frc_gen _ _)) (fun v B' H' hΦ hB => ?_)
  obtain ⟨rfl, rfl⟩ := hΦ; clear hB v
  refine ⟨JOk.edge (JOk.edge (JOk.edge (JOk.edge (JOk.edge (JOk.edge (JOk.top) (by kernel_rfl)) (by kernel_rfl)) (by kernel_rfl)) (by kernel_rfl)) (by kernel_rfl)) (by kernel_rfl), ?_⟩
  refine Dx.p (i := 24) rfl (by kernel_rfl) (ia Tryz.underlying23 sz9 rfl rfl (Int.toNat_natCast _) (by omega) (by omega)) rfl ?_
  refine Dx.one (i := 25) (by kernel_rfl) ?_
  refine Dstep.o0 (i := 25) rfl (stO Tryz.underlying9 sz9 rfl rfl rfl (by rw [List.length_append, List.length_map]; omega) (frc_gen _ _)) (fun v B' H' hΦ hB => ?_)
  obtain ⟨rfl, rfl⟩ := hΦ; clear hB v
  refine ⟨JOk.edge (JOk.edge (JOk.edge (JOk.edge (JOk.edge (JOk.edge (JOk.top) (by kernel_rfl)) (by kernel_rfl)) (by kernel_rfl)) (by kernel_rfl)) (by kernel_rfl)) (by kernel_rfl), ?_⟩
  refine Dx.done (by kernel_rfl) ?_
  refine Xx.tn (k13 _ _ _ _ ?_)
  refine Cx.seq (fun K14 k14 => ?_)
  refine Xx.closeT bK ((ks.set i Kx).map str) spK 1 n ck (set_str (by omega)) (by simp; omega) hkc (by rw [List.length_append, List.length_map, List.length_set]; rw [List.length_append, List.length_map] at hkcl; exact hkcl) ?_
  refine Xx.closeT bV ((vs.set i Wx).map str) spV 1 n cv (set_str (by omega)) (by simp; omega) hvc (by rw [List.length_append, List.length_map, List.length_set]; rw [List.length_append, List.length_map] at hvcl; exact hvcl) ?_
  refine Cx.drawn (by kernel_rfl) ?_
  refine Dx.p (i := 0) rfl (by kernel_rfl) (mv rfl) rfl ?_
  refine Dx.p (i := 1) rfl (by kernel_rfl) (mv rfl) rfl ?_
  refine Dx.p (i := 2) rfl (by kernel_rfl) (mv rfl) rfl ?_
  refine Dx.p (i := 3) rfl (by kernel_rfl) (nilc rfl) rfl ?_
  refine Dx.p (i := 4) rfl (by kernel_rfl) (fa' fo113_0 rfl) rfl ?_
  refine Dx.r (i := 5) rfl (by kernel_rfl) (ld Tryz.underlying23 rfl rfl rfl) rfl ?_
  refine Dx.p (i := 7) rfl (by kernel_rfl) (mv rfl) rfl ?_
  refine Dx.p (i := 8) rfl (by kernel_rfl) (nilc rfl) rfl ?_
  refine Dx.p (i := 9) rfl (by kernel_rfl) (fa' fo113_1 rfl) rfl ?_
  refine Dx.r (i := 10) rfl (by kernel_rfl) (ld Tryz.underlying23 rfl rfl rfl) rfl ?_
  refine Dx.one (i := 6) (by kernel_rfl) ?_
  refine Dstep.o (i := 6) rfl (Ox.call rfl rfl rfl (Del_ct (some ⟨bK2, 0, none⟩) 0 (nk) cm1 (kk.map str) _ (by omega) (by rw [List.length_map]; omega) (strs_all _) (by omega)) (pickS _)) rfl (fun v B' H' hΦ hB => ?_)
  obtain ⟨_, rfl, hΦ⟩ := hΦ
  obtain ⟨rfl, hBB, rfl⟩ := hΦ
  subst hBB
  rename Frag => B
  clear hB
  refine ⟨JOk.yes (JOk.edge (JOk.top) (by kernel_rfl)) (ld Tryz.underlying23 rfl rfl rfl), ?_⟩
  refine Dx.one (i := 11) (by kernel_rfl) ?_
  refine Dstep.o (i := 11) rfl (Ox.call rfl rfl rfl (Del_ct (some ⟨bV2, 0, none⟩) 0 (nk) cm2 (kv.map str) _ (by omega) (by rw [List.length_map]; omega) (strs_all _) (by omega)) (pickS _)) rfl (fun v B' H' hΦ hB => ?_)
  obtain ⟨_, rfl, hΦ⟩ := hΦ
  obtain ⟨rfl, hBB, rfl⟩ := hΦ
  subst hBB
  rename Frag => B
  clear hB
  refine ⟨JOk.edge (JOk.yes (JOk.top) (ld Tryz.underlying23 rfl rfl rfl)) (by kernel_rfl), ?_⟩
  refine Dx.p (i := 12) rfl (by kernel_rfl) (nilc rfl) rfl ?_
  refine Dx.p (i := 13) rfl (by kernel_rfl) (fa' fo113_0 rfl) rfl ?_
  refine Dx.one (i := 14) (by kernel_rfl) ?_
  refine Dstep.o0 (i := 14) rfl (stO Tryz.underlying23 sz23 rfl rfl rfl (by simp) rfl) (fun v B' H' hΦ hB => ?_)
  obtain ⟨rfl, rfl⟩ := hΦ; clear hB v
  refine ⟨JOk.edge (JOk.edge (JOk.top) (by kernel_rfl)) (by kernel_rfl), ?_⟩
  refine Dx.p (i := 15) rfl (by kernel_rfl) (nilc rfl) rfl ?_
  refine Dx.p (i := 16) rfl (by kernel_rfl) (fa' fo113_1 rfl) rfl ?_
  refine Dx.one (i := 17) (by kernel_rfl) ?_
  refine Dstep.o0 (i := 17) rfl (stO Tryz.underlying23 sz23 rfl rfl rfl (by simp) rfl) (fun v B' H' hΦ hB => ?_)
  obtain ⟨rfl, rfl⟩ := hΦ; clear hB v
  refine ⟨JOk.edge (JOk.edge (JOk.top) (by kernel_rfl)) (by kernel_rfl), ?_⟩
  refine Dx.done (by kernel_rfl) ?_
  refine Xx.tn (k14 _ _ _ _ ?_)
  refine Cx.seq (fun K15 k15 => ?_)
  refine Cx.region ?_
  refine Lx.y (mv rfl) rfl ?_
  refine Lx.y (nilc rfl) rfl ?_
  refine Lx.y (fa' fo113_2 rfl) rfl ?_
  refine Lx.y (ld Tryz.underlying111 rfl rfl rfl) rfl ?_
  refine Lx.y (lenV (ty' := 0) Tryz.underlying111 rfl) rfl ?_
  refine Lx.y (gtr rfl rfl) rfl ?_
  refine Lx.nil ?_
  refine Xx.tn (k15 _ _ _ _ ?_)
  refine Cx.condD rfl (fun h16 => ?_) (fun h16 => ?_)
  · skip
    have hq1 : qk ≠ 0 := by have := h16; omega
    refine Xx.addrT Cm (by omega) (fun bQ hCm _ hcm3 => ?_)
    subst hCm
    have hg1 : (kp.drop (0 + 0 * 1)).take 1 = [.pointer (some ⟨g, 0, none⟩)] := by rw [← hg hq1]; rfl
    refine Cx.seq (fun K17 k17 => ?_)
    refine Cx.drawn (by kernel_rfl) ?_
    refine Dx.p (i := 0) rfl (by kernel_rfl) (mv rfl) rfl ?_
    refine Dx.p (i := 1) rfl (by kernel_rfl) (mv rfl) rfl ?_
    refine Dx.p (i := 2) rfl (by kernel_rfl) (nilc rfl) rfl ?_
    refine Dx.p (i := 3) rfl (by kernel_rfl) (fa' fo113_2 rfl) rfl ?_
    refine Dx.r (i := 4) rfl (by kernel_rfl) (ld Tryz.underlying111 rfl rfl rfl) rfl ?_
    refine Dx.p (i := 5) rfl (by kernel_rfl) (mv rfl) rfl ?_
    refine Dx.p (i := 6) rfl (by kernel_rfl) (nilc rfl) rfl ?_
    refine Dx.p (i := 7) rfl (by kernel_rfl) (fa' fo113_2 rfl) rfl ?_
    refine Dx.r (i := 8) rfl (by kernel_rfl) (ld Tryz.underlying111 rfl rfl rfl) rfl ?_
    refine Dx.p (i := 9) rfl (by kernel_rfl) (ia Tryz.underlying111 sz110 rfl rfl (show Int.toNat _ = 0 from rfl) (by omega) (by omega)) rfl ?_
    refine Dx.r (i := 10) rfl (by kernel_rfl) (ldC Tryz.underlying110 rfl rfl (Cells.buf (m := 1) hg1 (by omega))) rfl ?_
    refine Dx.one (i := 11) (by kernel_rfl) ?_
    refine Dstep.o (i := 11) rfl (bsl1 Tryz.underlying111 ti110 rfl rfl rfl (by decide)) rfl (fun v B' H' hΦ hB => ?_)
    obtain ⟨b3, rfl, rfl, rfl⟩ := hΦ; clear hB
    refine ⟨JOk.edge (JOk.yes (JOk.yes (JOk.top) (ld Tryz.underlying111 rfl rfl rfl)) (ld Tryz.underlying111 rfl rfl rfl)) (by kernel_rfl), ?_⟩
    refine Dx.one (i := 12) (by kernel_rfl) ?_
    refine Dstep.o (i := 12) rfl (appN (et := 110) (ql + 1) [.pointer (some ⟨g, 0, none⟩)] (lp ++ [.pointer (some ⟨g, 0, none⟩)]) Tryz.underlying111 Tryz.underlying111 ti110 rfl rfl rfl rfl rfl (by omega) (by omega) rfl rfl) rfl (fun v B' H' hΦ hB => ?_)
    obtain ⟨Cl9, el9, rfl, _, _, hel9, hBB, rfl⟩ := hΦ
    subst hBB
    rename Frag => B
    clear hB
    refine ⟨JOk.yes (JOk.yes (JOk.edge (JOk.top) (by kernel_rfl)) (ld Tryz.underlying111 rfl rfl rfl)) (ldC Tryz.underlying110 rfl rfl (Cells.buf (m := 1) hg1 (by omega))), ?_⟩
    refine Dx.p (i := 13) rfl (by kernel_rfl) (nilc rfl) rfl ?_
    refine Dx.p (i := 14) rfl (by kernel_rfl) (fa' fo113_2 rfl) rfl ?_
    refine Dx.one (i := 15) (by kernel_rfl) ?_
    refine Dstep.o0 (i := 15) rfl (stO Tryz.underlying111 sz111 rfl rfl rfl (by simp) rfl) (fun v B' H' hΦ hB => ?_)
    obtain ⟨rfl, rfl⟩ := hΦ; clear hB v
    refine ⟨JOk.edge (JOk.edge (JOk.edge (JOk.top) (by kernel_rfl)) (by kernel_rfl)) (by kernel_rfl), ?_⟩
    refine Dx.done (by kernel_rfl) ?_
    refine Xx.tn (k17 _ _ _ _ ?_)
    refine Xx.dropB b3 ?_
    refine Cx.region ?_
    refine Lx.y (mv rfl) rfl ?_
    refine Lx.y (mv rfl) rfl ?_
    refine Lx.y (nilc rfl) rfl ?_
    refine Lx.y (fa' fo113_2 rfl) rfl ?_
    refine Lx.y (ld Tryz.underlying111 rfl rfl rfl) rfl ?_
    refine Lx.c rfl rfl rfl (DelN_ct (some ⟨bQ, 0, none⟩) 0 (qk) cm3 (kp) _ (by omega) (by omega) hka (by omega)) (pickS _) rfl ?_
    rintro v B1 H1 ⟨rfl, hBB, rfl⟩ hB1
    subst hBB
    rename Frag => B
    clear hB1
    refine Lx.y (nilc rfl) rfl ?_
    refine Lx.y (fa' fo113_2 rfl) rfl ?_
    refine Lx.st (stO Tryz.underlying111 sz111 rfl rfl rfl (by simp) rfl) ?_
    refine Lx.nil ?_
    exact Xx.end0 rfl ⟨rfl, rfl, Al9, cl9, Bl9, dl9, Cl9, el9, rfl⟩ (Frag.le_refl _) (by rw [show min qk 1 = 1 by omega, hg (by omega)]; simp only [List.take_zero, List.nil_append, Nat.zero_add]; ac_rfl)
  · skip
    have hq0 : qk = 0 := by have := h16; omega
    subst hq0
    obtain rfl := List.length_eq_zero_iff.1 hkp
    refine Cx.skip ?_
    exact Xx.end0 rfl ⟨rfl, rfl, Al9, cl9, Bl9, dl9, Cl, cl3, rfl⟩ (Frag.le_refl _) (by rw [show min 0 1 = 0 by omega, show 0 - 1 = 0 by omega]; simp only [List.take_zero, List.nil_append, Nat.zero_add, List.take_nil, List.drop_nil, List.append_nil, Nat.add_zero]; ac_rfl)

set_option maxHeartbeats 4000000 in
theorem join_raw (b bl bk n nl nk p ql qk i : Nat) (Ak Av Ac Al Bl Cl Am Bm Cm : Option Addr) (ck cv cc cl1 cl2 cl3 cm1 cm2 cm3 : Nat) (ks vs lk lv kk kv : List Str8) (ps lp kp : List Value) (K W : Str8) (B : Frag) (hn : n ≤ 100) (hp : p = n + 1) (hi : i + 1 < p) (hks : ks.length = n) (hvs : vs.length = n) (hpl : ps.length = p) (hnl : nl ≤ 7) (hlk : lk.length = nl) (hlv : lv.length = nl) (hkk : kk.length = nk) (hkv : kv.length = nk) (hlp : lp.length = ql) (hkp : kp.length = qk) (hql : ql ≤ 8) (hqk : qk ≤ 8) (hpl1 : (ps.drop (0 + i * 1)).take 1 = [.pointer (some ⟨bl, 0, none⟩)]) (hpk1 : (ps.drop (0 + (i + 1) * 1)).take 1 = [.pointer (some ⟨bk, 0, none⟩)]) (hK : ((ks.map str).drop (0 + i * 1)).take 1 = [str K]) (hW : ((vs.map str).drop (0 + i * 1)).take 1 = [str W]) (hpa : ps.all (·.oneCell') = true) (hla : lp.all (·.oneCell') = true) (hka : kp.all (·.oneCell') = true) (hnk : 1 ≤ nk ∧ nk ≤ 7) : Ct Tryz.prog 104 [.pointer (some ⟨b, 0, none⟩), i64 i] B (row b 113 [.slice Ak (n) ck, .slice Av (n) cv, .slice Ac (p) cc] * (sbuf 9 1 Ak (n) ck (ks.map str) * (sbuf 9 1 Av (n) cv (vs.map str) * (sbuf 110 1 Ac (p) cc (ps) * (row bl 113 [.slice Al (nl) cl1, .slice Bl (nl) cl2, .slice Cl (ql) cl3] * (sbuf 9 1 Al (nl) cl1 (lk.map str) * (sbuf 9 1 Bl (nl) cl2 (lv.map str) * (sbuf 110 1 Cl (ql) cl3 (lp) * (row bk 113 [.slice Am (nk) cm1, .slice Bm (nk) cm2, .slice Cm (qk) cm3] * (sbuf 9 1 Am (nk) cm1 (kk.map str) * (sbuf 9 1 Bm (nk) cm2 (kv.map str) * (sbuf 110 1 Cm (qk) cm3 (kp))))))))))))) (fun v B' H' => v = .tuple #[] ∧ B' = B ∧ ∃ Al9 cl9 Bl9 dl9 Cl9 el9, H' = row b 113 [.slice Ak (n - 1) ck, .slice Av (n - 1) cv, .slice Ac (p - 1) cc] * (sbuf 9 1 Ak (n - 1) ck ((ks.map str).take i ++ (ks.map str).drop (i + 1)) * (sbuf 9 1 Av (n - 1) cv ((vs.map str).take i ++ (vs.map str).drop (i + 1)) * (sbuf 110 1 Ac (p - 1) cc (ps.take (i + 1) ++ ps.drop (i + 1 + 1)) * (row bl 113 [.slice Al9 (nl + 1 + nk) cl9, .slice Bl9 (nl + 1 + nk) dl9, .slice Cl9 (ql + qk) el9] * (sbuf 9 1 Al9 (nl + 1 + nk) cl9 ((lk.map str ++ [str K]) ++ kk.map str) * (sbuf 9 1 Bl9 (nl + 1 + nk) dl9 ((lv.map str ++ [str W]) ++ kv.map str) * (sbuf 110 1 Cl9 (ql + qk) el9 (lp ++ kp))))))))) := by
  refine Ct.of_body Tryz.func104 rfl (nt := 109) rfl (by kernel_rfl) rfl ?_
  intro N0 w0 R
  simp only [star_assoc]
  refine Xx.addrT Ac (by omega) (fun bC hAc _ _ => ?_)
  subst hAc
  refine Xx.addrT Ak (by omega) (fun bK hAk _ _ => ?_)
  subst hAk
  refine Xx.addrT Av (by omega) (fun bV hAv _ _ => ?_)
  subst hAv
  refine Xx.srcT Am (fun hsAm => ?_)
  refine Xx.srcT Bm (fun hsBm => ?_)
  refine Xx.srcT Cm (fun hsCm => ?_)
  refine Cx.seq (fun K1 k1 => ?_)
  refine Cx.drawn (by kernel_rfl) ?_
  refine Dx.p (i := 0) rfl (by kernel_rfl) (mv rfl) rfl ?_
  refine Dx.p (i := 1) rfl (by kernel_rfl) (nilc rfl) rfl ?_
  refine Dx.p (i := 2) rfl (by kernel_rfl) (fa' fo113_2 rfl) rfl ?_
  refine Dx.r (i := 3) rfl (by kernel_rfl) (ld Tryz.underlying111 rfl rfl rfl) rfl ?_
  refine Dx.p (i := 4) rfl (by kernel_rfl) (mv rfl) rfl ?_
  refine Dx.p (i := 5) rfl (by kernel_rfl) (ia Tryz.underlying111 sz110 rfl rfl (by first | exact Int.toNat_natCast _ | rfl) (by omega) (by omega)) rfl ?_
  refine Dx.r (i := 6) rfl (by kernel_rfl) (ldC Tryz.underlying110 rfl rfl (Cells.buf (m := 1) hpl1 (by omega))) rfl ?_
  refine Dx.p (i := 7) rfl (by kernel_rfl) (mv rfl) rfl ?_
  refine Dx.p (i := 8) rfl (by kernel_rfl) (nilc rfl) rfl ?_
  refine Dx.p (i := 9) rfl (by kernel_rfl) (fa' fo113_2 rfl) rfl ?_
  refine Dx.r (i := 10) rfl (by kernel_rfl) (ld Tryz.underlying111 rfl rfl rfl) rfl ?_
  refine Dx.p (i := 11) rfl (by kernel_rfl) (mv rfl) rfl ?_
  refine Dx.p (i := 12) rfl (by kernel_rfl) (Yx.val (add rfl rfl (by first | exact wrap64 (by omega) (by omega) | rfl)) (show _ = i64 ((i + 1 : Nat) : Int) from rfl)) rfl ?_
  refine Dx.p (i := 13) rfl (by kernel_rfl) (ia Tryz.underlying111 sz110 rfl rfl (by first | exact Int.toNat_natCast _ | rfl) (by omega) (by omega)) rfl ?_
  refine Dx.r (i := 14) rfl (by kernel_rfl) (ldC Tryz.underlying110 rfl rfl (Cells.buf (m := 1) hpk1 (by omega))) rfl ?_
  refine Dx.p (i := 15) rfl (by kernel_rfl) (asg rfl) rfl ?_
  refine Dx.p (i := 16) rfl (by kernel_rfl) (asg rfl) rfl ?_
  refine Dx.done (by kernel_rfl) ?_
  refine Xx.tn (k1 _ _ _ _ ?_)
  refine Cx.seq (fun K2 k2 => ?_)
  refine Cx.drawn (by kernel_rfl) ?_
  refine Dx.p (i := 0) rfl (by kernel_rfl) (mv rfl) rfl ?_
  refine Dx.p (i := 1) rfl (by kernel_rfl) (mv rfl) rfl ?_
  refine Dx.p (i := 2) rfl (by kernel_rfl) (nilc rfl) rfl ?_
  refine Dx.p (i := 3) rfl (by kernel_rfl) (fa' fo113_0 rfl) rfl ?_
  refine Dx.r (i := 4) rfl (by kernel_rfl) (ld Tryz.underlying23 rfl rfl rfl) rfl ?_
  refine Dx.p (i := 5) rfl (by kernel_rfl) (mv rfl) rfl ?_
  refine Dx.p (i := 6) rfl (by kernel_rfl) (nilc rfl) rfl ?_
  refine Dx.p (i := 7) rfl (by kernel_rfl) (fa' fo113_0 rfl) rfl ?_
  refine Dx.r (i := 8) rfl (by kernel_rfl) (ld Tryz.underlying23 rfl rfl rfl) rfl ?_
  refine Dx.p (i := 9) rfl (by kernel_rfl) (mv rfl) rfl ?_
  refine Dx.p (i := 10) rfl (by kernel_rfl) (ia Tryz.underlying23 sz9 rfl rfl (by first | exact Int.toNat_natCast _ | rfl) (by omega) (by omega)) rfl ?_
  refine Dx.r (i := 11) rfl (by kernel_rfl) (ldC Tryz.underlying9 rfl rfl (Cells.buf (m := 1) hK (by rw [List.length_map]; omega))) rfl ?_
  refine Dx.p (i := 14) rfl (by kernel_rfl) (mv rfl) rfl ?_
  refine Dx.p (i := 15) rfl (by kernel_rfl) (nilc rfl) rfl ?_
  refine Dx.p (i := 16) rfl (by kernel_rfl) (fa' fo113_0 rfl) rfl ?_
  refine Dx.r (i := 17) rfl (by kernel_rfl) (ld Tryz.underlying23 rfl rfl rfl) rfl ?_
  refine Dx.one (i := 12) (by kernel_rfl) ?_
  refine Dstep.o (i := 12) rfl (bsl1 Tryz.underlying23 ti9 rfl rfl rfl (by decide)) rfl (fun v B' H' hΦ hB => ?_)
  obtain ⟨b1, rfl, rfl, rfl⟩ := hΦ; clear hB
  refine ⟨JOk.yes (JOk.edge (JOk.yes (JOk.yes (JOk.top) (ld Tryz.underlying23 rfl rfl rfl)) (ld Tryz.underlying23 rfl rfl rfl)) (by kernel_rfl)) (ld Tryz.underlying23 rfl rfl rfl), ?_⟩
  refine Dx.one (i := 13) (by kernel_rfl) ?_
  refine Dstep.o (i := 13) rfl (appN (et := 9) (nl + 1) [str K] (lk.map str ++ [str K]) Tryz.underlying23 Tryz.underlying23 ti9 rfl rfl rfl rfl rfl (by omega) (by omega) rfl rfl) rfl (fun v B' H' hΦ hB => ?_)
  obtain ⟨Al8, cl8, rfl, _, _, hcl8, hBB, rfl⟩ := hΦ
  subst hBB
  rename Frag => B
  clear hB
  refine ⟨JOk.yes (JOk.yes (JOk.yes (JOk.edge (JOk.top) (by kernel_rfl)) (ld Tryz.underlying23 rfl rfl rfl)) (ldC Tryz.underlying9 rfl rfl (Cells.buf (m := 1) hK (by rw [List.length_map]; omega)))) (ld Tryz.underlying23 rfl rfl rfl), ?_⟩
  refine Dx.one (i := 18) (by kernel_rfl) ?_
  refine Xx.dropB b1 ?_
  refine Dstep.o (i := 18) rfl (appS (et := 9) (nl + 1 + nk) (kk.map str) ((lk.map str ++ [str K]) ++ kk.map str) Tryz.underlying23 Tryz.underlying23 ti9 rfl rfl hsAm (strs_all _) (by omega) (by omega) (by omega) rfl) rfl (fun v B' H' hΦ hB => ?_)
  obtain ⟨Al9, cl9, rfl, _, _, hcl9, hBB, rfl⟩ := hΦ
  subst hBB
  rename Frag => B
  clear hB
  refine ⟨JOk.edge (JOk.yes (JOk.yes (JOk.yes (JOk.top) (ld Tryz.underlying23 rfl rfl rfl)) (ld Tryz.underlying23 rfl rfl rfl)) (ldC Tryz.underlying9 rfl rfl (Cells.buf (m := 1) hK (by rw [List.length_map]; omega)))) (by kernel_rfl), ?_⟩
  refine Dx.p (i := 19) rfl (by kernel_rfl) (nilc rfl) rfl ?_
  refine Dx.p (i := 20) rfl (by kernel_rfl) (fa' fo113_0 rfl) rfl ?_
  refine Dx.one (i := 21) (by kernel_rfl) ?_
  refine Dstep.o0 (i := 21) rfl (stO Tryz.underlying23 sz23 rfl rfl rfl (by simp) rfl) (fun v B' H' hΦ hB => ?_)
  obtain ⟨rfl, rfl⟩ := hΦ; clear hB v
  refine ⟨JOk.edge (JOk.edge (JOk.edge (JOk.edge (JOk.top) (by kernel_rfl)) (by kernel_rfl)) (by kernel_rfl)) (by kernel_rfl), ?_⟩
  refine Dx.done (by kernel_rfl) ?_
  refine Xx.tn (k2 _ _ _ _ ?_)
  refine Cx.seq (fun K3 k3 => ?_)
  refine Cx.drawn (by kernel_rfl) ?_
  refine Dx.p (i := 0) rfl (by kernel_rfl) (mv rfl) rfl ?_
  refine Dx.p (i := 1) rfl (by kernel_rfl) (mv rfl) rfl ?_
  refine Dx.p (i := 2) rfl (by kernel_rfl) (nilc rfl) rfl ?_
  refine Dx.p (i := 3) rfl (by kernel_rfl) (fa' fo113_1 rfl) rfl ?_
  refine Dx.r (i := 4) rfl (by kernel_rfl) (ld Tryz.underlying23 rfl rfl rfl) rfl ?_
  refine Dx.p (i := 5) rfl (by kernel_rfl) (mv rfl) rfl ?_
  refine Dx.p (i := 6) rfl (by kernel_rfl) (nilc rfl) rfl ?_
  refine Dx.p (i := 7) rfl (by kernel_rfl) (fa' fo113_1 rfl) rfl ?_
  refine Dx.r (i := 8) rfl (by kernel_rfl) (ld Tryz.underlying23 rfl rfl rfl) rfl ?_
  refine Dx.p (i := 9) rfl (by kernel_rfl) (mv rfl) rfl ?_
  refine Dx.p (i := 10) rfl (by kernel_rfl) (ia Tryz.underlying23 sz9 rfl rfl (by first | exact Int.toNat_natCast _ | rfl) (by omega) (by omega)) rfl ?_
  refine Dx.r (i := 11) rfl (by kernel_rfl) (ldC Tryz.underlying9 rfl rfl (Cells.buf (m := 1) hW (by rw [List.length_map]; omega))) rfl ?_
  refine Dx.p (i := 14) rfl (by kernel_rfl) (mv rfl) rfl ?_
  refine Dx.p (i := 15) rfl (by kernel_rfl) (nilc rfl) rfl ?_
  refine Dx.p (i := 16) rfl (by kernel_rfl) (fa' fo113_1 rfl) rfl ?_
  refine Dx.r (i := 17) rfl (by kernel_rfl) (ld Tryz.underlying23 rfl rfl rfl) rfl ?_
  refine Dx.one (i := 12) (by kernel_rfl) ?_
  refine Dstep.o (i := 12) rfl (bsl1 Tryz.underlying23 ti9 rfl rfl rfl (by decide)) rfl (fun v B' H' hΦ hB => ?_)
  obtain ⟨b2, rfl, rfl, rfl⟩ := hΦ; clear hB
  refine ⟨JOk.yes (JOk.edge (JOk.yes (JOk.yes (JOk.top) (ld Tryz.underlying23 rfl rfl rfl)) (ld Tryz.underlying23 rfl rfl rfl)) (by kernel_rfl)) (ld Tryz.underlying23 rfl rfl rfl), ?_⟩
  refine Dx.one (i := 13) (by kernel_rfl) ?_
  refine Dstep.o (i := 13) rfl (appN (et := 9) (nl + 1) [str W] (lv.map str ++ [str W]) Tryz.underlying23 Tryz.underlying23 ti9 rfl rfl rfl rfl rfl (by omega) (by omega) rfl rfl) rfl (fun v B' H' hΦ hB => ?_)
  obtain ⟨Bl8, dl8, rfl, _, _, hdl8, hBB, rfl⟩ := hΦ
  subst hBB
  rename Frag => B
  clear hB
  refine ⟨JOk.yes (JOk.yes (JOk.yes (JOk.edge (JOk.top) (by kernel_rfl)) (ld Tryz.underlying23 rfl rfl rfl)) (ldC Tryz.underlying9 rfl rfl (Cells.buf (m := 1) hW (by rw [List.length_map]; omega)))) (ld Tryz.underlying23 rfl rfl rfl), ?_⟩
  refine Dx.one (i := 18) (by kernel_rfl) ?_
  refine Xx.dropB b2 ?_
  refine Dstep.o (i := 18) rfl (appS (et := 9) (nl + 1 + nk) (kv.map str) ((lv.map str ++ [str W]) ++ kv.map str) Tryz.underlying23 Tryz.underlying23 ti9 rfl rfl hsBm (strs_all _) (by omega) (by omega) (by omega) rfl) rfl (fun v B' H' hΦ hB => ?_)
  obtain ⟨Bl9, dl9, rfl, _, _, hdl9, hBB, rfl⟩ := hΦ
  subst hBB
  rename Frag => B
  clear hB
  refine ⟨JOk.edge (JOk.yes (JOk.yes (JOk.yes (JOk.top) (ld Tryz.underlying23 rfl rfl rfl)) (ld Tryz.underlying23 rfl rfl rfl)) (ldC Tryz.underlying9 rfl rfl (Cells.buf (m := 1) hW (by rw [List.length_map]; omega)))) (by kernel_rfl), ?_⟩
  refine Dx.p (i := 19) rfl (by kernel_rfl) (nilc rfl) rfl ?_
  refine Dx.p (i := 20) rfl (by kernel_rfl) (fa' fo113_1 rfl) rfl ?_
  refine Dx.one (i := 21) (by kernel_rfl) ?_
  refine Dstep.o0 (i := 21) rfl (stO Tryz.underlying23 sz23 rfl rfl rfl (by simp) rfl) (fun v B' H' hΦ hB => ?_)
  obtain ⟨rfl, rfl⟩ := hΦ; clear hB v
  refine ⟨JOk.edge (JOk.edge (JOk.edge (JOk.edge (JOk.top) (by kernel_rfl)) (by kernel_rfl)) (by kernel_rfl)) (by kernel_rfl), ?_⟩
  refine Dx.done (by kernel_rfl) ?_
  refine Xx.tn (k3 _ _ _ _ ?_)
  refine Cx.seq (fun K4 k4 => ?_)
  refine Cx.drawn (by kernel_rfl) ?_
  refine Dx.p (i := 0) rfl (by kernel_rfl) (mv rfl) rfl ?_
  refine Dx.p (i := 1) rfl (by kernel_rfl) (mv rfl) rfl ?_
  refine Dx.p (i := 2) rfl (by kernel_rfl) (nilc rfl) rfl ?_
  refine Dx.p (i := 3) rfl (by kernel_rfl) (fa' fo113_2 rfl) rfl ?_
  refine Dx.r (i := 4) rfl (by kernel_rfl) (ld Tryz.underlying111 rfl rfl rfl) rfl ?_
  refine Dx.p (i := 5) rfl (by kernel_rfl) (mv rfl) rfl ?_
  refine Dx.p (i := 6) rfl (by kernel_rfl) (nilc rfl) rfl ?_
  refine Dx.p (i := 7) rfl (by kernel_rfl) (fa' fo113_2 rfl) rfl ?_
  refine Dx.r (i := 8) rfl (by kernel_rfl) (ld Tryz.underlying111 rfl rfl rfl) rfl ?_
  refine Dx.one (i := 9) (by kernel_rfl) ?_
  refine Dstep.o (i := 9) rfl (appS (et := 110) (ql + qk) (kp) (lp ++ kp) Tryz.underlying111 Tryz.underlying111 ti110 rfl rfl hsCm hka (by omega) (by omega) (by omega) rfl) rfl (fun v B' H' hΦ hB => ?_)
  obtain ⟨Cl9, el9, rfl, _, _, hel9, hBB, rfl⟩ := hΦ
  subst hBB
  rename Frag => B
  clear hB
  refine ⟨JOk.edge (JOk.edge (JOk.top) (by kernel_rfl)) (by kernel_rfl), ?_⟩
  refine Dx.p (i := 10) rfl (by kernel_rfl) (nilc rfl) rfl ?_
  refine Dx.p (i := 11) rfl (by kernel_rfl) (fa' fo113_2 rfl) rfl ?_
  refine Dx.one (i := 12) (by kernel_rfl) ?_
  refine Dstep.o0 (i := 12) rfl (stO Tryz.underlying111 sz111 rfl rfl rfl (by simp) rfl) (fun v B' H' hΦ hB => ?_)
  obtain ⟨rfl, rfl⟩ := hΦ; clear hB v
  refine ⟨JOk.edge (JOk.edge (JOk.top) (by kernel_rfl)) (by kernel_rfl), ?_⟩
  refine Dx.done (by kernel_rfl) ?_
  refine Xx.tn (k4 _ _ _ _ ?_)
  refine Cx.seq (fun K5 k5 => ?_)
  refine Cx.drawn (by kernel_rfl) ?_
  refine Dx.p (i := 0) rfl (by kernel_rfl) (mv rfl) rfl ?_
  refine Dx.p (i := 1) rfl (by kernel_rfl) (mv rfl) rfl ?_
  refine Dx.p (i := 2) rfl (by kernel_rfl) (mv rfl) rfl ?_
  refine Dx.p (i := 3) rfl (by kernel_rfl) (nilc rfl) rfl ?_
  refine Dx.p (i := 4) rfl (by kernel_rfl) (fa' fo113_0 rfl) rfl ?_
  refine Dx.r (i := 5) rfl (by kernel_rfl) (ld Tryz.underlying23 rfl rfl rfl) rfl ?_
  refine Dx.p (i := 6) rfl (by kernel_rfl) (mv rfl) rfl ?_
  refine Dx.p (i := 7) rfl (by kernel_rfl) (mv rfl) rfl ?_
  refine Dx.p (i := 8) rfl (by kernel_rfl) (Yx.val (add rfl rfl (by first | exact wrap64 (by omega) (by omega) | rfl)) (show _ = i64 ((i + 1 : Nat) : Int) from rfl)) rfl ?_
  refine Dx.p (i := 10) rfl (by kernel_rfl) (mv rfl) rfl ?_
  refine Dx.p (i := 11) rfl (by kernel_rfl) (nilc rfl) rfl ?_
  refine Dx.p (i := 12) rfl (by kernel_rfl) (fa' fo113_1 rfl) rfl ?_
  refine Dx.r (i := 13) rfl (by kernel_rfl) (ld Tryz.underlying23 rfl rfl rfl) rfl ?_
  refine Dx.p (i := 14) rfl (by kernel_rfl) (mv rfl) rfl ?_
  refine Dx.p (i := 15) rfl (by kernel_rfl) (mv rfl) rfl ?_
  refine Dx.p (i := 16) rfl (by kernel_rfl) (Yx.val (add rfl rfl (by first | exact wrap64 (by omega) (by omega) | rfl)) (show _ = i64 ((i + 1 : Nat) : Int) from rfl)) rfl ?_
  refine Dx.one (i := 9) (by kernel_rfl) ?_
  refine Dstep.o (i := 9) rfl (Ox.call rfl rfl rfl (Del_ct (some ⟨bK, 0, none⟩) i (n) ck (ks.map str) _ (by omega) (by rw [List.length_map]; omega) (strs_all _) (by omega)) (pickS _)) rfl (fun v B' H' hΦ hB => ?_)
  obtain ⟨_, rfl, hΦ⟩ := hΦ
  obtain ⟨rfl, hBB, rfl⟩ := hΦ
  subst hBB
  rename Frag => B
  clear hB
  refine ⟨JOk.yes (JOk.edge (JOk.top) (by kernel_rfl)) (ld Tryz.underlying23 rfl rfl rfl), ?_⟩
  refine Dx.one (i := 17) (by kernel_rfl) ?_
  refine Dstep.o (i := 17) rfl (Ox.call rfl rfl rfl (Del_ct (some ⟨bV, 0, none⟩) i (n) cv (vs.map str) _ (by omega) (by rw [List.length_map]; omega) (strs_all _) (by omega)) (pickS _)) rfl (fun v B' H' hΦ hB => ?_)
  obtain ⟨_, rfl, hΦ⟩ := hΦ
  obtain ⟨rfl, hBB, rfl⟩ := hΦ
  subst hBB
  rename Frag => B
  clear hB
  refine ⟨JOk.edge (JOk.yes (JOk.top) (ld Tryz.underlying23 rfl rfl rfl)) (by kernel_rfl), ?_⟩
  refine Dx.p (i := 18) rfl (by kernel_rfl) (nilc rfl) rfl ?_
  refine Dx.p (i := 19) rfl (by kernel_rfl) (fa' fo113_0 rfl) rfl ?_
  refine Dx.one (i := 20) (by kernel_rfl) ?_
  refine Dstep.o0 (i := 20) rfl (stO Tryz.underlying23 sz23 rfl rfl rfl (by simp) rfl) (fun v B' H' hΦ hB => ?_)
  obtain ⟨rfl, rfl⟩ := hΦ; clear hB v
  refine ⟨JOk.edge (JOk.edge (JOk.top) (by kernel_rfl)) (by kernel_rfl), ?_⟩
  refine Dx.p (i := 21) rfl (by kernel_rfl) (nilc rfl) rfl ?_
  refine Dx.p (i := 22) rfl (by kernel_rfl) (fa' fo113_1 rfl) rfl ?_
  refine Dx.one (i := 23) (by kernel_rfl) ?_
  refine Dstep.o0 (i := 23) rfl (stO Tryz.underlying23 sz23 rfl rfl rfl (by simp) rfl) (fun v B' H' hΦ hB => ?_)
  obtain ⟨rfl, rfl⟩ := hΦ; clear hB v
  refine ⟨JOk.edge (JOk.edge (JOk.top) (by kernel_rfl)) (by kernel_rfl), ?_⟩
  refine Dx.done (by kernel_rfl) ?_
  refine Xx.tn (k5 _ _ _ _ ?_)
  refine Cx.region ?_
  refine Lx.y (mv rfl) rfl ?_
  refine Lx.y (mv rfl) rfl ?_
  refine Lx.y (nilc rfl) rfl ?_
  refine Lx.y (fa' fo113_2 rfl) rfl ?_
  refine Lx.y (ld Tryz.underlying111 rfl rfl rfl) rfl ?_
  refine Lx.y (mv rfl) rfl ?_
  refine Lx.y (Yx.val (add rfl rfl (by first | exact wrap64 (by omega) (by omega) | rfl)) (show _ = i64 ((i + 1 : Nat) : Int) from rfl)) rfl ?_
  refine Lx.y (mv rfl) rfl ?_
  refine Lx.y (Yx.val (add rfl rfl (by first | exact wrap64 (by omega) (by omega) | rfl)) (show _ = i64 ((i + 1 + 1 : Nat) : Int) from rfl)) rfl ?_
  refine Lx.c rfl rfl rfl (DelN_ct (some ⟨bC, 0, none⟩) (i + 1) (p) cc (ps) _ (by omega) (by omega) hpa (by omega)) (pickS _) rfl ?_
  rintro v B1 H1 ⟨rfl, hBB, rfl⟩ hB1
  subst hBB
  rename Frag => B
  clear hB1
  refine Lx.y (nilc rfl) rfl ?_
  refine Lx.y (fa' fo113_2 rfl) rfl ?_
  refine Lx.st (stO Tryz.underlying111 sz111 rfl rfl rfl (by simp) rfl) ?_
  refine Lx.nil ?_
  refine Xx.perm (H' := (row bk 113 [.slice Am (nk) cm1, .slice Bm (nk) cm2, .slice Cm (qk) cm3] * (sbuf 9 1 Am (nk) cm1 (kk.map str) * (sbuf 9 1 Bm (nk) cm2 (kv.map str) * (sbuf 110 1 Cm (qk) cm3 (kp))))) * ((row b 113 [.slice (some ⟨bK, 0, none⟩) (n - 1) ck, .slice (some ⟨bV, 0, none⟩) (n - 1) cv, .slice (some ⟨bC, 0, none⟩) (p - 1) cc] * (sbuf 9 1 (some ⟨bK, 0, none⟩) (n - 1) ck ((ks.map str).take i ++ (ks.map str).drop (i + 1)) * (sbuf 9 1 (some ⟨bV, 0, none⟩) (n - 1) cv ((vs.map str).take i ++ (vs.map str).drop (i + 1)) * (sbuf 110 1 (some ⟨bC, 0, none⟩) (p - 1) cc (ps.take (i + 1) ++ ps.drop (i + 1 + 1)) * (row bl 113 [.slice Al9 (nl + 1 + nk) cl9, .slice Bl9 (nl + 1 + nk) dl9, .slice Cl9 (ql + qk) el9] * (sbuf 9 1 Al9 (nl + 1 + nk) cl9 ((lk.map str ++ [str K]) ++ kk.map str) * (sbuf 9 1 Bl9 (nl + 1 + nk) dl9 ((lv.map str ++ [str W]) ++ kv.map str) * (sbuf 110 1 Cl9 (ql + qk) el9 (lp ++ kp))))))))) * R)) ?_ (by ac_rfl)
  refine Xx.drop ?_
  exact Xx.end0 rfl ⟨rfl, rfl, Al9, cl9, Bl9, dl9, Cl9, el9, rfl⟩ (Frag.le_refl _) rfl
end DrB
end Go.Proofs.YtdidpocakipinaaGreatDoor

/-
  A key from the right neighbour; two neighbours joined: nodes.
-/
namespace Go.Proofs.YtdidpocakipinaaGreatDoor
open Go.SL Go.RowKit
set_option linter.unusedVariables false
set_option linter.unusedSimpArgs false
set_option maxRecDepth 100000
open Ke1 Ke3 Ke4 Ke5 Ke6 Ke7 Ke8 Ke9 KeA KeB KeC KeD KeE KeF KeG KeI RgA BtB BtC BtD BtE BtG BtX BtH BtI BtF BtJ BtN BtO BtY BtZ DrA DrB
namespace DrC


theorem fr_ct (N d : Nat) (hN : N ≤ 90) (c : C) (j : Nat) (hj : j + 1 < c.cs.length) (hok : Ok N (d + 2) c) (hx : MnX j (d + 2) c) (h4 : 4 ≤ c.cs[j + 1].ks.length) (h3 : c.cs[j].ks.length < 3) (B : Frag) :
    Ct Tryz.prog 103 [.pointer (some ⟨c.b, 0, none⟩), i64 (j : Nat)] B (tr (d + 2) c) (MdQ N d c B) := by
  have hv := hok.1
  have hkN := hok.2.1
  have hcl : c.cs.length = c.ks.length + 1 := by rcases hok.2.2.1 with z | z; rw [z] at hj; simp at hj; exact z
  have ht := Two.of hok (i := j) (by omega) (by omega) hj
  have okl := hok.2.2.2 _ (List.getElem_mem (show j < c.cs.length by omega))
  have okk := hok.2.2.2 _ (List.getElem_mem hj)
  have ml := hx.2 j _ (List.getElem?_eq_getElem (show j < c.cs.length by omega))
  have mk := hx.2 (j + 1) _ (List.getElem?_eq_getElem hj)
  rw [if_pos rfl] at ml
  rw [if_neg (by omega)] at mk
  have gl := Good.of okl ml.2
  have gk := Good.of okk mk.2
  have hp1 := kid_at (cs := c.cs) (i := j) (by omega)
  have hp2 := kid_at (cs := c.cs) (i := j + 1) hj
  generalize hgl : c.cs[j] = l at *
  generalize hgk : c.cs[j + 1] = k at *
  have hlv := gl.1
  have hl7 := gl.2.1
  have hlc : l.cs.length ≤ 8 := by rcases gl.2.2.1 with ⟨_, z⟩ | ⟨_, z⟩; simp [z]; omega
  have hkv := gk.1
  have hk7 := gk.2.1
  have hkc : k.cs.length ≤ 8 := by rcases gk.2.2.1 with ⟨_, z⟩ | ⟨_, z⟩; simp [z]; omega
  have hgd : ∃ g, k.cs.length ≠ 0 → (k.cs.map pt).take 1 = [.pointer (some ⟨g, 0, none⟩)] := by
    by_cases h0 : k.cs.length = 0
    · exact ⟨0, fun z => absurd h0 z⟩
    · refine ⟨(k.cs[0]'(by omega)).b, fun _ => ?_⟩
      have := take1 (k.cs.map pt) (i := 0) (by simp; omega)
      rw [List.drop_zero] at this
      rw [this]; simp [pt]
  obtain ⟨g, hg⟩ := hgd
  have hraw := fr_raw c.b l.b k.b c.ks.length l.ks.length k.ks.length c.cs.length l.cs.length k.cs.length j c.Ak c.Av c.Ac l.Ak l.Av l.Ac k.Ak k.Av k.Ac c.ck c.cv c.cc l.ck l.cv l.cc k.ck k.cv k.cc c.ks c.vs l.ks l.vs k.ks k.vs (c.cs.map pt) (l.cs.map pt) (k.cs.map pt) (c.ks[j]'(by omega)) (c.vs[j]'(by omega)) B (by omega) hcl (by omega) rfl hv (by simp) hl7 rfl hlv rfl hkv (by simp) (by simp) hlc hkc hp1 hp2 (str_at (by omega)) (str_at (by omega)) (pts_all _) (pts_all _) (pts_all _) (k.ks.getD 0 []) (k.vs.getD 0 []) ⟨h4, hk7⟩ (str_get (by omega)) (str_get (by omega)) g hg
  refine ctTo (ctFrame (trs (tr d) l.cs * (trs (tr d) k.cs * (trs (tr (d + 1)) (c.cs.take j) * trs (tr (d + 1)) (c.cs.drop (j + 2))))) hraw) ?_ ?_
  · rw [two_tr ht, ← nd_of (c := c) rfl hv rfl, ← nd_of (c := l) rfl hlv rfl, ← nd_of (c := k) rfl hkv rfl]
    ac_rfl
  · rintro v B' H' ⟨H0, ⟨rfl, rfl, Al9, cl9, Bl9, dl9, Cl9, el9, rfl⟩, rfl⟩
    obtain ⟨l', hl'⟩ : ∃ l' : C, l' = .mk l.b Al9 cl9 Bl9 dl9 Cl9 el9 (l.ks ++ [c.ks[j]'(by omega)]) (l.vs ++ [c.vs[j]'(by omega)]) (l.cs ++ k.cs.take 1) := ⟨_, rfl⟩
    obtain ⟨k', hk'⟩ : ∃ k' : C, k' = .mk k.b k.Ak k.ck k.Av k.cv k.Ac k.cc (k.ks.drop 1) (k.vs.drop 1) (k.cs.drop 1) := ⟨_, rfl⟩
    obtain ⟨c', hc'⟩ : ∃ c' : C, c' = .mk c.b c.Ak c.ck c.Av c.cv c.Ac c.cc (c.ks.set j (k.ks.getD 0 [])) (c.vs.set j (k.vs.getD 0 [])) (c.cs.take j ++ l' :: k' :: c.cs.drop (j + 2)) := ⟨_, rfl⟩
    have h' : Two c' (c.ks.take j) (c.vs.take j) (c.cs.take j) l' (k.ks.getD 0 []) (k.vs.getD 0 []) k' (c.ks.drop (j + 1)) (c.vs.drop (j + 1)) (c.cs.drop (j + 2)) :=
      ⟨by rw [hc']; exact set_cut (by omega) _, by rw [hc']; exact set_cut (by omega) _, by rw [hc']; rfl, ht.ha, ht.hca, ht.hd, ht.hcd⟩
    have hAl : (c.ks.take j).length = j := by simp; omega
    have hm : Mended N d c c' := right_mend ht h' (by rw [hc']; rfl) hok (by rw [hAl]; exact hx) gl gk h4 ml.1 h3 (by rw [hk']; rfl) (by rw [hk']; rfl) (by rw [hk']; rfl) (by rw [hl']; rfl) (by rw [hl']; rfl) (by rw [hl']; rfl)
    refine ⟨rfl, rfl, c', ?_, hm⟩
    have e1 := nd_mk (b := c.b) (Ak := c.Ak) (ck := c.ck) (Av := c.Av) (cv := c.cv) (Ac := c.Ac) (cc := c.cc) (ks := c.ks.set j (k.ks.getD 0 [])) (vs := c.vs.set j (k.vs.getD 0 [])) (cs := c.cs.take j ++ l' :: k' :: c.cs.drop (j + 2)) (n := c.ks.length) (p := c.cs.length) (by simp) (by simp; omega) (by simp; omega) rfl rfl (two_pts ht.cs (by rw [hl']; rfl) (by rw [hk']; rfl))
    have e2 := nd_mk (b := l.b) (Ak := Al9) (ck := cl9) (Av := Bl9) (cv := dl9) (Ac := Cl9) (cc := el9) (ks := l.ks ++ [c.ks[j]'(by omega)]) (vs := l.vs ++ [c.vs[j]'(by omega)]) (cs := l.cs ++ k.cs.take 1) (n := l.ks.length + 1) (p := l.cs.length + min k.cs.length 1) (by simp) (by simp; omega) (by simp; omega) (kx := l.ks.map str ++ [str (c.ks[j]'(by omega))]) (vx := l.vs.map str ++ [str (c.vs[j]'(by omega))]) (cx := l.cs.map pt ++ (k.cs.map pt).take 1) (by simp) (by simp) (by simp)
    have e3 := nd_mk (b := k.b) (Ak := k.Ak) (ck := k.ck) (Av := k.Av) (cv := k.cv) (Ac := k.Ac) (cc := k.cc) (ks := k.ks.drop 1) (vs := k.vs.drop 1) (cs := k.cs.drop 1) (n := k.ks.length - 1) (p := k.cs.length - 1) (by simp) (by simp; omega) (by simp) (List.map_drop ..) (List.map_drop ..) (List.map_drop ..)
    rw [← hc'] at e1
    rw [← hl'] at e2
    rw [← hk'] at e3
    rw [two_tr h', ← e1, ← e2, ← e3, show l'.cs = l.cs ++ k.cs.take 1 by rw [hl']; rfl, show k'.cs = k.cs.drop 1 by rw [hk']; rfl, trs_app (tr d), trs_cut (tr d) k.cs 1]
    ac_rfl
theorem join_ct (N d : Nat) (hN : N ≤ 90) (c : C) (j i : Nat) (hj : j + 1 < c.cs.length) (hok : Ok N (d + 2) c) (hx : MnX i (d + 2) c) (hi : i = j ∨ i = j + 1) (h6 : c.cs[j].ks.length + c.cs[j + 1].ks.length ≤ 6) (B : Frag) :
    Ct Tryz.prog 104 [.pointer (some ⟨c.b, 0, none⟩), i64 (j : Nat)] B (tr (d + 2) c) (MdQ N d c B) := by
  have hv := hok.1
  have hkN := hok.2.1
  have hcl : c.cs.length = c.ks.length + 1 := by rcases hok.2.2.1 with z | z; rw [z] at hj; simp at hj; exact z
  have ht := Two.of hok (i := j) (by omega) (by omega) hj
  have okl := hok.2.2.2 _ (List.getElem_mem (show j < c.cs.length by omega))
  have okk := hok.2.2.2 _ (List.getElem_mem hj)
  have ml := hx.2 j _ (List.getElem?_eq_getElem (show j < c.cs.length by omega))
  have mk := hx.2 (j + 1) _ (List.getElem?_eq_getElem hj)
  have hl2 : 2 ≤ c.cs[j].ks.length := by have := ml.1; split at this <;> omega
  have hk2 : 2 ≤ c.cs[j + 1].ks.length := by have := mk.1; split at this <;> omega
  have gl := Good.of okl ml.2
  have gk := Good.of okk mk.2
  have hp1 := kid_at (cs := c.cs) (i := j) (by omega)
  have hp2 := kid_at (cs := c.cs) (i := j + 1) hj
  generalize hgl : c.cs[j] = l at *
  generalize hgk : c.cs[j + 1] = k at *
  have hlv := gl.1
  have hl7 := gl.2.1
  have hlc : l.cs.length ≤ 8 := by rcases gl.2.2.1 with ⟨_, z⟩ | ⟨_, z⟩; simp [z]; omega
  have hkv := gk.1
  have hk7 := gk.2.1
  have hkc : k.cs.length ≤ 8 := by rcases gk.2.2.1 with ⟨_, z⟩ | ⟨_, z⟩; simp [z]; omega
  have hraw := join_raw c.b l.b k.b c.ks.length l.ks.length k.ks.length c.cs.length l.cs.length k.cs.length j c.Ak c.Av c.Ac l.Ak l.Av l.Ac k.Ak k.Av k.Ac c.ck c.cv c.cc l.ck l.cv l.cc k.ck k.cv k.cc c.ks c.vs l.ks l.vs k.ks k.vs (c.cs.map pt) (l.cs.map pt) (k.cs.map pt) (c.ks[j]'(by omega)) (c.vs[j]'(by omega)) B (by omega) hcl (by omega) rfl hv (by simp) hl7 rfl hlv rfl hkv (by simp) (by simp) hlc hkc hp1 hp2 (str_at (by omega)) (str_at (by omega)) (pts_all _) (pts_all _) (pts_all _) ⟨by omega, hk7⟩
  refine ctTo (ctFrame (trs (tr d) l.cs * (trs (tr d) k.cs * (trs (tr (d + 1)) (c.cs.take j) * trs (tr (d + 1)) (c.cs.drop (j + 2))))) hraw) ?_ ?_
  · rw [two_tr ht, ← nd_of (c := c) rfl hv rfl, ← nd_of (c := l) rfl hlv rfl, ← nd_of (c := k) rfl hkv rfl]
    ac_rfl
  · rintro v B' H' ⟨H0, ⟨rfl, rfl, Al9, cl9, Bl9, dl9, Cl9, el9, rfl⟩, rfl⟩
    obtain ⟨m, hm'⟩ : ∃ m : C, m = .mk l.b Al9 cl9 Bl9 dl9 Cl9 el9 (l.ks ++ (c.ks[j]'(by omega)) :: k.ks) (l.vs ++ (c.vs[j]'(by omega)) :: k.vs) (l.cs ++ k.cs) := ⟨_, rfl⟩
    obtain ⟨c', hc'⟩ : ∃ c' : C, c' = .mk c.b c.Ak c.ck c.Av c.cv c.Ac c.cc (c.ks.take j ++ c.ks.drop (j + 1)) (c.vs.take j ++ c.vs.drop (j + 1)) (c.cs.take j ++ m :: c.cs.drop (j + 2)) := ⟨_, rfl⟩
    have hAl : (c.ks.take j).length = j := by simp; omega
    have hm : Mended N d c c' := join_mend ht (by rw [hc']; rfl) (by rw [hc']; rfl) (by rw [hc']; rfl) (by rw [hc']; rfl) hok hx (by rw [hAl]; exact hi) gl gk (by omega) h6 (by rw [hm']; rfl) (by rw [hm']; rfl) (by rw [hm']; rfl)
    refine ⟨rfl, rfl, c', ?_, hm⟩
    have hpts : (c.cs.take j ++ m :: c.cs.drop (j + 2)).map pt = (c.cs.map pt).take (j + 1) ++ (c.cs.map pt).drop (j + 1 + 1) := by
      rw [take_succ1 _ (by simp; omega)]
      simp [pt, hm', C.b, hgl]
    have e1 := nd_mk (b := c.b) (Ak := c.Ak) (ck := c.ck) (Av := c.Av) (cv := c.cv) (Ac := c.Ac) (cc := c.cc) (ks := c.ks.take j ++ c.ks.drop (j + 1)) (vs := c.vs.take j ++ c.vs.drop (j + 1)) (cs := c.cs.take j ++ m :: c.cs.drop (j + 2)) (n := c.ks.length - 1) (p := c.cs.length - 1) (kx := (c.ks.map str).take j ++ (c.ks.map str).drop (j + 1)) (vx := (c.vs.map str).take j ++ (c.vs.map str).drop (j + 1)) (by simp; omega) (by simp; omega) (by simp; omega) (by simp) (by simp) hpts
    have e2 := nd_mk (b := l.b) (Ak := Al9) (ck := cl9) (Av := Bl9) (cv := dl9) (Ac := Cl9) (cc := el9) (ks := l.ks ++ (c.ks[j]'(by omega)) :: k.ks) (vs := l.vs ++ (c.vs[j]'(by omega)) :: k.vs) (cs := l.cs ++ k.cs) (n := l.ks.length + 1 + k.ks.length) (p := l.cs.length + k.cs.length) (by simp; omega) (by simp; omega) (by simp) (kx := l.ks.map str ++ [str (c.ks[j]'(by omega))] ++ k.ks.map str) (vx := l.vs.map str ++ [str (c.vs[j]'(by omega))] ++ k.vs.map str) (cx := l.cs.map pt ++ k.cs.map pt) (by simp) (by simp) (by simp)
    rw [← hc'] at e1
    rw [← hm'] at e2
    rw [one_tr (show c'.cs = c.cs.take j ++ m :: c.cs.drop (j + 2) by rw [hc']; rfl), ← e1, ← e2, show m.cs = l.cs ++ k.cs by rw [hm']; rfl, trs_app (tr d)]
    ac_rfl
end DrC
end Go.Proofs.YtdidpocakipinaaGreatDoor

/-
  A kid with too few keys is mended; the greatest key of a node goes.
-/
namespace Go.Proofs.YtdidpocakipinaaGreatDoor
open Go.SL Go.RowKit
set_option linter.unusedVariables false
set_option linter.unusedSimpArgs false
set_option maxRecDepth 100000
open Ke1 Ke3 Ke4 Ke5 Ke6 Ke7 Ke8 Ke9 KeA KeB KeC KeD KeE KeF KeG KeI RgA BtB BtC BtD BtE BtG BtX BtH BtI BtF BtJ BtN BtO BtY BtZ DrA DrB DrC
namespace DrD
theorem sz9 : (Tryz.prog.info? 9).map (·.size) = some 1 := by kernel_rfl
theorem sz23 : (Tryz.prog.info? 23).map (·.size) = some 1 := by kernel_rfl
theorem sz110 : (Tryz.prog.info? 110).map (·.size) = some 1 := by kernel_rfl
theorem fo113_0 : FO Tryz.prog 113 0 0 1 false := FO.of Tryz.underlying113 rfl rfl (by kernel_rfl) Tryz.underlying23 rfl rfl
theorem fo113_1 : FO Tryz.prog 113 1 1 1 false := FO.of Tryz.underlying113 rfl rfl (by kernel_rfl) Tryz.underlying23 rfl rfl
theorem fo113_2 : FO Tryz.prog 113 2 2 1 false := FO.of Tryz.underlying113 rfl rfl (by kernel_rfl) Tryz.underlying111 rfl rfl

theorem fl_ct2 (N d : Nat) (hN : N ≤ 90) (c : C) (i : Nat) (h0 : 0 < i) (hi : i < c.cs.length) (hok : Ok N (d + 2) c) (hx : MnX i (d + 2) c) (h4 : 4 ≤ (c.cs[i - 1]'(by omega)).ks.length) (h3 : c.cs[i].ks.length < 3) (B : Frag) :
    Ct Tryz.prog 102 [.pointer (some ⟨c.b, 0, none⟩), i64 ((i : Nat) : Int)] B (tr (d + 2) c) (MdQ N d c B) := by
  obtain ⟨j, rfl⟩ : ∃ j, i = j + 1 := ⟨i - 1, by omega⟩
  exact fl_ct N d hN c j hi hok hx h4 h3 B
theorem join_ct2 (N d : Nat) (hN : N ≤ 90) (c : C) (i : Nat) (h0 : 0 < i) (hi : i < c.cs.length) (hok : Ok N (d + 2) c) (hx : MnX i (d + 2) c) (h4 : (c.cs[i - 1]'(by omega)).ks.length ≤ 3) (h3 : c.cs[i].ks.length < 3) (B : Frag) :
    Ct Tryz.prog 104 [.pointer (some ⟨c.b, 0, none⟩), i64 ((i - 1 : Nat) : Int)] B (tr (d + 2) c) (MdQ N d c B) := by
  obtain ⟨j, rfl⟩ : ∃ j, i = j + 1 := ⟨i - 1, by omega⟩
  simp only [Nat.add_sub_cancel] at h4 ⊢
  exact join_ct N d hN c j (j + 1) hi hok hx (.inr rfl) (by omega) B
/-- the same; what has enough keys stays -/
def MdQ2 (N d : Nat) (c : C) (i : Nat) (hi : i < c.cs.length) (B : Frag) (v : Value) (B' : Frag) (H' : HP) : Prop := v = .tuple #[] ∧ B' = B ∧ ∃ c', H' = tr (d + 2) c' ∧ Mended N d c c' ∧ (3 ≤ c.cs[i].ks.length → c' = c)
theorem mend_not {N d i : Nat} {c : C} (hok : Ok N (d + 2) c) (hx : MnX i (d + 2) c) (hi : i < c.cs.length) (h3 : 3 ≤ c.cs[i].ks.length) : Mended N d c c :=
  ⟨rfl, hok, hx.full (fun p hp => by rw [List.getElem?_eq_getElem hi] at hp; obtain rfl := Option.some.inj hp; exact h3), rfl, by omega, by omega⟩

set_option maxHeartbeats 4000000 in
theorem mend_ct (N d : Nat) (hN : N ≤ 90) (c : C) (i : Nat) (B : Frag) (hi : i < c.cs.length) (hok : Ok N (d + 2) c) (hx : MnX i (d + 2) c) (h1 : 1 ≤ c.ks.length) : Ct Tryz.prog 86 [.pointer (some ⟨c.b, 0, none⟩), i64 (i : Nat)] B (tr (d + 2) c) (MdQ2 N d c i hi B) := by
  have hcl : c.cs.length = c.ks.length + 1 := by rcases hok.2.2.1 with z | z; rw [z] at hi; simp at hi; exact z
  have hkN := hok.2.1
  obtain ⟨b, Ak, ck, Av, cv, Ac, cc, ks, vs, cs⟩ := c
  simp only [C.b, C.ks, C.vs, C.cs] at hi h1 hcl hkN ⊢
  refine Ct.of_body Tryz.func86 rfl (nt := 73) rfl (by kernel_rfl) rfl ?_
  intro N0 w0 R
  rw [tr_succ]
  simp only [star_assoc, nrow, kbuf, vbuf, cbuf, ncells, C.b, C.Ak, C.ck, C.Av, C.cv, C.Ac, C.cc, C.ks, C.vs, C.cs]
  refine Xx.addrT Ac (by omega) (fun bC hAc hcx hcc => ?_)
  subst hAc
  refine Cx.seq (fun K1 k1 => ?_)
  refine Cx.seq (fun K2 k2 => ?_)
  refine Cx.region ?_
  refine Lx.y (mv rfl) rfl ?_
  refine Lx.y (nilc rfl) rfl ?_
  refine Lx.y (fa' fo113_2 rfl) rfl ?_
  refine Lx.y (ld Tryz.underlying111 rfl rfl rfl) rfl ?_
  refine Lx.y (mv rfl) rfl ?_
  refine Lx.y (ia Tryz.underlying111 sz110 rfl rfl (by first | exact Int.toNat_natCast _ | rfl) (by omega) (by omega)) rfl ?_
  refine Lx.y (ldC Tryz.underlying110 rfl rfl (Cells.buf (m := 1) (kid_at hi) (by rw [List.length_map]; omega))) rfl ?_
  refine Lx.y (nilc rfl) rfl ?_
  refine Lx.y (fa' fo113_0 rfl) rfl ?_
  refine Lx.y (ldC Tryz.underlying23 rfl rfl (under (under (under (under (kid_keys hi)))))) rfl ?_
  refine Lx.y (lenV (ty' := 0) Tryz.underlying23 rfl) rfl ?_
  refine Lx.y (geq rfl rfl) rfl ?_
  refine Lx.nil ?_
  refine Xx.tn (k2 _ _ _ _ ?_)
  refine Cx.condD rfl (fun h3 => ?_) (fun h3 => ?_)
  · skip
    have h3 := h3
    have h3 : 3 ≤ cs[i].ks.length := by omega
    refine Cx.ret ?_
    refine Xx.tr ?_
    exact Xx.ret0 rfl ⟨rfl, rfl, (.mk b Ak ck Av cv (some ⟨bC, 0, none⟩) cc ks vs cs), rfl, mend_not hok hx hi h3, fun _ => rfl⟩ (Frag.le_refl _) (by rw [← fold_tr]; ac_rfl)
  · skip
    have h3 := h3
    have h3 : cs[i].ks.length < 3 := by omega
    refine Cx.skip ?_
    refine Xx.tn (k1 _ _ _ _ ?_)
    refine Cx.block ?_
    refine Cx.seq (fun K4 k4 => ?_)
    refine Cx.region ?_
    refine Lx.y (mv rfl) rfl ?_
    refine Lx.y (gtr rfl rfl) rfl ?_
    refine Lx.y (mv rfl) rfl ?_
    refine Xx.ifD (t := 22) rfl (fun h5 => ?_) (fun h5 => ?_)
    · skip
      have h0 := h5
      have h0 : 0 < i := by omega
      have hi1 : i - 1 < cs.length := by omega
      refine Lx.gT rfl rfl rfl ?_
      refine Lx.y (mv rfl) rfl ?_
      refine Lx.gT rfl rfl rfl ?_
      refine Lx.y (nilc rfl) rfl ?_
      refine Lx.gT rfl rfl rfl ?_
      refine Lx.y (fa' fo113_2 rfl) rfl ?_
      refine Lx.gT rfl rfl rfl ?_
      refine Lx.y (ld Tryz.underlying111 rfl rfl rfl) rfl ?_
      refine Lx.gT rfl rfl rfl ?_
      refine Lx.y (mv rfl) rfl ?_
      refine Lx.gT rfl rfl rfl ?_
      refine Lx.y (Yx.val (sub rfl rfl (show IntKind.i64.wrap _ = ((i - 1 : Nat) : Int) by rw [wrap64 (by omega) (by omega)]; omega)) (show _ = i64 ((i - 1 : Nat) : Int) from rfl)) rfl ?_
      refine Lx.gT rfl rfl rfl ?_
      refine Lx.y (ia Tryz.underlying111 sz110 rfl rfl (by first | exact Int.toNat_natCast _ | rfl) (by omega) (by omega)) rfl ?_
      refine Lx.gT rfl rfl rfl ?_
      refine Lx.y (ldC Tryz.underlying110 rfl rfl (Cells.buf (m := 1) (kid_at hi1) (by rw [List.length_map]; omega))) rfl ?_
      refine Lx.gT rfl rfl rfl ?_
      refine Lx.y (nilc rfl) rfl ?_
      refine Lx.gT rfl rfl rfl ?_
      refine Lx.y (fa' fo113_0 rfl) rfl ?_
      refine Lx.gT rfl rfl rfl ?_
      refine Lx.y (ldC Tryz.underlying23 rfl rfl (under (under (under (under (kid_keys hi1)))))) rfl ?_
      refine Lx.gT rfl rfl rfl ?_
      refine Lx.y (lenV (ty' := 0) Tryz.underlying23 rfl) rfl ?_
      refine Lx.gT rfl rfl rfl ?_
      refine Lx.y (gtr rfl rfl) rfl ?_
      refine Lx.y (pickT rfl rfl) rfl ?_
      refine Lx.y (asg rfl) rfl ?_
      refine Lx.nil ?_
      refine Xx.tn (k4 _ _ _ _ ?_)
      refine Cx.condD rfl (fun h6 => ?_) (fun h6 => ?_)
      · skip
        have h4 := h6
        have h4 : 4 ≤ cs[i - 1].ks.length := by omega
        refine Cx.region ?_
        refine Lx.y (mv rfl) rfl ?_
        refine Lx.y (mv rfl) rfl ?_
        refine Lx.c rfl rfl rfl (fl_ct2 N d hN (.mk b Ak ck Av cv (some ⟨bC, 0, none⟩) cc ks vs cs) i h0 hi hok hx h4 h3 _) ((show _ = tr (d + 2) (.mk b Ak ck Av cv (some ⟨bC, 0, none⟩) cc ks vs cs) * R by rw [← fold_tr]; ac_rfl)) rfl ?_
        rintro v1 B1 H1 ⟨rfl, hBB, c2, rfl, hm⟩ hB1
        subst hBB
        rename Frag => B
        clear hB1
        refine Lx.nil ?_
        refine Xx.bn ?_
        exact Xx.end0 rfl ⟨rfl, rfl, c2, rfl, hm, fun h9 => absurd h9 (by show ¬ 3 ≤ cs[i].ks.length; omega)⟩ (Frag.le_refl _) rfl
      · skip
        have h4 := h6
        have h4 : cs[i - 1].ks.length ≤ 3 := by omega
        refine Cx.seq (fun K7 k7 => ?_)
        refine Cx.region ?_
        refine Lx.y (mv rfl) rfl ?_
        refine Lx.y (mv rfl) rfl ?_
        refine Lx.y (nilc rfl) rfl ?_
        refine Lx.y (fa' fo113_0 rfl) rfl ?_
        refine Lx.y (ld Tryz.underlying23 rfl rfl rfl) rfl ?_
        refine Lx.y (lenV (ty' := 0) Tryz.underlying23 rfl) rfl ?_
        refine Lx.y (lss rfl rfl) rfl ?_
        refine Lx.y (mv rfl) rfl ?_
        refine Xx.ifD (t := 48) rfl (fun h8 => ?_) (fun h8 => ?_)
        · skip
          have h5 := h8
          have hi2 : i + 1 < cs.length := by omega
          refine Lx.gT rfl rfl rfl ?_
          refine Lx.y (mv rfl) rfl ?_
          refine Lx.gT rfl rfl rfl ?_
          refine Lx.y (nilc rfl) rfl ?_
          refine Lx.gT rfl rfl rfl ?_
          refine Lx.y (fa' fo113_2 rfl) rfl ?_
          refine Lx.gT rfl rfl rfl ?_
          refine Lx.y (ld Tryz.underlying111 rfl rfl rfl) rfl ?_
          refine Lx.gT rfl rfl rfl ?_
          refine Lx.y (mv rfl) rfl ?_
          refine Lx.gT rfl rfl rfl ?_
          refine Lx.y (Yx.val (add rfl rfl (by first | exact wrap64 (by omega) (by omega) | rfl)) (show _ = i64 ((i + 1 : Nat) : Int) from rfl)) rfl ?_
          refine Lx.gT rfl rfl rfl ?_
          refine Lx.y (ia Tryz.underlying111 sz110 rfl rfl (by first | exact Int.toNat_natCast _ | rfl) (by omega) (by omega)) rfl ?_
          refine Lx.gT rfl rfl rfl ?_
          refine Lx.y (ldC Tryz.underlying110 rfl rfl (Cells.buf (m := 1) (kid_at hi2) (by rw [List.length_map]; omega))) rfl ?_
          refine Lx.gT rfl rfl rfl ?_
          refine Lx.y (nilc rfl) rfl ?_
          refine Lx.gT rfl rfl rfl ?_
          refine Lx.y (fa' fo113_0 rfl) rfl ?_
          refine Lx.gT rfl rfl rfl ?_
          refine Lx.y (ldC Tryz.underlying23 rfl rfl (under (under (under (under (kid_keys hi2)))))) rfl ?_
          refine Lx.gT rfl rfl rfl ?_
          refine Lx.y (lenV (ty' := 0) Tryz.underlying23 rfl) rfl ?_
          refine Lx.gT rfl rfl rfl ?_
          refine Lx.y (gtr rfl rfl) rfl ?_
          refine Lx.y (pickT rfl rfl) rfl ?_
          refine Lx.y (asg rfl) rfl ?_
          refine Lx.nil ?_
          refine Xx.tn (k7 _ _ _ _ ?_)
          refine Cx.condD rfl (fun h9 => ?_) (fun h9 => ?_)
          · skip
            have h6 := h9
            have h6 : 4 ≤ cs[i + 1].ks.length := by omega
            refine Cx.region ?_
            refine Lx.y (mv rfl) rfl ?_
            refine Lx.y (mv rfl) rfl ?_
            refine Lx.c rfl rfl rfl (fr_ct N d hN (.mk b Ak ck Av cv (some ⟨bC, 0, none⟩) cc ks vs cs) i hi2 hok hx h6 h3 _) ((show _ = tr (d + 2) (.mk b Ak ck Av cv (some ⟨bC, 0, none⟩) cc ks vs cs) * R by rw [← fold_tr]; ac_rfl)) rfl ?_
            rintro v1 B1 H1 ⟨rfl, hBB, c2, rfl, hm⟩ hB1
            subst hBB
            rename Frag => B
            clear hB1
            refine Lx.nil ?_
            refine Xx.bn ?_
            exact Xx.end0 rfl ⟨rfl, rfl, c2, rfl, hm, fun h9 => absurd h9 (by show ¬ 3 ≤ cs[i].ks.length; omega)⟩ (Frag.le_refl _) rfl
          · skip
            have h6 := h9
            have h6 : cs[i + 1].ks.length ≤ 3 := by omega
            refine Cx.seq (fun K10 k10 => ?_)
            refine Cx.region ?_
            refine Lx.y (mv rfl) rfl ?_
            refine Lx.y (Yx.tt (gtr rfl rfl) (decide_eq_true (by omega))) rfl ?_
            refine Lx.y (asg rfl) rfl ?_
            refine Lx.nil ?_
            refine Xx.tn (k10 _ _ _ _ ?_)
            refine Cx.condT rfl ?_
            refine Cx.region ?_
            refine Lx.y (mv rfl) rfl ?_
            refine Lx.y (mv rfl) rfl ?_
            refine Lx.y (Yx.val (sub rfl rfl (show IntKind.i64.wrap _ = ((i - 1 : Nat) : Int) by rw [wrap64 (by omega) (by omega)]; omega)) (show _ = i64 ((i - 1 : Nat) : Int) from rfl)) rfl ?_
            refine Lx.c rfl rfl rfl (join_ct2 N d hN (.mk b Ak ck Av cv (some ⟨bC, 0, none⟩) cc ks vs cs) i h0 hi hok hx h4 h3 _) ((show _ = tr (d + 2) (.mk b Ak ck Av cv (some ⟨bC, 0, none⟩) cc ks vs cs) * R by rw [← fold_tr]; ac_rfl)) rfl ?_
            rintro v1 B1 H1 ⟨rfl, hBB, c2, rfl, hm⟩ hB1
            subst hBB
            rename Frag => B
            clear hB1
            refine Lx.nil ?_
            refine Xx.bn ?_
            exact Xx.end0 rfl ⟨rfl, rfl, c2, rfl, hm, fun h9 => absurd h9 (by show ¬ 3 ≤ cs[i].ks.length; omega)⟩ (Frag.le_refl _) rfl
        · skip
          have h5 := h8
          refine Lx.gF rfl rfl rfl rfl ?_
          refine Lx.gF rfl rfl rfl rfl ?_
          refine Lx.gF rfl rfl rfl rfl ?_
          refine Lx.gF rfl rfl rfl rfl ?_
          refine Lx.gF rfl rfl rfl rfl ?_
          refine Lx.gF rfl rfl rfl rfl ?_
          refine Lx.gF rfl rfl rfl rfl ?_
          refine Lx.gF rfl rfl rfl rfl ?_
          refine Lx.gF rfl rfl rfl rfl ?_
          refine Lx.gF rfl rfl rfl rfl ?_
          refine Lx.gF rfl rfl rfl rfl ?_
          refine Lx.gF rfl rfl rfl rfl ?_
          refine Lx.gF rfl rfl rfl rfl ?_
          refine Lx.y (pickF rfl rfl) rfl ?_
          refine Lx.y (asg rfl) rfl ?_
          refine Lx.nil ?_
          refine Xx.tn (k7 _ _ _ _ ?_)
          refine Cx.condF rfl ?_
          refine Cx.seq (fun K11 k11 => ?_)
          refine Cx.region ?_
          refine Lx.y (mv rfl) rfl ?_
          refine Lx.y (Yx.tt (gtr rfl rfl) (decide_eq_true (by omega))) rfl ?_
          refine Lx.y (asg rfl) rfl ?_
          refine Lx.nil ?_
          refine Xx.tn (k11 _ _ _ _ ?_)
          refine Cx.condT rfl ?_
          refine Cx.region ?_
          refine Lx.y (mv rfl) rfl ?_
          refine Lx.y (mv rfl) rfl ?_
          refine Lx.y (Yx.val (sub rfl rfl (show IntKind.i64.wrap _ = ((i - 1 : Nat) : Int) by rw [wrap64 (by omega) (by omega)]; omega)) (show _ = i64 ((i - 1 : Nat) : Int) from rfl)) rfl ?_
          refine Lx.c rfl rfl rfl (join_ct2 N d hN (.mk b Ak ck Av cv (some ⟨bC, 0, none⟩) cc ks vs cs) i h0 hi hok hx h4 h3 _) ((show _ = tr (d + 2) (.mk b Ak ck Av cv (some ⟨bC, 0, none⟩) cc ks vs cs) * R by rw [← fold_tr]; ac_rfl)) rfl ?_
          rintro v1 B1 H1 ⟨rfl, hBB, c2, rfl, hm⟩ hB1
          subst hBB
          rename Frag => B
          clear hB1
          refine Lx.nil ?_
          refine Xx.bn ?_
          exact Xx.end0 rfl ⟨rfl, rfl, c2, rfl, hm, fun h9 => absurd h9 (by show ¬ 3 ≤ cs[i].ks.length; omega)⟩ (Frag.le_refl _) rfl
    · skip
      have h0 := h5
      have h0 : i = 0 := by omega
      refine Lx.gF rfl rfl rfl rfl ?_
      refine Lx.gF rfl rfl rfl rfl ?_
      refine Lx.gF rfl rfl rfl rfl ?_
      refine Lx.gF rfl rfl rfl rfl ?_
      refine Lx.gF rfl rfl rfl rfl ?_
      refine Lx.gF rfl rfl rfl rfl ?_
      refine Lx.gF rfl rfl rfl rfl ?_
      refine Lx.gF rfl rfl rfl rfl ?_
      refine Lx.gF rfl rfl rfl rfl ?_
      refine Lx.gF rfl rfl rfl rfl ?_
      refine Lx.gF rfl rfl rfl rfl ?_
      refine Lx.gF rfl rfl rfl rfl ?_
      refine Lx.gF rfl rfl rfl rfl ?_
      refine Lx.y (pickF rfl rfl) rfl ?_
      refine Lx.y (asg rfl) rfl ?_
      refine Lx.nil ?_
      refine Xx.tn (k4 _ _ _ _ ?_)
      refine Cx.condF rfl ?_
      refine Cx.seq (fun K12 k12 => ?_)
      refine Cx.region ?_
      refine Lx.y (mv rfl) rfl ?_
      refine Lx.y (mv rfl) rfl ?_
      refine Lx.y (nilc rfl) rfl ?_
      refine Lx.y (fa' fo113_0 rfl) rfl ?_
      refine Lx.y (ld Tryz.underlying23 rfl rfl rfl) rfl ?_
      refine Lx.y (lenV (ty' := 0) Tryz.underlying23 rfl) rfl ?_
      refine Lx.y (lss rfl rfl) rfl ?_
      refine Lx.y (mv rfl) rfl ?_
      refine Xx.ifD (t := 48) rfl (fun h13 => ?_) (fun h13 => ?_)
      · skip
        have h5 := h13
        have hi2 : i + 1 < cs.length := by omega
        refine Lx.gT rfl rfl rfl ?_
        refine Lx.y (mv rfl) rfl ?_
        refine Lx.gT rfl rfl rfl ?_
        refine Lx.y (nilc rfl) rfl ?_
        refine Lx.gT rfl rfl rfl ?_
        refine Lx.y (fa' fo113_2 rfl) rfl ?_
        refine Lx.gT rfl rfl rfl ?_
        refine Lx.y (ld Tryz.underlying111 rfl rfl rfl) rfl ?_
        refine Lx.gT rfl rfl rfl ?_
        refine Lx.y (mv rfl) rfl ?_
        refine Lx.gT rfl rfl rfl ?_
        refine Lx.y (Yx.val (add rfl rfl (by first | exact wrap64 (by omega) (by omega) | rfl)) (show _ = i64 ((i + 1 : Nat) : Int) from rfl)) rfl ?_
        refine Lx.gT rfl rfl rfl ?_
        refine Lx.y (ia Tryz.underlying111 sz110 rfl rfl (by first | exact Int.toNat_natCast _ | rfl) (by omega) (by omega)) rfl ?_
        refine Lx.gT rfl rfl rfl ?_
        refine Lx.y (ldC Tryz.underlying110 rfl rfl (Cells.buf (m := 1) (kid_at hi2) (by rw [List.length_map]; omega))) rfl ?_
        refine Lx.gT rfl rfl rfl ?_
        refine Lx.y (nilc rfl) rfl ?_
        refine Lx.gT rfl rfl rfl ?_
        refine Lx.y (fa' fo113_0 rfl) rfl ?_
        refine Lx.gT rfl rfl rfl ?_
        refine Lx.y (ldC Tryz.underlying23 rfl rfl (under (under (under (under (kid_keys hi2)))))) rfl ?_
        refine Lx.gT rfl rfl rfl ?_
        refine Lx.y (lenV (ty' := 0) Tryz.underlying23 rfl) rfl ?_
        refine Lx.gT rfl rfl rfl ?_
        refine Lx.y (gtr rfl rfl) rfl ?_
        refine Lx.y (pickT rfl rfl) rfl ?_
        refine Lx.y (asg rfl) rfl ?_
        refine Lx.nil ?_
        refine Xx.tn (k12 _ _ _ _ ?_)
        refine Cx.condD rfl (fun h14 => ?_) (fun h14 => ?_)
        · skip
          have h6 := h14
          have h6 : 4 ≤ cs[i + 1].ks.length := by omega
          refine Cx.region ?_
          refine Lx.y (mv rfl) rfl ?_
          refine Lx.y (mv rfl) rfl ?_
          refine Lx.c rfl rfl rfl (fr_ct N d hN (.mk b Ak ck Av cv (some ⟨bC, 0, none⟩) cc ks vs cs) i hi2 hok hx h6 h3 _) ((show _ = tr (d + 2) (.mk b Ak ck Av cv (some ⟨bC, 0, none⟩) cc ks vs cs) * R by rw [← fold_tr]; ac_rfl)) rfl ?_
          rintro v1 B1 H1 ⟨rfl, hBB, c2, rfl, hm⟩ hB1
          subst hBB
          rename Frag => B
          clear hB1
          refine Lx.nil ?_
          refine Xx.bn ?_
          exact Xx.end0 rfl ⟨rfl, rfl, c2, rfl, hm, fun h9 => absurd h9 (by show ¬ 3 ≤ cs[i].ks.length; omega)⟩ (Frag.le_refl _) rfl
        · skip
          have h6 := h14
          have h6 : cs[i + 1].ks.length ≤ 3 := by omega
          refine Cx.seq (fun K15 k15 => ?_)
          refine Cx.region ?_
          refine Lx.y (mv rfl) rfl ?_
          refine Lx.y (Yx.ff (gtr rfl rfl) (decide_eq_false (by omega))) rfl ?_
          refine Lx.y (asg rfl) rfl ?_
          refine Lx.nil ?_
          refine Xx.tn (k15 _ _ _ _ ?_)
          refine Cx.condF rfl ?_
          refine Cx.region ?_
          refine Lx.y (mv rfl) rfl ?_
          refine Lx.y (mv rfl) rfl ?_
          refine Lx.c rfl rfl rfl (join_ct N d hN (.mk b Ak ck Av cv (some ⟨bC, 0, none⟩) cc ks vs cs) i i hi2 hok hx (.inl rfl) (show cs[i].ks.length + cs[i + 1].ks.length ≤ 6 by omega) _) ((show _ = tr (d + 2) (.mk b Ak ck Av cv (some ⟨bC, 0, none⟩) cc ks vs cs) * R by rw [← fold_tr]; ac_rfl)) rfl ?_
          rintro v1 B1 H1 ⟨rfl, hBB, c2, rfl, hm⟩ hB1
          subst hBB
          rename Frag => B
          clear hB1
          refine Lx.nil ?_
          refine Xx.bn ?_
          exact Xx.end0 rfl ⟨rfl, rfl, c2, rfl, hm, fun h9 => absurd h9 (by show ¬ 3 ≤ cs[i].ks.length; omega)⟩ (Frag.le_refl _) rfl
      · skip
        exact absurd h13 (by omega)

def LastQ (N d : Nat) (c : C) (B : Frag) (r : Value) (B' : Frag) (H' : HP) : Prop := B' = B ∧ ∃ c' k v, r = .tuple #[str k, str v] ∧ H' = tr (d + 1) c' ∧ LastR N d c c' k v
abbrev LastC (N d : Nat) (c : C) (B : Frag) : Prop := Ct Tryz.prog 85 [.pointer (some ⟨c.b, 0, none⟩)] B (tr (d + 1) c) (LastQ N d c B)

set_option maxHeartbeats 4000000 in
theorem last_step (N d : Nat) (hN : N ≤ 90) (c : C) (B : Frag) (hok : Ok N (d + 1) c) (hmn : Mn (d + 1) c) (hp : 0 < c.ks.length) (ih : ∀ (h : c.ks.length < c.cs.length), ∃ d2, d = d2 + 1 ∧ LastC 7 d2 c.cs[c.ks.length] B) : LastC N d c B := by
  have hcl := hok.2.2.1
  have hkN := hok.2.1
  have hvl := hok.1
  obtain ⟨b, Ak, ck, Av, cv, Ac, cc, ks, vs, cs⟩ := c
  unfold LastC
  simp only [C.b, C.ks, C.vs, C.cs] at hp hcl hkN hvl ih ⊢
  refine Ct.of_body Tryz.func85 rfl (nt := 78) rfl (by kernel_rfl) rfl ?_
  intro N0 w0 R
  rw [tr_succ]
  simp only [star_assoc, nrow, kbuf, vbuf, cbuf, ncells, C.b, C.Ak, C.ck, C.Av, C.cv, C.Ac, C.cc, C.ks, C.vs, C.cs]
  refine Cx.seq (fun K1 k1 => ?_)
  refine Cx.region ?_
  refine Lx.y (asg rfl) rfl ?_
  refine Lx.y (asg rfl) rfl ?_
  refine Lx.nil ?_
  refine Xx.tn (k1 _ _ _ _ ?_)
  refine Cx.seq (fun K2 k2 => ?_)
  refine Cx.seq (fun K3 k3 => ?_)
  refine Cx.region ?_
  refine Lx.y (mv rfl) rfl ?_
  refine Lx.y (nilc rfl) rfl ?_
  refine Lx.y (fa' fo113_2 rfl) rfl ?_
  refine Lx.y (ld Tryz.underlying111 rfl rfl rfl) rfl ?_
  refine Lx.y (lenV (ty' := 0) Tryz.underlying111 rfl) rfl ?_
  refine Lx.y (gtr rfl rfl) rfl ?_
  refine Lx.nil ?_
  refine Xx.tn (k3 _ _ _ _ ?_)
  refine Cx.condD rfl (fun h4 => ?_) (fun h4 => ?_)
  · skip
    have hz := h4
    have hcl2 : cs.length = ks.length + 1 := by rcases hcl with z | z; rw [z] at hz; simp at hz; exact z
    have hci : ks.length < cs.length := by omega
    obtain ⟨d2, hd2, hlast⟩ := ih hci
    subst hd2
    refine Xx.addrT Ac (by omega) (fun bC hAc hcx hcc => ?_)
    subst hAc
    refine Cx.seq (fun K5 k5 => ?_)
    refine Cx.region ?_
    refine Lx.y (mv rfl) rfl ?_
    refine Lx.y (nilc rfl) rfl ?_
    refine Lx.y (fa' fo113_2 rfl) rfl ?_
    refine Lx.y (ld Tryz.underlying111 rfl rfl rfl) rfl ?_
    refine Lx.y (lenV (ty' := 0) Tryz.underlying111 rfl) rfl ?_
    refine Lx.y (Yx.val (sub rfl rfl (show IntKind.i64.wrap _ = ((ks.length : Nat) : Int) by rw [wrap64 (by omega) (by omega)]; omega)) (show _ = i64 ((ks.length : Nat) : Int) from rfl)) rfl ?_
    refine Lx.y (asg rfl) rfl ?_
    refine Lx.nil ?_
    refine Xx.tn (k5 _ _ _ _ ?_)
    refine Cx.seq (fun K6 k6 => ?_)
    refine Cx.region ?_
    refine Lx.y (mv rfl) rfl ?_
    refine Lx.y (nilc rfl) rfl ?_
    refine Lx.y (fa' fo113_2 rfl) rfl ?_
    refine Lx.y (ld Tryz.underlying111 rfl rfl rfl) rfl ?_
    refine Lx.y (mv rfl) rfl ?_
    refine Lx.y (ia Tryz.underlying111 sz110 rfl rfl (by first | exact Int.toNat_natCast _ | rfl) (by omega) (by omega)) rfl ?_
    refine Lx.y (ldC Tryz.underlying110 rfl rfl (Cells.buf (m := 1) (kid_at hci) (by rw [List.length_map]; omega))) rfl ?_
    refine Lx.c rfl rfl rfl (hlast) (fold_kid hci) rfl ?_
    rintro r B1 H1 ⟨hBB, kid2, lk9, lv9, rfl, rfl, hkr⟩ hB1
    subst hBB
    rename Frag => B
    clear hB1
    obtain ⟨x1, x2, x3⟩ := kid_last (x := .mk b Ak ck Av cv (some ⟨bC, 0, none⟩) cc ks vs (cs.set ks.length kid2)) hok hmn hci hkr rfl rfl rfl
    refine Lx.y (mv rfl) rfl ?_
    refine Lx.y (ext rfl rfl) rfl ?_
    refine Lx.y (ext rfl rfl) rfl ?_
    refine Lx.y (asg rfl) rfl ?_
    refine Lx.y (asg rfl) rfl ?_
    refine Lx.nil ?_
    refine Xx.tn (k6 _ _ _ _ ?_)
    refine Cx.seq (fun K7 k7 => ?_)
    refine Cx.region ?_
    refine Lx.y (mv rfl) rfl ?_
    refine Lx.y (mv rfl) rfl ?_
    refine Lx.c rfl rfl rfl (mend_ct N d2 hN (.mk b Ak ck Av cv (some ⟨bC, 0, none⟩) cc ks vs (cs.set ks.length kid2)) ks.length _ (by show ks.length < (cs.set _ _).length; rw [List.length_set]; exact hci) x1 x2 hp) ((show _ = tr (d2 + 2) (.mk b Ak ck Av cv (some ⟨bC, 0, none⟩) cc ks vs (cs.set ks.length kid2)) * R by rw [← fold_tr, trs_set _ hci, pts_set hkr.1, List.length_set]; ac_rfl)) rfl ?_
    rintro v1 B1 H1 ⟨rfl, hBB, c2, rfl, hm, _⟩ hB1
    subst hBB
    rename Frag => B
    clear hB1
    refine Lx.nil ?_
    refine Xx.tn (k7 _ _ _ _ ?_)
    refine Cx.seq (fun K8 k8 => ?_)
    refine Cx.region ?_
    refine Lx.y (mv rfl) rfl ?_
    refine Lx.y (mv rfl) rfl ?_
    refine Lx.y (asg rfl) rfl ?_
    refine Lx.y (asg rfl) rfl ?_
    refine Lx.nil ?_
    refine Xx.tn (k8 _ _ _ _ ?_)
    refine Cx.ret ?_
    refine Xx.tr ?_
    exact Xx.ret2 rfl rfl rfl ⟨rfl, c2, lk9, lv9, rfl, rfl, LastR.of (x := .mk b Ak ck Av cv (some ⟨bC, 0, none⟩) cc ks vs (cs.set ks.length kid2)) rfl x3 rfl hm⟩ (Frag.le_refl _) rfl
  · skip
    have hz := h4
    have hc0 : cs = [] := List.length_eq_zero_iff.1 (by omega)
    subst hc0
    refine Xx.addrT Ak hp (fun bK hAk _ _ => ?_)
    subst hAk
    refine Xx.addrT Av (by omega) (fun bV hAv _ _ => ?_)
    subst hAv
    refine Cx.skip ?_
    refine Xx.tn (k2 _ _ _ _ ?_)
    refine Cx.seq (fun K9 k9 => ?_)
    refine Cx.region ?_
    refine Lx.y (mv rfl) rfl ?_
    refine Lx.y (nilc rfl) rfl ?_
    refine Lx.y (fa' fo113_0 rfl) rfl ?_
    refine Lx.y (ld Tryz.underlying23 rfl rfl rfl) rfl ?_
    refine Lx.y (lenV (ty' := 0) Tryz.underlying23 rfl) rfl ?_
    refine Lx.y (Yx.val (sub rfl rfl (show IntKind.i64.wrap _ = ((ks.length - 1 : Nat) : Int) by rw [wrap64 (by omega) (by omega)]; omega)) (show _ = i64 ((ks.length - 1 : Nat) : Int) from rfl)) rfl ?_
    refine Lx.y (asg rfl) rfl ?_
    refine Lx.nil ?_
    refine Xx.tn (k9 _ _ _ _ ?_)
    refine Cx.seq (fun K10 k10 => ?_)
    refine Cx.drawn (by kernel_rfl) ?_
    refine Dx.p (i := 0) rfl (by kernel_rfl) (mv rfl) rfl ?_
    refine Dx.p (i := 1) rfl (by kernel_rfl) (nilc rfl) rfl ?_
    refine Dx.p (i := 2) rfl (by kernel_rfl) (fa' fo113_0 rfl) rfl ?_
    refine Dx.r (i := 3) rfl (by kernel_rfl) (ld Tryz.underlying23 rfl rfl rfl) rfl ?_
    refine Dx.p (i := 4) rfl (by kernel_rfl) (mv rfl) rfl ?_
    refine Dx.p (i := 5) rfl (by kernel_rfl) (ia Tryz.underlying23 sz9 rfl rfl (by first | exact Int.toNat_natCast _ | rfl) (by omega) (by omega)) rfl ?_
    refine Dx.r (i := 6) rfl (by kernel_rfl) (ldC Tryz.underlying9 rfl rfl (Cells.buf (m := 1) (str_get (i := ks.length - 1) (by omega)) (by rw [List.length_map]; omega))) rfl ?_
    refine Dx.p (i := 7) rfl (by kernel_rfl) (mv rfl) rfl ?_
    refine Dx.p (i := 8) rfl (by kernel_rfl) (nilc rfl) rfl ?_
    refine Dx.p (i := 9) rfl (by kernel_rfl) (fa' fo113_1 rfl) rfl ?_
    refine Dx.r (i := 10) rfl (by kernel_rfl) (ld Tryz.underlying23 rfl rfl rfl) rfl ?_
    refine Dx.p (i := 11) rfl (by kernel_rfl) (mv rfl) rfl ?_
    refine Dx.p (i := 12) rfl (by kernel_rfl) (ia Tryz.underlying23 sz9 rfl rfl (by first | exact Int.toNat_natCast _ | rfl) (by omega) (by omega)) rfl ?_
    refine Dx.r (i := 13) rfl (by kernel_rfl) (ldC Tryz.underlying9 rfl rfl (Cells.buf (m := 1) (str_get (i := ks.length - 1) (by omega)) (by rw [List.length_map]; omega))) rfl ?_
    refine Dx.p (i := 14) rfl (by kernel_rfl) (asg rfl) rfl ?_
    refine Dx.p (i := 15) rfl (by kernel_rfl) (asg rfl) rfl ?_
    refine Dx.done (by kernel_rfl) ?_
    refine Xx.tn (k10 _ _ _ _ ?_)
    refine Cx.seq (fun K11 k11 => ?_)
    refine Cx.drawn (by kernel_rfl) ?_
    refine Dx.p (i := 0) rfl (by kernel_rfl) (mv rfl) rfl ?_
    refine Dx.p (i := 1) rfl (by kernel_rfl) (mv rfl) rfl ?_
    refine Dx.p (i := 2) rfl (by kernel_rfl) (mv rfl) rfl ?_
    refine Dx.p (i := 3) rfl (by kernel_rfl) (nilc rfl) rfl ?_
    refine Dx.p (i := 4) rfl (by kernel_rfl) (fa' fo113_0 rfl) rfl ?_
    refine Dx.r (i := 5) rfl (by kernel_rfl) (ld Tryz.underlying23 rfl rfl rfl) rfl ?_
    refine Dx.p (i := 6) rfl (by kernel_rfl) (mv rfl) rfl ?_
    refine Dx.p (i := 7) rfl (by kernel_rfl) (sl2V Tryz.underlying23 sz9 rfl rfl (by first | exact Int.toNat_natCast _ | rfl) (by omega) (by omega)) rfl ?_
    refine Dx.p (i := 8) rfl (by kernel_rfl) (mv rfl) rfl ?_
    refine Dx.p (i := 9) rfl (by kernel_rfl) (nilc rfl) rfl ?_
    refine Dx.p (i := 10) rfl (by kernel_rfl) (fa' fo113_1 rfl) rfl ?_
    refine Dx.r (i := 11) rfl (by kernel_rfl) (ld Tryz.underlying23 rfl rfl rfl) rfl ?_
    refine Dx.p (i := 12) rfl (by kernel_rfl) (mv rfl) rfl ?_
    refine Dx.p (i := 13) rfl (by kernel_rfl) (sl2V Tryz.underlying23 sz9 rfl rfl (by first | exact Int.toNat_natCast _ | rfl) (by omega) (by omega)) rfl ?_
    refine Dx.p (i := 14) rfl (by kernel_rfl) (nilc rfl) rfl ?_
    refine Dx.p (i := 15) rfl (by kernel_rfl) (fa' fo113_0 rfl) rfl ?_
    refine Dx.one (i := 16) (by kernel_rfl) ?_
    refine Dstep.o0 (i := 16) rfl (stO Tryz.underlying23 sz23 rfl rfl rfl (by simp) rfl) (fun v B' H' hΦ hB => ?_)
    obtain ⟨rfl, rfl⟩ := hΦ; clear hB v
    refine ⟨JOk.edge (JOk.edge (JOk.top) (by kernel_rfl)) (by kernel_rfl), ?_⟩
    refine Dx.p (i := 17) rfl (by kernel_rfl) (nilc rfl) rfl ?_
    refine Dx.p (i := 18) rfl (by kernel_rfl) (fa' fo113_1 rfl) rfl ?_
    refine Dx.one (i := 19) (by kernel_rfl) ?_
    refine Dstep.o0 (i := 19) rfl (stO Tryz.underlying23 sz23 rfl rfl rfl (by simp) rfl) (fun v B' H' hΦ hB => ?_)
    obtain ⟨rfl, rfl⟩ := hΦ; clear hB v
    refine ⟨JOk.edge (JOk.edge (JOk.top) (by kernel_rfl)) (by kernel_rfl), ?_⟩
    refine Dx.done (by kernel_rfl) ?_
    refine Xx.tn (k11 _ _ _ _ ?_)
    refine Cx.seq (fun K12 k12 => ?_)
    refine Cx.region ?_
    refine Lx.y (mv rfl) rfl ?_
    refine Lx.y (mv rfl) rfl ?_
    refine Lx.y (asg rfl) rfl ?_
    refine Lx.y (asg rfl) rfl ?_
    refine Lx.nil ?_
    refine Xx.tn (k12 _ _ _ _ ?_)
    refine Cx.ret ?_
    refine Xx.lessT bK (ks.length - 1) (by omega) ?_
    refine Xx.lessT bV (ks.length - 1) (by omega) ?_
    exact Xx.ret2 rfl rfl rfl ⟨rfl, .mk b (some ⟨bK, 0, none⟩) ck (some ⟨bV, 0, none⟩) cv Ac cc (ks.take (ks.length - 1)) (vs.take (ks.length - 1)) [], ks.getD (ks.length - 1) [], vs.getD (ks.length - 1) [], rfl, rfl, leaf_last hok hmn rfl hp rfl rfl rfl rfl⟩ (Frag.le_refl _) (by rw [← fold_tr, show (ks.take (ks.length - 1)).length = ks.length - 1 by simp, show (vs.take (ks.length - 1)).length = ks.length - 1 by simp; omega]; simp only [Nat.mul_one, List.map_take]; ac_rfl)

theorem last_ct (N : Nat) (hN : N ≤ 90) (B : Frag) : ∀ (d : Nat) (c : C) (M : Nat), M ≤ N → 7 ≤ N → Ok M (d + 1) c → Mn (d + 1) c → 0 < c.ks.length → LastC M d c B := by
  intro d
  induction d with
  | zero =>
    intro c M hM h7 hok hmn hp
    refine last_step M 0 (by omega) c B hok hmn hp (fun h => ?_)
    have hk := hok.2.2.2 _ (List.getElem_mem h)
    exact hk.elim
  | succ d ih =>
    intro c M hM h7 hok hmn hp
    refine last_step M (d + 1) (by omega) c B hok hmn hp (fun h => ⟨d, rfl, ?_⟩)
    have hk := hok.2.2.2 _ (List.getElem_mem h)
    have hm := hmn.2 _ (List.getElem_mem h)
    exact ih _ 7 h7 h7 (Ok.of1 hk) hm.2 (by omega)
end DrD
end Go.Proofs.YtdidpocakipinaaGreatDoor

/-
  Range of a tree: the function that it hands back; a nil tree; the law of nil trees.
-/
namespace Go.Proofs.YtdidpocakipinaaGreatDoor
open Go.SL Go.RowKit
set_option linter.unusedVariables false
set_option linter.unusedSimpArgs false
set_option maxRecDepth 100000
open Ke1 Ke3 Ke4 Ke5 Ke6 Ke7 Ke8 Ke9 KeA KeB KeC KeD KeE KeF KeG KeI RgA BtB BtC BtD BtE BtG BtH BtI BtF BtJ BtK BtL BtM BtN BtX
namespace BtQ


def kv (p : Str8 × Str8) : List Value := [str p.1, str p.2]
/-- what Range hands back -/
def RgV (B : Frag) (p : Option Addr) (lo hi : Str8) (v : Value) : Prop := ∃ b1 b2, v = .func (.func 87) #[] [.pointer (some ⟨b1, 0, none⟩), .pointer (some ⟨b2, 0, none⟩)].toArray ∧ B b1 = some (.cells [.pointer p].toArray 83 (0, 0)) ∧ B b2 = some (.cells [str lo, str hi].toArray 48 (0, 0))

set_option maxHeartbeats 1000000 in
theorem Range_ct (p : Option Addr) (lo hi : Str8) (B : Frag) : CtB Tryz.prog 69 [.pointer p, .agg [str lo, str hi].toArray] B (fun v B' => RgV B' p lo hi v) := by
  refine CtB.of_body Tryz.func69 rfl (nt := 6) rfl (by kernel_rfl) rfl ?_
  intro N0 w0 R
  refine Cx.seq (fun K1 k1 => ?_)
  refine Cx.region ?_
  refine Lx.new (boxO rfl rfl) rfl (fun b1 => ?_)
  refine Lx.new (boxA rfl) rfl (fun b2 => ?_)
  refine Lx.y (asg rfl) rfl ?_
  refine Lx.nil ?_
  refine Xx.tn (k1 _ _ _ _ ?_)
  refine Cx.seq (fun K2 k2 => ?_)
  refine Cx.region ?_
  refine Lx.y (mkf rfl rfl) rfl ?_
  refine Lx.y (asg rfl) rfl ?_
  refine Lx.nil ?_
  refine Xx.tn (k2 _ _ _ _ ?_)
  refine Cx.ret ?_
  refine Xx.freezeB b1 fun B2 hB2 hb1 => ?_
  refine Xx.freezeB b2 fun B3 hB3 hb2 => ?_
  exact Xx.rB1 rfl rfl ⟨b1, b2, rfl, hB3 _ _ hb1, hb2⟩ (Frag.le_trans hB2 hB3) rfl

end BtQ
end Go.Proofs.YtdidpocakipinaaGreatDoor

/-
  The keys of a node from one on: the walk of the iterator.
-/
namespace Go.Proofs.YtdidpocakipinaaGreatDoor
open Go.SL Go.RowKit
set_option linter.unusedVariables false
set_option linter.unusedSimpArgs false
set_option maxRecDepth 100000
open Ke1 Ke3 Ke4 Ke5 Ke6 Ke7 Ke8 Ke9 KeA KeB KeC KeD KeE KeF KeG KeI RgA BtB BtC BtD BtE BtG BtH BtI BtF BtJ BtK BtL BtM BtN BtQ BtX
namespace BtR
theorem sz9 : (Tryz.prog.info? 9).map (·.size) = some 1 := by kernel_rfl
theorem sz110 : (Tryz.prog.info? 110).map (·.size) = some 1 := by kernel_rfl
theorem fo113_0 : FO Tryz.prog 113 0 0 1 false := FO.of Tryz.underlying113 rfl rfl (by kernel_rfl) Tryz.underlying23 rfl rfl
theorem fo113_1 : FO Tryz.prog 113 1 1 1 false := FO.of Tryz.underlying113 rfl rfl (by kernel_rfl) Tryz.underlying23 rfl rfl
theorem fo113_2 : FO Tryz.prog 113 2 2 1 false := FO.of Tryz.underlying113 rfl rfl (by kernel_rfl) Tryz.underlying111 rfl rfl

def fromL (lo : Str8) (l : List (Str8 × Str8)) : List (Str8 × Str8) := l.filter fun p => !bless p.1 lo
theorem fromL_app (lo : Str8) (a b : List (Str8 × Str8)) : fromL lo (a ++ b) = fromL lo a ++ fromL lo b := List.filter_append ..
theorem fromL_cons {lo : Str8} {p : Str8 × Str8} {l : List (Str8 × Str8)} (h : bless p.1 lo = false) : fromL lo (p :: l) = p :: fromL lo l := by
  unfold fromL; rw [List.filter_cons_of_pos (by simp [h])]
theorem fromL_none {lo : Str8} {l : List (Str8 × Str8)} (h : ∀ p ∈ l, bless p.1 lo = true) : fromL lo l = [] := by
  unfold fromL; rw [List.filter_eq_nil_iff]; intro p hp; simp [h p hp]
/-- what is ahead of key i, and what comes from there on -/
theorem io_cut (f : C → List (Str8 × Str8)) : ∀ (i : Nat) (ks vs : List Str8) (cs : List C), vs.length = ks.length → (cs = [] ∨ cs.length = ks.length + 1) → (hi : i ≤ ks.length) →
    ∃ A, ioL f ks vs cs = A ++ ioL f (ks.drop i) (vs.drop i) (cs.drop i) ∧ ((i = 0 ∧ A = []) ∨ ∃ A' v, ∃ h : i - 1 < ks.length, 0 < i ∧ A = A' ++ [(ks[i - 1], v)]) := by
  intro i
  induction i with
  | zero => intro ks vs cs _ _ _; exact ⟨[], rfl, .inl ⟨rfl, rfl⟩⟩
  | succ i ih =>
    intro ks vs cs hv hc hi
    cases ks with
    | nil => simp at hi
    | cons k ks => cases vs with
      | nil => simp at hv
      | cons v vs =>
        have hv' : vs.length = ks.length := by simpa using hv
        have hi' : i ≤ ks.length := by simpa using hi
        have fin : ∀ (pre A : List (Str8 × Str8)), ((i = 0 ∧ A = []) ∨ ∃ A' v, ∃ h : i - 1 < ks.length, 0 < i ∧ A = A' ++ [(ks[i - 1], v)]) → ∃ A' v', ∃ h : i + 1 - 1 < (k :: ks).length, 0 < i + 1 ∧ pre ++ (k, v) :: A = A' ++ [((k :: ks)[i + 1 - 1], v')] := by
          intro pre A hA
          rcases hA with ⟨rfl, rfl⟩ | ⟨A', v', h, h0, rfl⟩
          · exact ⟨pre, v, by simp, by omega, rfl⟩
          · refine ⟨pre ++ (k, v) :: A', v', by simp; omega, by omega, ?_⟩
            obtain ⟨i, rfl⟩ : ∃ i', i = i' + 1 := ⟨i - 1, by omega⟩
            simp
        cases cs with
        | nil =>
          obtain ⟨A, e, hA⟩ := ih ks vs [] hv' (.inl rfl) hi'
          refine ⟨(k, v) :: A, ?_, .inr ?_⟩
          · show (k, v) :: ioL f ks vs [] = _
            rw [e]; simp
          · simpa using fin [] A hA
        | cons c cs =>
          have hc' : cs.length = ks.length + 1 := by simpa using hc
          obtain ⟨A, e, hA⟩ := ih ks vs cs hv' (.inr hc') hi'
          refine ⟨f c ++ (k, v) :: A, ?_, .inr (fin (f c) A hA)⟩
          show f c ++ (k, v) :: ioL f ks vs cs = _
          rw [e]; simp
theorem from_start {N d : Nat} {nd : C} {lo : Str8} (hok : Ok N (d + 1) nd) (ho : Ord (io (d + 1) nd)) : fromL lo (io (d + 1) nd) = fromL lo (ioL (io d) (nd.ks.drop (lb nd.ks lo)) (nd.vs.drop (lb nd.ks lo)) (nd.cs.drop (lb nd.ks lo))) := by
  have hs := srt_of hok ho
  obtain ⟨A, e, hA⟩ := io_cut (io d) (lb nd.ks lo) nd.ks nd.vs nd.cs hok.1 hok.2.2.1 (lb_le _ _)
  have e' : io (d + 1) nd = A ++ ioL (io d) (nd.ks.drop (lb nd.ks lo)) (nd.vs.drop (lb nd.ks lo)) (nd.cs.drop (lb nd.ks lo)) := e
  rw [e'] at ho ⊢
  rw [fromL_app, fromL_none, List.nil_append]
  rcases hA with ⟨_, rfl⟩ | ⟨A', v, h, h0, rfl⟩
  · intro p hp; cases hp
  · have hk := (lb_spec (t := lo) hs).1 (lb nd.ks lo - 1) h (by omega)
    intro p hp
    rcases List.mem_append.1 hp with hp | hp
    · exact bless_trans (Ord.cross (Ord.left ho) p hp _ (List.mem_singleton.2 rfl)) hk
    · rw [List.mem_singleton.1 hp]; exact hk
def tl (f : C → List (Str8 × Str8)) (ks vs : List Str8) (cs : List C) (j : Nat) : List (Str8 × Str8) := match ks.drop j, vs.drop j with
  | k :: ks', v :: vs' => (k, v) :: ioL f ks' vs' (cs.drop (j + 1))
  | _, _ => []
theorem tl_lt {f : C → List (Str8 × Str8)} {ks vs : List Str8} {cs : List C} {j : Nat} (h : j < ks.length) (hv : j < vs.length) : tl f ks vs cs j = (ks[j], vs[j]) :: ioL f (ks.drop (j + 1)) (vs.drop (j + 1)) (cs.drop (j + 1)) := by
  unfold tl; rw [List.drop_eq_getElem_cons h, List.drop_eq_getElem_cons hv]
theorem tl_ge {f : C → List (Str8 × Str8)} {ks vs : List Str8} {cs : List C} {j : Nat} (h : ks.length ≤ j) : tl f ks vs cs j = [] := by
  unfold tl; rw [List.drop_of_length_le h]
theorem tl_kid {f : C → List (Str8 × Str8)} {ks vs : List Str8} {cs : List C} {j : Nat} (hv : vs.length = ks.length) (hc : cs.length = ks.length + 1) (h : j < cs.length) : ioL f (ks.drop j) (vs.drop j) (cs.drop j) = f cs[j] ++ tl f ks vs cs j := by
  by_cases hj : j < ks.length
  · rw [tl_lt hj (by omega), List.drop_eq_getElem_cons hj, List.drop_eq_getElem_cons (l := vs) (by omega), List.drop_eq_getElem_cons h]; rfl
  · rw [tl_ge (by omega), List.drop_of_length_le (l := ks) (by omega), List.drop_of_length_le (l := vs) (by omega), List.drop_eq_getElem_cons h, List.append_nil]; rfl
theorem tl_leaf {f : C → List (Str8 × Str8)} {ks vs : List Str8} {j : Nat} (hv : vs.length = ks.length) : ioL f (ks.drop j) (vs.drop j) (([] : List C).drop j) = tl f ks vs [] j := by
  by_cases hj : j < ks.length
  · rw [tl_lt hj (by omega), List.drop_eq_getElem_cons hj, List.drop_eq_getElem_cons (l := vs) (by omega), List.drop_nil, List.drop_nil]; rfl
  · rw [tl_ge (by omega), List.drop_of_length_le (l := ks) (by omega), List.drop_of_length_le (l := vs) (by omega), List.drop_nil]; rfl
theorem rest_end {f : C → List (Str8 × Str8)} {ks vs : List Str8} {cs : List C} {j : Nat} (hv : vs.length = ks.length) (hc : cs = [] ∨ cs.length = ks.length + 1) (h : ks.length < j) : ioL f (ks.drop j) (vs.drop j) (cs.drop j) = [] := by
  rw [List.drop_of_length_le (l := ks) (by omega), List.drop_of_length_le (l := vs) (by omega), List.drop_of_length_le (l := cs) (by rcases hc with rfl | hc; simp; omega)]; rfl
/-- the kid's own keys stand in order -/
theorem kid_ord {N d : Nat} {nd : C} {j : Nat} (hok : Ok N (d + 1) nd) (ho : Ord (io (d + 1) nd)) (hc : nd.cs.length = nd.ks.length + 1) (h : j < nd.cs.length) : Ord (io d nd.cs[j]) := by
  have e := io_split (io d) j nd.ks nd.vs nd.cs h hok.1 hc
  have ho' : Ord (ioL (io d) nd.ks nd.vs nd.cs) := ho
  rw [e] at ho'
  exact Ord.left (Ord.right ho')
def FrV (b1 b2 : Nat) : Value := .func (.func 105) #[] [.pointer (some ⟨b1, 0, none⟩), .pointer (some ⟨b2, 0, none⟩)].toArray
abbrev FromIt (d : Nat) (nd : C) (lo : Str8) (b1 b2 : Nat) (B : Frag) : Prop := It Tryz.prog 105 [.pointer (some ⟨b1, 0, none⟩), .pointer (some ⟨b2, 0, none⟩)] kv (fromL lo (io d nd)) B (row b1 110 [pt nd] * row b2 9 [str lo])

set_option maxHeartbeats 1000000 in
theorem From_ct (nd : C) (lo : Str8) (B : Frag) : Ct Tryz.prog 88 [.pointer (some ⟨nd.b, 0, none⟩), str lo] B 1 (fun v B' H' => B' = B ∧ ∃ b1 b2, v = FrV b1 b2 ∧ H' = row b1 110 [pt nd] * row b2 9 [str lo]) := by
  refine Ct.of_body Tryz.func88 rfl (nt := 6) rfl (by kernel_rfl) rfl ?_
  intro N0 w0 R
  rw [one_star]
  refine Cx.seq (fun K1 k1 => ?_)
  refine Cx.region ?_
  refine Lx.new (boxO rfl rfl) rfl (fun b1 => ?_)
  refine Lx.new (boxO rfl rfl) rfl (fun b2 => ?_)
  refine Lx.y (asg rfl) rfl ?_
  refine Lx.nil ?_
  refine Xx.tn (k1 _ _ _ _ ?_)
  refine Cx.seq (fun K2 k2 => ?_)
  refine Cx.region ?_
  refine Lx.y (mkf rfl rfl) rfl ?_
  refine Lx.y (asg rfl) rfl ?_
  refine Lx.nil ?_
  refine Xx.tn (k2 _ _ _ _ ?_)
  refine Cx.ret ?_
  exact Xx.ret1 rfl rfl ⟨rfl, b1, b2, rfl, rfl⟩ (Frag.le_refl _) (by ac_rfl)

set_option maxHeartbeats 4000000 in
theorem From_step (d : Nat) (ih : ∀ (nd : C) (lo : Str8) (b1 b2 : Nat) (B : Frag), TrB B d nd → Ok 90 d nd → Ord (io d nd) → FromIt d nd lo b1 b2 B) (nd : C) (lo : Str8) (b1 b2 : Nat) (B : Frag) (hR : TrB B (d + 1) nd) (hok : Ok 90 (d + 1) nd) (ho : Ord (io (d + 1) nd)) : FromIt (d + 1) nd lo b1 b2 B := by
  refine ⟨Go.SL.enters_of Tryz.func105 rfl (by kernel_rfl), fun lp J Jx hy Bz Hz hBz hJ0 => ?_⟩
  have hs := srt_of hok ho
  have hst := from_start (lo := lo) hok ho
  have hvl := hok.1
  have hkl := hok.2.1
  have hcl := hok.2.2.1
  have hlb := lb_le nd.ks lo
  obtain ⟨⟨fz, hqn⟩, hRk, hRv, hRc, hkids⟩ := hR.mono hBz
  refine Ct.of_bodyM Tryz.func105 rfl (nt := 74) rfl (by kernel_rfl) rfl ?_
  intro N0 w0 R
  simp only [star_assoc]
  refine Cx.seq (fun K1 k1 => ?_)
  refine Cx.region ?_
  refine Lx.new (boxO rfl rfl) rfl (fun b3 => ?_)
  refine Lx.nil ?_
  refine Xx.tn (k1 _ _ _ _ ?_)
  refine Cx.seq (fun K2 k2 => ?_)
  refine Cx.drawn (by kernel_rfl) ?_
  refine Dx.r (i := 0) rfl (by kernel_rfl) (ld Tryz.underlying110 rfl rfl rfl) rfl ?_
  refine Dx.p (i := 1) rfl (by kernel_rfl) (nilc rfl) rfl ?_
  refine Dx.p (i := 2) rfl (by kernel_rfl) (fa' fo113_0 rfl) rfl ?_
  refine Dx.r (i := 3) rfl (by kernel_rfl) (ldB Tryz.underlying23 rfl rfl (by first | exact hqn | exact hB _ _ hqn) rfl) rfl ?_
  refine Dx.r (i := 4) rfl (by kernel_rfl) (ld Tryz.underlying9 rfl rfl rfl) rfl ?_
  refine Dx.one (i := 5) (by kernel_rfl) ?_
  refine Dstep.o (i := 5) rfl (Ox.cb rfl rfl rfl (BS_ct nd.ks lo _ _ _ hRk hs (by omega))) rfl (fun v B' H' hΦ hB => ?_)
  obtain ⟨rfl, rfl, hBB⟩ := hΦ; have hBB2 := hBB.symm; subst hBB2; clear hB
  refine ⟨JOk.edge (JOk.edge (JOk.yes (JOk.top) (ld Tryz.underlying110 rfl rfl rfl)) (by kernel_rfl)) (by kernel_rfl), ?_⟩
  refine Dx.p (i := 6) rfl (by kernel_rfl) (mv rfl) rfl ?_
  refine Dx.p (i := 7) rfl (by kernel_rfl) (ext rfl rfl) rfl ?_
  refine Dx.p (i := 8) rfl (by kernel_rfl) (ext rfl rfl) rfl ?_
  refine Dx.p (i := 9) rfl (by kernel_rfl) (asg rfl) rfl ?_
  refine Dx.p (i := 10) rfl (by kernel_rfl) (asg rfl) rfl ?_
  refine Dx.done (by kernel_rfl) ?_
  refine Xx.tn (k2 _ _ _ _ ?_)
  refine Cx.block ?_
  refine Cx.loopKD (Sub.cons (s := 0) rfl (Sub.cons (s := 1) rfl (Sub.cons (s := 2) rfl (Sub.cons (s := 3) rfl (Sub.cons (s := 8) rfl (Sub.cons (s := 9) rfl (Sub.cons (s := 10) rfl (Sub.cons (s := 11) rfl (Sub.cons (s := 12) rfl (Sub.cons (s := 13) rfl (Sub.cons (s := 14) rfl (Sub.cons (s := 15) rfl (Sub.cons (s := 16) rfl (Sub.nil _)))))))))))))) (fun m Ds ρ' B' H' => ∃ (j : Nat) (qs : List (Str8 × Str8)) (B2 : Frag) (H2 : HP), (lb nd.ks lo ≤ j ∧ j ≤ nd.ks.length + 1 ∧ fromL lo (io (d + 1) nd) = qs ++ fromL lo (ioL (io d) (nd.ks.drop j) (nd.vs.drop j) (nd.cs.drop j)) ∧ J qs B2 H2 ∧ Bz.le B2) ∧ m = nd.ks.length + 2 - j ∧ ρ' = [(4, i64 j)] ∧ B2 = B' ∧ row b3 89 [.func (.yield lp) #[] #[]] * (row b1 110 [pt nd] * (row b2 9 [str lo] * (H2 * (marks Ds * R)))) = H') [] rfl ⟨lb nd.ks lo, [], Bz, Hz, ⟨Nat.le_refl _, by omega, by rw [List.nil_append]; exact hst, hJ0, Frag.le_refl _⟩, rfl, rfl, rfl, by rw [marks_nil, one_star]⟩ (Sub.cons (s := 4) rfl (Sub.cons (s := 0) rfl (Sub.cons (s := 1) rfl (Sub.cons (s := 2) rfl (Sub.cons (s := 3) rfl (Sub.cons (s := 8) rfl (Sub.cons (s := 9) rfl (Sub.cons (s := 10) rfl (Sub.cons (s := 11) rfl (Sub.cons (s := 12) rfl (Sub.cons (s := 13) rfl (Sub.cons (s := 14) rfl (Sub.cons (s := 15) rfl (Sub.cons (s := 16) rfl (Sub.nil _))))))))))))))) ?_
  rintro m Ds ρ' B' H' ⟨j, qs, B2, H2, ⟨hlj, hjn, hxs0, hJq, hB2⟩, rfl, rfl, rfl, rfl⟩
  have hqn := hB2 _ _ hqn
  have hRk := hRk.mono hB2
  have hRv := hRv.mono hB2
  have hRc := hRc.mono hB2
  refine Cx.seq (fun K3 k3 => ?_)
  refine Cx.seq (fun K4 k4 => ?_)
  refine Cx.region ?_
  refine Lx.y (mv rfl) rfl ?_
  refine Lx.y (ld Tryz.underlying110 rfl rfl rfl) rfl ?_
  refine Lx.y (nilc rfl) rfl ?_
  refine Lx.y (fa' fo113_0 rfl) rfl ?_
  refine Lx.y (ldB Tryz.underlying23 rfl rfl (by first | exact hqn | exact hB _ _ hqn) rfl) rfl ?_
  refine Lx.y (lenV (ty' := 0) Tryz.underlying23 rfl) rfl ?_
  refine Lx.y (leq rfl rfl) rfl ?_
  refine Lx.nil ?_
  refine Xx.tn (k4 _ _ _ _ ?_)
  refine Cx.condD rfl (fun h5 => ?_) (fun h5 => ?_)
  · skip
    have hjn2 := h5
    refine Cx.skip ?_
    refine Xx.tn (k3 _ _ _ _ ?_)
    refine Cx.seq (fun K6 k6 => ?_)
    refine Cx.block ?_
    refine Cx.seq (fun K7 k7 => ?_)
    refine Cx.seq (fun K8 k8 => ?_)
    refine Cx.region ?_
    refine Lx.y (ld Tryz.underlying110 rfl rfl rfl) rfl ?_
    refine Lx.y (nilc rfl) rfl ?_
    refine Lx.y (fa' fo113_2 rfl) rfl ?_
    refine Lx.y (ldB Tryz.underlying111 rfl rfl (by first | exact hqn | exact hB _ _ hqn) rfl) rfl ?_
    refine Lx.y (lenV (ty' := 0) Tryz.underlying111 rfl) rfl ?_
    refine Lx.y (gtr rfl rfl) rfl ?_
    refine Lx.nil ?_
    refine Xx.tn (k8 _ _ _ _ ?_)
    refine Cx.condD rfl (fun h9 => ?_) (fun h9 => ?_)
    · skip
      have hz := h9
      have hcl2 : nd.cs.length = nd.ks.length + 1 := by rcases hcl with z | z; exact absurd hz (by rw [z]; decide); exact z
      have hcj : j < nd.cs.length := by omega
      obtain ⟨bv, ov, csv, etv, fzv, hAv, hBv, hvv⟩ := hRc.at1 (k := j) hcj
      rw [List.getElem?_map, List.getElem?_eq_getElem hcj] at hvv
      have hJc := hJq
      refine Cx.seq (fun K10 k10 => ?_)
      refine Cx.drawn (by kernel_rfl) ?_
      refine Dx.r (i := 0) rfl (by kernel_rfl) (ld Tryz.underlying110 rfl rfl rfl) rfl ?_
      refine Dx.p (i := 1) rfl (by kernel_rfl) (nilc rfl) rfl ?_
      refine Dx.p (i := 2) rfl (by kernel_rfl) (fa' fo113_2 rfl) rfl ?_
      refine Dx.r (i := 3) rfl (by kernel_rfl) (Yx.val (ldB Tryz.underlying111 rfl rfl (by first | exact hqn | exact hB _ _ hqn) rfl) (show _ = Value.slice (some ⟨bv, ov, none⟩) nd.cs.length nd.cc by rw [← hAv])) rfl ?_
      refine Dx.p (i := 4) rfl (by kernel_rfl) (mv rfl) rfl ?_
      refine Dx.p (i := 5) rfl (by kernel_rfl) (ia Tryz.underlying111 sz110 rfl rfl (by first | exact Int.toNat_natCast _ | rfl) (by omega) (by omega)) rfl ?_
      refine Dx.r (i := 6) rfl (by kernel_rfl) (ldB Tryz.underlying110 rfl rfl (by first | exact hBv | exact hB _ _ hBv) hvv) rfl ?_
      refine Dx.r (i := 7) rfl (by kernel_rfl) (ld Tryz.underlying9 rfl rfl rfl) rfl ?_
      refine Dx.one (i := 8) (by kernel_rfl) ?_
      refine Dstep.o (i := 8) rfl (Ox.call rfl rfl rfl (From_ct nd.cs[j] lo _) ((one_star _).symm)) rfl (fun v B' H' hΦ hB => ?_)
      obtain ⟨_, rfl, hΦ⟩ := hΦ
      obtain ⟨hBB, b4, b5, rfl, rfl⟩ := hΦ
      have hBB2 := hBB.symm
      subst hBB2
      have hle := hB2
      refine ⟨JOk.edge (JOk.edge (JOk.yes (JOk.yes (JOk.top) (ld Tryz.underlying110 rfl rfl rfl)) (Yx.val (ldB Tryz.underlying111 rfl rfl (by first | exact hqn | exact hB _ _ hqn) rfl) (show _ = Value.slice (some ⟨bv, ov, none⟩) nd.cs.length nd.cc by rw [← hAv]))) (by kernel_rfl)) (by kernel_rfl), ?_⟩
      refine Dx.done (by kernel_rfl) ?_
      refine Xx.tn (k10 _ _ _ _ ?_)
      refine Cx.block ?_
      refine Cx.rangeK (σ := _) (Sub.cons (s := 3) rfl (Sub.nil _)) rfl rfl (ih nd.cs[j] lo b4 b5 B2 ((hkids _ (List.getElem_mem hcj)).mono hB2) ((Ok.of1 (hok.2.2.2 _ (List.getElem_mem hcj))).le (by decide)) (kid_ord hok ho hcl2 hcj)) (show _ = (row b4 110 [pt nd.cs[j]] * row b5 9 [str lo]) * ((row b3 89 [.func (.yield lp) #[] #[]] * H2) * (row b1 110 [pt nd] * (row b2 9 [str lo] * (marks Ds * R)))) by ac_rfl) rfl (fun _ => rfl) (fun pre2 B' H' => ∃ Hj, J (qs ++ pre2) B' Hj ∧ H' = row b3 89 [.func (.yield lp) #[] #[]] * Hj) (fun c pre2 B' H' => c = .ret ∧ ∃ Hj, Jx (qs ++ pre2) B' Hj ∧ H' = row b3 89 [.func (.yield lp) #[] #[]] * Hj) (fun pre2 x B1 ρ' B' H' => ∃ Hj, ρ' = [(6, str x.1), (7, str x.2)] ∧ B' = B1 ∧ J (qs ++ pre2) B' Hj ∧ H' = row b3 89 [.func (.yield lp) #[] #[]] * Hj) (⟨H2, by rw [List.append_nil]; exact hJc, rfl⟩) ?_ ?_ ?_ ?_
      · rintro lz Nz wz pre x post B1 H1 F K hxs hB1 hJ hK
        obtain ⟨Hj, hJj, rfl⟩ := hJ
        refine Cx.seq (fun K11 k11 => ?_)
        refine Cx.region ?_
        refine Lx.y (asg rfl) rfl ?_
        refine Lx.nil ?_
        refine Xx.tn (k11 _ _ _ _ ?_)
        refine Cx.region ?_
        refine Lx.y (asg rfl) rfl ?_
        refine Lx.nil ?_
        refine Xx.tn ?_
        exact Xx.sub (hK _ _ _ ⟨Hj, rfl, rfl, hJj, rfl⟩ (Frag.le_refl _)) (Sub.cons (s := 6) rfl (Sub.cons (s := 7) rfl (Sub.cons (s := 3) rfl (Sub.nil _))))
      · rintro lz Nz wz pre x post B1 F ρ' B' H' hxs hB1 hBx hAS
        obtain ⟨Hj, rfl, hBB, hJj, rfl⟩ := hAS
        subst hBB
        rename Frag => B6
        clear hBx
        simp only [star_assoc]
        refine Cx.block ?_
        refine Cx.seq (fun K12 k12 => ?_)
        refine Cx.region ?_
        refine Lx.y (ld Tryz.underlying89 rfl rfl rfl) rfl ?_
        refine Lx.y (mv rfl) rfl ?_
        refine Lx.y (mv rfl) rfl ?_
        refine Lx.yield rfl rfl (hy (qs ++ pre) x (post ++ fromL lo (tl (io d) nd.ks nd.vs nd.cs j)) B6 Hj (by rw [hxs0, tl_kid hvl hcl2 hcj, fromL_app, hxs]; simp) (Frag.le_trans hBz (Frag.le_trans hle hB1)) hJj) (star_left _ _ _) rfl ?_
        rintro t B7 H7 hΦ hB7
        refine Lx.y (not' rfl) rfl ?_
        refine Lx.nil ?_
        refine Xx.tn (k12 _ _ _ _ ?_)
        refine Cx.condB rfl (fun h13 => ?_) (fun h13 => ?_)
        · skip
          obtain ⟨_, hΦ⟩ : t = false ∧ Jx ((qs ++ pre) ++ [x]) B7 H7 := by simpa [show t = false by simpa using h13] using hΦ
          refine Cx.ret ?_
          refine Xx.br ?_
          exact Xx.rqr ⟨rfl, _, by rw [← List.append_assoc]; exact hΦ, rfl⟩ hB7 (by ac_rfl)
        · skip
          obtain ⟨_, hΦ⟩ : t = true ∧ J ((qs ++ pre) ++ [x]) B7 H7 := by simpa [show t = true by simpa using h13] using hΦ
          refine Cx.skip ?_
          refine Xx.bn ?_
          exact Xx.rqn ⟨_, by rw [← List.append_assoc]; exact hΦ, rfl⟩ hB7 (by ac_rfl)
      · rintro D B' H' hBx hJ
        obtain ⟨Hc, hJc, rfl⟩ := hJ
        rename Frag => Bc
        have hle := Frag.le_trans hle hBx
        have hxt : fromL lo (io (d + 1) nd) = (qs ++ fromL lo (io d nd.cs[j])) ++ fromL lo (tl (io d) nd.ks nd.vs nd.cs j) := by rw [hxs0, tl_kid hvl hcl2 hcj, fromL_app, List.append_assoc]
        generalize qs ++ fromL lo (io d nd.cs[j]) = qs at hJc hxt
        have hqn := hBx _ _ hqn
        have hRk := hRk.mono hBx
        have hRv := hRv.mono hBx
        have hRc := hRc.mono hBx
        simp only [star_assoc]
        refine Xx.dropB b4 (Xx.dropB b5 ?_)
        refine Xx.perm ?_ (show _ = row b3 89 [.func (.yield lp) #[] #[]] * (row b1 110 [pt nd] * (row b2 9 [str lo] * (Hc * (marks (D :: Ds) * R)))) by rw [marks_cons]; ac_rfl)
        refine Xx.bn ?_
        refine Xx.tn (k7 _ _ _ _ ?_)
        refine Cx.seq (fun K14 k14 => ?_)
        refine Cx.drawn (by kernel_rfl) ?_
        refine Dx.p (i := 0) rfl (by kernel_rfl) (mv rfl) rfl ?_
        refine Dx.r (i := 1) rfl (by kernel_rfl) (ld Tryz.underlying110 rfl rfl rfl) rfl ?_
        refine Dx.p (i := 2) rfl (by kernel_rfl) (nilc rfl) rfl ?_
        refine Dx.p (i := 3) rfl (by kernel_rfl) (fa' fo113_0 rfl) rfl ?_
        refine Dx.r (i := 4) rfl (by kernel_rfl) (ldB Tryz.underlying23 rfl rfl (by first | exact hqn | exact hB _ _ hqn) rfl) rfl ?_
        refine Dx.p (i := 5) rfl (by kernel_rfl) (lenV (ty' := 0) Tryz.underlying23 rfl) rfl ?_
        refine Dx.p (i := 6) rfl (by kernel_rfl) (lss rfl rfl) rfl ?_
        refine Dx.p (i := 7) rfl (by kernel_rfl) (mv rfl) rfl ?_
        refine Xx.ifD (t := 55) rfl (fun h15 => ?_) (fun h15 => ?_)
        · skip
          have hlt := h15
          have hlt : j < nd.ks.length := by omega
          obtain ⟨bk, ok, csk, etk, fzk, hAk, hBk, hvk⟩ := roe_str hRk hlt rfl
          obtain ⟨bw, ow, csw, etw, fzw, hAw, hBw, hvw⟩ := roe_str hRv (show j < nd.vs.length by omega) rfl
          have hx3 : fromL lo (io (d + 1) nd) = qs ++ (nd.ks[j], nd.vs[j]'(by omega)) :: fromL lo (ioL (io d) (nd.ks.drop (j + 1)) (nd.vs.drop (j + 1)) (nd.cs.drop (j + 1))) := by
            have hge : bless nd.ks[j] lo = false := by
              have h9 := (lb_spec (t := lo) hs).2 (by omega)
              rcases Nat.lt_or_ge (lb nd.ks lo) j with h8 | h8
              · cases hb8 : bless nd.ks[j] lo with
                | false => rfl
                | true => rw [bless_trans (hs.lt hlt h8) hb8] at h9; cases h9
              · obtain rfl : lb nd.ks lo = j := by omega
                exact h9
            rw [hxt, tl_lt hlt (by omega), fromL_cons hge]
          refine Dx.rT (i := 8) rfl rfl rfl rfl (by kernel_rfl) (ld Tryz.underlying89 rfl rfl rfl) rfl ?_
          refine Dx.rT (i := 9) rfl rfl rfl rfl (by kernel_rfl) (ld Tryz.underlying110 rfl rfl rfl) rfl ?_
          refine Dx.pT (i := 10) rfl rfl rfl rfl (by kernel_rfl) (nilc rfl) rfl ?_
          refine Dx.pT (i := 11) rfl rfl rfl rfl (by kernel_rfl) (fa' fo113_0 rfl) rfl ?_
          refine Dx.rT (i := 12) rfl rfl rfl rfl (by kernel_rfl) (Yx.val (ldB Tryz.underlying23 rfl rfl (by first | exact hqn | exact hB _ _ hqn) rfl) (show _ = Value.slice (some ⟨bk, ok, none⟩) nd.ks.length nd.ck by rw [← hAk])) rfl ?_
          refine Dx.pT (i := 13) rfl rfl rfl rfl (by kernel_rfl) (mv rfl) rfl ?_
          refine Dx.pT (i := 14) rfl rfl rfl rfl (by kernel_rfl) (ia Tryz.underlying23 sz9 rfl rfl (by first | exact Int.toNat_natCast _ | rfl) (by omega) (by omega)) rfl ?_
          refine Dx.rT (i := 15) rfl rfl rfl rfl (by kernel_rfl) (ldB Tryz.underlying9 rfl rfl (by first | exact hBk | exact hB _ _ hBk) hvk) rfl ?_
          refine Dx.rT (i := 16) rfl rfl rfl rfl (by kernel_rfl) (ld Tryz.underlying110 rfl rfl rfl) rfl ?_
          refine Dx.pT (i := 17) rfl rfl rfl rfl (by kernel_rfl) (nilc rfl) rfl ?_
          refine Dx.pT (i := 18) rfl rfl rfl rfl (by kernel_rfl) (fa' fo113_1 rfl) rfl ?_
          refine Dx.rT (i := 19) rfl rfl rfl rfl (by kernel_rfl) (Yx.val (ldB Tryz.underlying23 rfl rfl (by first | exact hqn | exact hB _ _ hqn) rfl) (show _ = Value.slice (some ⟨bw, ow, none⟩) nd.vs.length nd.cv by rw [← hAw])) rfl ?_
          refine Dx.pT (i := 20) rfl rfl rfl rfl (by kernel_rfl) (mv rfl) rfl ?_
          refine Dx.pT (i := 21) rfl rfl rfl rfl (by kernel_rfl) (ia Tryz.underlying23 sz9 rfl rfl (by first | exact Int.toNat_natCast _ | rfl) (by omega) (by omega)) rfl ?_
          refine Dx.rT (i := 22) rfl rfl rfl rfl (by kernel_rfl) (ldB Tryz.underlying9 rfl rfl (by first | exact hBw | exact hB _ _ hBw) hvw) rfl ?_
          refine Dx.one (i := 23) (by kernel_rfl) ?_
          refine Dstep.oT (i := 23) rfl rfl rfl rfl (Ox.yield rfl rfl (hy qs (nd.ks[j], nd.vs[j]'(by omega)) _ _ _ hx3 (Frag.le_trans hBz hle) hJc) (pick3 _ _ _ _ _)) rfl (fun v B' H' hΦ hB => ?_)
          obtain ⟨t, _, rfl, rfl, hΦ⟩ := hΦ
          have hle8 := Frag.le_trans hle hB
          refine ⟨JOk.edge (JOk.yes (JOk.yes (JOk.edge (JOk.yes (JOk.yes (JOk.edge (JOk.yes (JOk.yes (JOk.top) (ld Tryz.underlying110 rfl rfl rfl)) (ldB Tryz.underlying23 rfl rfl (by first | exact hqn | exact hB _ _ hqn) rfl)) (by kernel_rfl)) (ld Tryz.underlying110 rfl rfl rfl)) (Yx.val (ldB Tryz.underlying23 rfl rfl (by first | exact hqn | exact hB _ _ hqn) rfl) (show _ = Value.slice (some ⟨bk, ok, none⟩) nd.ks.length nd.ck by rw [← hAk]))) (by kernel_rfl)) (ld Tryz.underlying110 rfl rfl rfl)) (Yx.val (ldB Tryz.underlying23 rfl rfl (by first | exact hqn | exact hB _ _ hqn) rfl) (show _ = Value.slice (some ⟨bw, ow, none⟩) nd.vs.length nd.cv by rw [← hAw]))) (by kernel_rfl), ?_⟩
          refine Dx.pT (i := 24) rfl rfl rfl rfl (by kernel_rfl) (not' rfl) rfl ?_
          refine Dx.p (i := 25) rfl (by kernel_rfl) (pickT rfl rfl) rfl ?_
          refine Dx.done (by kernel_rfl) ?_
          refine Xx.tn (k14 _ _ _ _ ?_)
          refine Cx.condB rfl (fun h16 => ?_) (fun h16 => ?_)
          · skip
            obtain ⟨_, hΦ⟩ : t = false ∧ Jx (qs ++ [(nd.ks[j], nd.vs[j]'(by omega))]) _ _ := by simpa [show t = false by simpa using h16] using hΦ
            refine Cx.ret ?_
            refine Xx.br ?_
            refine Xx.tr ?_
            refine Xx.tr ?_
            refine Xx.br ?_
            refine Xx.dropB b3 ?_
            exact Xx.rM (Ds := D :: Ds) (fun a w f _ => results_none rfl _ _ _) ⟨_, rfl, .inr ⟨_, _, by rw [hx3, List.append_cons], hΦ⟩⟩ hle8 (by ac_rfl)
          · skip
            obtain ⟨_, hΦ⟩ : t = true ∧ J (qs ++ [(nd.ks[j], nd.vs[j]'(by omega))]) _ _ := by simpa [show t = true by simpa using h16] using hΦ
            have hle := hle8
            have hx4 : fromL lo (io (d + 1) nd) = (qs ++ [(nd.ks[j], nd.vs[j]'(by omega))]) ++ fromL lo (ioL (io d) (nd.ks.drop (j + 1)) (nd.vs.drop (j + 1)) (nd.cs.drop (j + 1))) := by rw [hx3]; simp
            refine Cx.skip ?_
            refine Xx.bn ?_
            refine Xx.tn (k6 _ _ _ _ ?_)
            refine Cx.region ?_
            refine Lx.y (mv rfl) rfl ?_
            refine Lx.y (Yx.val (add rfl rfl (by first | exact wrap64 (by omega) (by omega) | rfl)) (show _ = i64 ((j + 1 : Nat) : Int) from rfl)) rfl ?_
            refine Lx.y (asg rfl) rfl ?_
            refine Lx.nil ?_
            exact Xx.againKD (D :: Ds) rfl ⟨j + 1, _, _, _, ⟨by omega, by omega, hx4, hΦ, hle⟩, rfl, rfl, rfl, (by rw [marks_cons]; ac_rfl)⟩ (by omega) (Sub.cons (s := 4) rfl (Sub.cons (s := 0) rfl (Sub.cons (s := 1) rfl (Sub.cons (s := 2) rfl (Sub.cons (s := 3) rfl (Sub.cons (s := 8) rfl (Sub.cons (s := 9) rfl (Sub.cons (s := 10) rfl (Sub.cons (s := 11) rfl (Sub.cons (s := 12) rfl (Sub.cons (s := 13) rfl (Sub.cons (s := 14) rfl (Sub.cons (s := 15) rfl (Sub.cons (s := 16) rfl (Sub.nil _)))))))))))))))
        · skip
          have hge := h15
          have hjn3 : j = nd.ks.length := by omega
          have hx4 : fromL lo (io (d + 1) nd) = qs ++ fromL lo (ioL (io d) (nd.ks.drop (j + 1)) (nd.vs.drop (j + 1)) (nd.cs.drop (j + 1))) := by rw [hxt, tl_ge (by omega), rest_end hvl hcl (by omega)]
          refine Dx.pF (i := 8) rfl (fun _ h => by cases h) rfl rfl rfl (by kernel_rfl) rfl ?_
          refine Dx.pF (i := 9) rfl (fun _ h => by cases h) rfl rfl rfl (by kernel_rfl) rfl ?_
          refine Dx.pF (i := 10) rfl (fun _ h => by cases h) rfl rfl rfl (by kernel_rfl) rfl ?_
          refine Dx.pF (i := 11) rfl (fun _ h => by cases h) rfl rfl rfl (by kernel_rfl) rfl ?_
          refine Dx.pF (i := 12) rfl (fun _ h => by cases h) rfl rfl rfl (by kernel_rfl) rfl ?_
          refine Dx.pF (i := 13) rfl (fun _ h => by cases h) rfl rfl rfl (by kernel_rfl) rfl ?_
          refine Dx.pF (i := 14) rfl (fun _ h => by cases h) rfl rfl rfl (by kernel_rfl) rfl ?_
          refine Dx.pF (i := 15) rfl (fun _ h => by cases h) rfl rfl rfl (by kernel_rfl) rfl ?_
          refine Dx.pF (i := 16) rfl (fun _ h => by cases h) rfl rfl rfl (by kernel_rfl) rfl ?_
          refine Dx.pF (i := 17) rfl (fun _ h => by cases h) rfl rfl rfl (by kernel_rfl) rfl ?_
          refine Dx.pF (i := 18) rfl (fun _ h => by cases h) rfl rfl rfl (by kernel_rfl) rfl ?_
          refine Dx.pF (i := 19) rfl (fun _ h => by cases h) rfl rfl rfl (by kernel_rfl) rfl ?_
          refine Dx.pF (i := 20) rfl (fun _ h => by cases h) rfl rfl rfl (by kernel_rfl) rfl ?_
          refine Dx.pF (i := 21) rfl (fun _ h => by cases h) rfl rfl rfl (by kernel_rfl) rfl ?_
          refine Dx.pF (i := 22) rfl (fun _ h => by cases h) rfl rfl rfl (by kernel_rfl) rfl ?_
          refine Dx.pF (i := 23) rfl (fun _ h => by cases h) rfl rfl rfl (by kernel_rfl) rfl ?_
          refine Dx.pF (i := 24) rfl (fun _ h => by cases h) rfl rfl rfl (by kernel_rfl) rfl ?_
          refine Dx.p (i := 25) rfl (by kernel_rfl) (pickF rfl rfl) rfl ?_
          refine Dx.done (by kernel_rfl) ?_
          refine Xx.tn (k14 _ _ _ _ ?_)
          refine Cx.condF rfl ?_
          refine Cx.skip ?_
          refine Xx.bn ?_
          refine Xx.tn (k6 _ _ _ _ ?_)
          refine Cx.region ?_
          refine Lx.y (mv rfl) rfl ?_
          refine Lx.y (Yx.val (add rfl rfl (by first | exact wrap64 (by omega) (by omega) | rfl)) (show _ = i64 ((j + 1 : Nat) : Int) from rfl)) rfl ?_
          refine Lx.y (asg rfl) rfl ?_
          refine Lx.nil ?_
          exact Xx.againKD (D :: Ds) rfl ⟨j + 1, _, _, _, ⟨by omega, by omega, hx4, hJc, hle⟩, rfl, rfl, rfl, rfl⟩ (by omega) (Sub.cons (s := 4) rfl (Sub.cons (s := 0) rfl (Sub.cons (s := 1) rfl (Sub.cons (s := 2) rfl (Sub.cons (s := 3) rfl (Sub.cons (s := 8) rfl (Sub.cons (s := 9) rfl (Sub.cons (s := 10) rfl (Sub.cons (s := 11) rfl (Sub.cons (s := 12) rfl (Sub.cons (s := 13) rfl (Sub.cons (s := 14) rfl (Sub.cons (s := 15) rfl (Sub.cons (s := 16) rfl (Sub.nil _)))))))))))))))
      · rintro D c pre post B' H' hxs hBx hJx
        obtain ⟨rfl, Hc, hJc, rfl⟩ := hJx
        have hle := Frag.le_trans hle hBx
        have hxt : fromL lo (io (d + 1) nd) = (qs ++ pre) ++ (post ++ fromL lo (tl (io d) nd.ks nd.vs nd.cs j)) := by rw [hxs0, tl_kid hvl hcl2 hcj, fromL_app, hxs]; simp
        refine Cx.ret ?_
        refine Xx.br ?_
        refine Xx.tr ?_
        refine Xx.br ?_
        refine Xx.tr ?_
        refine Xx.tr ?_
        refine Xx.br ?_
        simp only [star_assoc]
        refine Xx.dropB b3 (Xx.dropB b4 (Xx.dropB b5 ?_))
        exact Xx.rM (Ds := D :: Ds) (fun a w f _ => results_none rfl _ _ _) ⟨_, rfl, .inr ⟨_, _, hxt, hJc⟩⟩ hle (by rw [marks_cons]; ac_rfl)
    · skip
      have hz := h9
      have hc0 : nd.cs = [] := List.length_eq_zero_iff.1 (by omega)
      have hJc := hJq
      have hle := hB2
      have hxt : fromL lo (io (d + 1) nd) = qs ++ fromL lo (tl (io d) nd.ks nd.vs nd.cs j) := by rw [hxs0, hc0, tl_leaf hvl]
      refine Cx.skip ?_
      refine Xx.tn (k7 _ _ _ _ ?_)
      refine Cx.seq (fun K17 k17 => ?_)
      refine Cx.drawn (by kernel_rfl) ?_
      refine Dx.p (i := 0) rfl (by kernel_rfl) (mv rfl) rfl ?_
      refine Dx.r (i := 1) rfl (by kernel_rfl) (ld Tryz.underlying110 rfl rfl rfl) rfl ?_
      refine Dx.p (i := 2) rfl (by kernel_rfl) (nilc rfl) rfl ?_
      refine Dx.p (i := 3) rfl (by kernel_rfl) (fa' fo113_0 rfl) rfl ?_
      refine Dx.r (i := 4) rfl (by kernel_rfl) (ldB Tryz.underlying23 rfl rfl (by first | exact hqn | exact hB _ _ hqn) rfl) rfl ?_
      refine Dx.p (i := 5) rfl (by kernel_rfl) (lenV (ty' := 0) Tryz.underlying23 rfl) rfl ?_
      refine Dx.p (i := 6) rfl (by kernel_rfl) (lss rfl rfl) rfl ?_
      refine Dx.p (i := 7) rfl (by kernel_rfl) (mv rfl) rfl ?_
      refine Xx.ifD (t := 55) rfl (fun h18 => ?_) (fun h18 => ?_)
      · skip
        have hlt := h18
        have hlt : j < nd.ks.length := by omega
        obtain ⟨bk, ok, csk, etk, fzk, hAk, hBk, hvk⟩ := roe_str hRk hlt rfl
        obtain ⟨bw, ow, csw, etw, fzw, hAw, hBw, hvw⟩ := roe_str hRv (show j < nd.vs.length by omega) rfl
        have hx3 : fromL lo (io (d + 1) nd) = qs ++ (nd.ks[j], nd.vs[j]'(by omega)) :: fromL lo (ioL (io d) (nd.ks.drop (j + 1)) (nd.vs.drop (j + 1)) (nd.cs.drop (j + 1))) := by
          have hge : bless nd.ks[j] lo = false := by
            have h9 := (lb_spec (t := lo) hs).2 (by omega)
            rcases Nat.lt_or_ge (lb nd.ks lo) j with h8 | h8
            · cases hb8 : bless nd.ks[j] lo with
              | false => rfl
              | true => rw [bless_trans (hs.lt hlt h8) hb8] at h9; cases h9
            · obtain rfl : lb nd.ks lo = j := by omega
              exact h9
          rw [hxt, tl_lt hlt (by omega), fromL_cons hge]
        refine Dx.rT (i := 8) rfl rfl rfl rfl (by kernel_rfl) (ld Tryz.underlying89 rfl rfl rfl) rfl ?_
        refine Dx.rT (i := 9) rfl rfl rfl rfl (by kernel_rfl) (ld Tryz.underlying110 rfl rfl rfl) rfl ?_
        refine Dx.pT (i := 10) rfl rfl rfl rfl (by kernel_rfl) (nilc rfl) rfl ?_
        refine Dx.pT (i := 11) rfl rfl rfl rfl (by kernel_rfl) (fa' fo113_0 rfl) rfl ?_
        refine Dx.rT (i := 12) rfl rfl rfl rfl (by kernel_rfl) (Yx.val (ldB Tryz.underlying23 rfl rfl (by first | exact hqn | exact hB _ _ hqn) rfl) (show _ = Value.slice (some ⟨bk, ok, none⟩) nd.ks.length nd.ck by rw [← hAk])) rfl ?_
        refine Dx.pT (i := 13) rfl rfl rfl rfl (by kernel_rfl) (mv rfl) rfl ?_
        refine Dx.pT (i := 14) rfl rfl rfl rfl (by kernel_rfl) (ia Tryz.underlying23 sz9 rfl rfl (by first | exact Int.toNat_natCast _ | rfl) (by omega) (by omega)) rfl ?_
        refine Dx.rT (i := 15) rfl rfl rfl rfl (by kernel_rfl) (ldB Tryz.underlying9 rfl rfl (by first | exact hBk | exact hB _ _ hBk) hvk) rfl ?_
        refine Dx.rT (i := 16) rfl rfl rfl rfl (by kernel_rfl) (ld Tryz.underlying110 rfl rfl rfl) rfl ?_
        refine Dx.pT (i := 17) rfl rfl rfl rfl (by kernel_rfl) (nilc rfl) rfl ?_
        refine Dx.pT (i := 18) rfl rfl rfl rfl (by kernel_rfl) (fa' fo113_1 rfl) rfl ?_
        refine Dx.rT (i := 19) rfl rfl rfl rfl (by kernel_rfl) (Yx.val (ldB Tryz.underlying23 rfl rfl (by first | exact hqn | exact hB _ _ hqn) rfl) (show _ = Value.slice (some ⟨bw, ow, none⟩) nd.vs.length nd.cv by rw [← hAw])) rfl ?_
        refine Dx.pT (i := 20) rfl rfl rfl rfl (by kernel_rfl) (mv rfl) rfl ?_
        refine Dx.pT (i := 21) rfl rfl rfl rfl (by kernel_rfl) (ia Tryz.underlying23 sz9 rfl rfl (by first | exact Int.toNat_natCast _ | rfl) (by omega) (by omega)) rfl ?_
        refine Dx.rT (i := 22) rfl rfl rfl rfl (by kernel_rfl) (ldB Tryz.underlying9 rfl rfl (by first | exact hBw | exact hB _ _ hBw) hvw) rfl ?_
        refine Dx.one (i := 23) (by kernel_rfl) ?_
        refine Dstep.oT (i := 23) rfl rfl rfl rfl (Ox.yield rfl rfl (hy qs (nd.ks[j], nd.vs[j]'(by omega)) _ _ _ hx3 (Frag.le_trans hBz hle) hJc) (pick3 _ _ _ _ _)) rfl (fun v B' H' hΦ hB => ?_)
        obtain ⟨t, _, rfl, rfl, hΦ⟩ := hΦ
        have hle8 := Frag.le_trans hle hB
        refine ⟨JOk.edge (JOk.yes (JOk.yes (JOk.edge (JOk.yes (JOk.yes (JOk.edge (JOk.yes (JOk.yes (JOk.top) (ld Tryz.underlying110 rfl rfl rfl)) (ldB Tryz.underlying23 rfl rfl (by first | exact hqn | exact hB _ _ hqn) rfl)) (by kernel_rfl)) (ld Tryz.underlying110 rfl rfl rfl)) (Yx.val (ldB Tryz.underlying23 rfl rfl (by first | exact hqn | exact hB _ _ hqn) rfl) (show _ = Value.slice (some ⟨bk, ok, none⟩) nd.ks.length nd.ck by rw [← hAk]))) (by kernel_rfl)) (ld Tryz.underlying110 rfl rfl rfl)) (Yx.val (ldB Tryz.underlying23 rfl rfl (by first | exact hqn | exact hB _ _ hqn) rfl) (show _ = Value.slice (some ⟨bw, ow, none⟩) nd.vs.length nd.cv by rw [← hAw]))) (by kernel_rfl), ?_⟩
        refine Dx.pT (i := 24) rfl rfl rfl rfl (by kernel_rfl) (not' rfl) rfl ?_
        refine Dx.p (i := 25) rfl (by kernel_rfl) (pickT rfl rfl) rfl ?_
        refine Dx.done (by kernel_rfl) ?_
        refine Xx.tn (k17 _ _ _ _ ?_)
        refine Cx.condB rfl (fun h19 => ?_) (fun h19 => ?_)
        · skip
          obtain ⟨_, hΦ⟩ : t = false ∧ Jx (qs ++ [(nd.ks[j], nd.vs[j]'(by omega))]) _ _ := by simpa [show t = false by simpa using h19] using hΦ
          refine Cx.ret ?_
          refine Xx.br ?_
          refine Xx.tr ?_
          refine Xx.tr ?_
          refine Xx.br ?_
          refine Xx.dropB b3 ?_
          exact Xx.rM (Ds := Ds) (fun a w f _ => results_none rfl _ _ _) ⟨_, rfl, .inr ⟨_, _, by rw [hx3, List.append_cons], hΦ⟩⟩ hle8 (by ac_rfl)
        · skip
          obtain ⟨_, hΦ⟩ : t = true ∧ J (qs ++ [(nd.ks[j], nd.vs[j]'(by omega))]) _ _ := by simpa [show t = true by simpa using h19] using hΦ
          have hle := hle8
          have hx4 : fromL lo (io (d + 1) nd) = (qs ++ [(nd.ks[j], nd.vs[j]'(by omega))]) ++ fromL lo (ioL (io d) (nd.ks.drop (j + 1)) (nd.vs.drop (j + 1)) (nd.cs.drop (j + 1))) := by rw [hx3]; simp
          refine Cx.skip ?_
          refine Xx.bn ?_
          refine Xx.tn (k6 _ _ _ _ ?_)
          refine Cx.region ?_
          refine Lx.y (mv rfl) rfl ?_
          refine Lx.y (Yx.val (add rfl rfl (by first | exact wrap64 (by omega) (by omega) | rfl)) (show _ = i64 ((j + 1 : Nat) : Int) from rfl)) rfl ?_
          refine Lx.y (asg rfl) rfl ?_
          refine Lx.nil ?_
          exact Xx.againKD (Ds) rfl ⟨j + 1, _, _, _, ⟨by omega, by omega, hx4, hΦ, hle⟩, rfl, rfl, rfl, (by ac_rfl)⟩ (by omega) (Sub.cons (s := 4) rfl (Sub.cons (s := 0) rfl (Sub.cons (s := 1) rfl (Sub.cons (s := 2) rfl (Sub.cons (s := 3) rfl (Sub.cons (s := 8) rfl (Sub.cons (s := 9) rfl (Sub.cons (s := 10) rfl (Sub.cons (s := 11) rfl (Sub.cons (s := 12) rfl (Sub.cons (s := 13) rfl (Sub.cons (s := 14) rfl (Sub.cons (s := 15) rfl (Sub.cons (s := 16) rfl (Sub.nil _)))))))))))))))
      · skip
        have hge := h18
        have hjn3 : j = nd.ks.length := by omega
        have hx4 : fromL lo (io (d + 1) nd) = qs ++ fromL lo (ioL (io d) (nd.ks.drop (j + 1)) (nd.vs.drop (j + 1)) (nd.cs.drop (j + 1))) := by rw [hxt, tl_ge (by omega), rest_end hvl hcl (by omega)]
        refine Dx.pF (i := 8) rfl (fun _ h => by cases h) rfl rfl rfl (by kernel_rfl) rfl ?_
        refine Dx.pF (i := 9) rfl (fun _ h => by cases h) rfl rfl rfl (by kernel_rfl) rfl ?_
        refine Dx.pF (i := 10) rfl (fun _ h => by cases h) rfl rfl rfl (by kernel_rfl) rfl ?_
        refine Dx.pF (i := 11) rfl (fun _ h => by cases h) rfl rfl rfl (by kernel_rfl) rfl ?_
        refine Dx.pF (i := 12) rfl (fun _ h => by cases h) rfl rfl rfl (by kernel_rfl) rfl ?_
        refine Dx.pF (i := 13) rfl (fun _ h => by cases h) rfl rfl rfl (by kernel_rfl) rfl ?_
        refine Dx.pF (i := 14) rfl (fun _ h => by cases h) rfl rfl rfl (by kernel_rfl) rfl ?_
        refine Dx.pF (i := 15) rfl (fun _ h => by cases h) rfl rfl rfl (by kernel_rfl) rfl ?_
        refine Dx.pF (i := 16) rfl (fun _ h => by cases h) rfl rfl rfl (by kernel_rfl) rfl ?_
        refine Dx.pF (i := 17) rfl (fun _ h => by cases h) rfl rfl rfl (by kernel_rfl) rfl ?_
        refine Dx.pF (i := 18) rfl (fun _ h => by cases h) rfl rfl rfl (by kernel_rfl) rfl ?_
        refine Dx.pF (i := 19) rfl (fun _ h => by cases h) rfl rfl rfl (by kernel_rfl) rfl ?_
        refine Dx.pF (i := 20) rfl (fun _ h => by cases h) rfl rfl rfl (by kernel_rfl) rfl ?_
        refine Dx.pF (i := 21) rfl (fun _ h => by cases h) rfl rfl rfl (by kernel_rfl) rfl ?_
        refine Dx.pF (i := 22) rfl (fun _ h => by cases h) rfl rfl rfl (by kernel_rfl) rfl ?_
        refine Dx.pF (i := 23) rfl (fun _ h => by cases h) rfl rfl rfl (by kernel_rfl) rfl ?_
        refine Dx.pF (i := 24) rfl (fun _ h => by cases h) rfl rfl rfl (by kernel_rfl) rfl ?_
        refine Dx.p (i := 25) rfl (by kernel_rfl) (pickF rfl rfl) rfl ?_
        refine Dx.done (by kernel_rfl) ?_
        refine Xx.tn (k17 _ _ _ _ ?_)
        refine Cx.condF rfl ?_
        refine Cx.skip ?_
        refine Xx.bn ?_
        refine Xx.tn (k6 _ _ _ _ ?_)
        refine Cx.region ?_
        refine Lx.y (mv rfl) rfl ?_
        refine Lx.y (Yx.val (add rfl rfl (by first | exact wrap64 (by omega) (by omega) | rfl)) (show _ = i64 ((j + 1 : Nat) : Int) from rfl)) rfl ?_
        refine Lx.y (asg rfl) rfl ?_
        refine Lx.nil ?_
        exact Xx.againKD (Ds) rfl ⟨j + 1, _, _, _, ⟨by omega, by omega, hx4, hJc, hle⟩, rfl, rfl, rfl, rfl⟩ (by omega) (Sub.cons (s := 4) rfl (Sub.cons (s := 0) rfl (Sub.cons (s := 1) rfl (Sub.cons (s := 2) rfl (Sub.cons (s := 3) rfl (Sub.cons (s := 8) rfl (Sub.cons (s := 9) rfl (Sub.cons (s := 10) rfl (Sub.cons (s := 11) rfl (Sub.cons (s := 12) rfl (Sub.cons (s := 13) rfl (Sub.cons (s := 14) rfl (Sub.cons (s := 15) rfl (Sub.cons (s := 16) rfl (Sub.nil _)))))))))))))))
  · skip
    have hjn2 := h5
    refine Cx.exit ?_
    refine Xx.te ?_
    refine Xx.te ?_
    refine Xx.bh ?_
    refine Xx.dropB b3 ?_
    exact Xx.eM Ds rfl (fun a w f _ => results_none rfl _ _ _) ⟨_, rfl, .inl (by rw [hxs0, rest_end hvl hcl (by omega)]; show J (qs ++ []) _ _; rw [List.append_nil]; exact hJq)⟩ hB2 (by ac_rfl)
end BtR
end Go.Proofs.YtdidpocakipinaaGreatDoor

/-
  A key goes out of a node, and out of a tree.
-/
namespace Go.Proofs.YtdidpocakipinaaGreatDoor
open Go.SL Go.RowKit
set_option linter.unusedVariables false
set_option linter.unusedSimpArgs false
set_option maxRecDepth 100000
open Ke1 Ke3 Ke4 Ke5 Ke6 Ke7 Ke8 Ke9 KeA KeB KeC KeD KeE KeF KeG KeI RgA BtB BtC BtD BtE BtG BtX BtH BtI BtF BtJ BtM BtN BtO BtR BtY BtZ DrA DrB DrC DrD
namespace DrE
theorem sz9 : (Tryz.prog.info? 9).map (·.size) = some 1 := by kernel_rfl
theorem sz23 : (Tryz.prog.info? 23).map (·.size) = some 1 := by kernel_rfl
theorem sz110 : (Tryz.prog.info? 110).map (·.size) = some 1 := by kernel_rfl
theorem fo113_0 : FO Tryz.prog 113 0 0 1 false := FO.of Tryz.underlying113 rfl rfl (by kernel_rfl) Tryz.underlying23 rfl rfl
theorem fo113_1 : FO Tryz.prog 113 1 1 1 false := FO.of Tryz.underlying113 rfl rfl (by kernel_rfl) Tryz.underlying23 rfl rfl
theorem fo113_2 : FO Tryz.prog 113 2 2 1 false := FO.of Tryz.underlying113 rfl rfl (by kernel_rfl) Tryz.underlying111 rfl rfl

def DropQ (N d : Nat) (c : C) (k : Str8) (B : Frag) (r : Value) (B' : Frag) (H' : HP) : Prop := B' = B ∧ ∃ c' t, r = .bool t ∧ H' = tr (d + 1) c' ∧ DropR N d c k c' t ∧ (t = false → c' = c)
abbrev DropC (N d : Nat) (c : C) (k : Str8) (B : Frag) : Prop := Ct Tryz.prog 67 [.pointer (some ⟨c.b, 0, none⟩), str k] B (tr (d + 1) c) (DropQ N d c k B)

set_option maxHeartbeats 4000000 in
theorem drop_step (N d : Nat) (hN : N ≤ 90) (c : C) (k : Str8) (B : Frag) (hok : Ok N (d + 1) c) (hmn : Mn (d + 1) c) (ho : Ord (io (d + 1) c)) (hsk : Srt c.ks) (hp : c.cs ≠ [] → 1 ≤ c.ks.length) (ih : ∀ (h : lb c.ks k < c.cs.length), ∃ d2, d = d2 + 1 ∧ DropC 7 d2 c.cs[lb c.ks k] k B) (il : ∀ (h : lb c.ks k < c.cs.length), ∃ d2, d = d2 + 1 ∧ LastC 7 d2 c.cs[lb c.ks k] B) : DropC N d c k B := by
  have hlbn : lb c.ks k ≤ c.ks.length := lb_le _ _
  have hvl := hok.1
  have hcl := hok.2.2.1
  have h7 := hok.2.1
  obtain ⟨b, Ak, ck, Av, cv, Ac, cc, ks, vs, cs⟩ := c
  unfold DropC
  simp only [C.b, C.ks, C.vs, C.cs] at h7 hlbn hvl hcl hsk hp ih il ⊢
  refine Ct.of_body Tryz.func67 rfl (nt := 93) rfl (by kernel_rfl) rfl ?_
  intro N0 w0 R
  rw [tr_succ]
  simp only [star_assoc, nrow, kbuf, vbuf, cbuf, ncells, C.b, C.Ak, C.ck, C.Av, C.cv, C.Ac, C.cc, C.ks, C.vs, C.cs]
  refine Cx.seq (fun K1 k1 => ?_)
  refine Cx.region ?_
  refine Lx.y (asg rfl) rfl ?_
  refine Lx.nil ?_
  refine Xx.tn (k1 _ _ _ _ ?_)
  refine Cx.seq (fun K2 k2 => ?_)
  refine Cx.region ?_
  refine Lx.y (mv rfl) rfl ?_
  refine Lx.y (nilc rfl) rfl ?_
  refine Lx.y (fa' fo113_0 rfl) rfl ?_
  refine Lx.y (ld Tryz.underlying23 rfl rfl rfl) rfl ?_
  refine Lx.y (mv rfl) rfl ?_
  refine Lx.co rfl rfl rfl (BSo_ct ks k Ak ck ks.length _ rfl hsk (by omega)) (pickS _) rfl ?_
  refine Lx.y (mv rfl) rfl ?_
  refine Lx.y (ext rfl rfl) rfl ?_
  refine Lx.y (ext rfl rfl) rfl ?_
  refine Lx.y (asg rfl) rfl ?_
  refine Lx.y (asg rfl) rfl ?_
  refine Lx.nil ?_
  refine Xx.tn (k2 _ _ _ _ ?_)
  refine Cx.seq (fun K3 k3 => ?_)
  refine Cx.block ?_
  refine Cx.seq (fun K4 k4 => ?_)
  refine Cx.region ?_
  refine Lx.y (mv rfl) rfl ?_
  refine Lx.y (nilc rfl) rfl ?_
  refine Lx.y (fa' fo113_2 rfl) rfl ?_
  refine Lx.y (ld Tryz.underlying111 rfl rfl rfl) rfl ?_
  refine Lx.y (lenV (ty' := 0) Tryz.underlying111 rfl) rfl ?_
  refine Lx.y (eqI rfl rfl) rfl ?_
  refine Lx.y (mv rfl) rfl ?_
  refine Xx.ifD (t := 32) rfl (fun h5 => ?_) (fun h5 => ?_)
  · skip
    have hz := h5
    have hc0 : cs = [] := List.length_eq_zero_iff.1 (by omega)
    subst hc0
    refine Lx.gT rfl rfl rfl ?_
    refine Lx.y (mv rfl) rfl ?_
    refine Lx.y (pickT rfl rfl) rfl ?_
    refine Lx.y (asg rfl) rfl ?_
    refine Lx.nil ?_
    refine Xx.tn (k4 _ _ _ _ ?_)
    refine Cx.condB rfl (fun h6 => ?_) (fun h6 => ?_)
    · skip
      have hin : k ∈ ks := of_decide_eq_true h6
      obtain ⟨hlt, hat⟩ := lb_mem hsk hin
      refine Cx.seq (fun K7 k7 => ?_)
      refine Cx.drawn (by kernel_rfl) ?_
      refine Dx.p (i := 0) rfl (by kernel_rfl) (mv rfl) rfl ?_
      refine Dx.p (i := 1) rfl (by kernel_rfl) (mv rfl) rfl ?_
      refine Dx.p (i := 2) rfl (by kernel_rfl) (mv rfl) rfl ?_
      refine Dx.p (i := 3) rfl (by kernel_rfl) (nilc rfl) rfl ?_
      refine Dx.p (i := 4) rfl (by kernel_rfl) (fa' fo113_0 rfl) rfl ?_
      refine Dx.r (i := 5) rfl (by kernel_rfl) (ld Tryz.underlying23 rfl rfl rfl) rfl ?_
      refine Dx.p (i := 6) rfl (by kernel_rfl) (mv rfl) rfl ?_
      refine Dx.p (i := 7) rfl (by kernel_rfl) (mv rfl) rfl ?_
      refine Dx.p (i := 8) rfl (by kernel_rfl) (Yx.val (add rfl rfl (by first | exact wrap64 (by omega) (by omega) | rfl)) (show _ = i64 ((lb ks k + 1 : Nat) : Int) from rfl)) rfl ?_
      refine Dx.p (i := 10) rfl (by kernel_rfl) (mv rfl) rfl ?_
      refine Dx.p (i := 11) rfl (by kernel_rfl) (nilc rfl) rfl ?_
      refine Dx.p (i := 12) rfl (by kernel_rfl) (fa' fo113_1 rfl) rfl ?_
      refine Dx.r (i := 13) rfl (by kernel_rfl) (ld Tryz.underlying23 rfl rfl rfl) rfl ?_
      refine Dx.p (i := 14) rfl (by kernel_rfl) (mv rfl) rfl ?_
      refine Dx.p (i := 15) rfl (by kernel_rfl) (mv rfl) rfl ?_
      refine Dx.p (i := 16) rfl (by kernel_rfl) (Yx.val (add rfl rfl (by first | exact wrap64 (by omega) (by omega) | rfl)) (show _ = i64 ((lb ks k + 1 : Nat) : Int) from rfl)) rfl ?_
      refine Dx.one (i := 9) (by kernel_rfl) ?_
      refine Dstep.o (i := 9) rfl (Ox.call rfl rfl rfl (Del_ct Ak (lb ks k) (ks.length) ck (ks.map str) _ (by omega) (by simp) (strs_all _) (by omega)) (pickS _)) rfl (fun v B' H' hΦ hB => ?_)
      obtain ⟨_, rfl, hΦ⟩ := hΦ
      obtain ⟨rfl, hBB, rfl⟩ := hΦ
      subst hBB
      rename Frag => B
      clear hB
      refine ⟨JOk.yes (JOk.edge (JOk.top) (by kernel_rfl)) (ld Tryz.underlying23 rfl rfl rfl), ?_⟩
      refine Dx.one (i := 17) (by kernel_rfl) ?_
      refine Dstep.o (i := 17) rfl (Ox.call rfl rfl rfl (Del_ct Av (lb ks k) (vs.length) cv (vs.map str) _ (by omega) (by simp) (strs_all _) (by omega)) (pickS _)) rfl (fun v B' H' hΦ hB => ?_)
      obtain ⟨_, rfl, hΦ⟩ := hΦ
      obtain ⟨rfl, hBB, rfl⟩ := hΦ
      subst hBB
      rename Frag => B
      clear hB
      refine ⟨JOk.edge (JOk.yes (JOk.top) (ld Tryz.underlying23 rfl rfl rfl)) (by kernel_rfl), ?_⟩
      refine Dx.p (i := 18) rfl (by kernel_rfl) (nilc rfl) rfl ?_
      refine Dx.p (i := 19) rfl (by kernel_rfl) (fa' fo113_0 rfl) rfl ?_
      refine Dx.one (i := 20) (by kernel_rfl) ?_
      refine Dstep.o0 (i := 20) rfl (stO Tryz.underlying23 sz23 rfl rfl rfl (by simp) rfl) (fun v B' H' hΦ hB => ?_)
      obtain ⟨rfl, rfl⟩ := hΦ; clear hB v
      refine ⟨JOk.edge (JOk.edge (JOk.top) (by kernel_rfl)) (by kernel_rfl), ?_⟩
      refine Dx.p (i := 21) rfl (by kernel_rfl) (nilc rfl) rfl ?_
      refine Dx.p (i := 22) rfl (by kernel_rfl) (fa' fo113_1 rfl) rfl ?_
      refine Dx.one (i := 23) (by kernel_rfl) ?_
      refine Dstep.o0 (i := 23) rfl (stO Tryz.underlying23 sz23 rfl rfl rfl (by simp) rfl) (fun v B' H' hΦ hB => ?_)
      obtain ⟨rfl, rfl⟩ := hΦ; clear hB v
      refine ⟨JOk.edge (JOk.edge (JOk.top) (by kernel_rfl)) (by kernel_rfl), ?_⟩
      refine Dx.done (by kernel_rfl) ?_
      refine Xx.tn (k7 _ _ _ _ ?_)
      refine Cx.seq (fun K8 k8 => ?_)
      refine Cx.region ?_
      refine Lx.y (asg rfl) rfl ?_
      refine Lx.nil ?_
      refine Xx.tn (k8 _ _ _ _ ?_)
      refine Cx.ret ?_
      refine Xx.br ?_
      refine Xx.tr ?_
      exact Xx.ret1 rfl rfl ⟨rfl, .mk b Ak ck Av cv Ac cc (ks.take (lb ks k) ++ ks.drop (lb ks k + 1)) (vs.take (lb ks k) ++ vs.drop (lb ks k + 1)) [], true, rfl, rfl, leaf_drop hok hmn ho rfl hin rfl rfl rfl rfl, fun h9 => by cases h9⟩ (Frag.le_refl _) (by rw [← fold_tr, show (ks.take (lb ks k) ++ ks.drop (lb ks k + 1)).length = ks.length - 1 by simp; omega, show (vs.take (lb ks k) ++ vs.drop (lb ks k + 1)).length = vs.length - 1 by simp; omega]; simp only [List.map_append, List.map_take, List.map_drop]; ac_rfl)
    · skip
      have hin : k ∉ ks := of_decide_eq_false h6
      refine Cx.seq (fun K9 k9 => ?_)
      refine Cx.region ?_
      refine Lx.y (mv rfl) rfl ?_
      refine Lx.y (nilc rfl) rfl ?_
      refine Lx.y (fa' fo113_2 rfl) rfl ?_
      refine Lx.y (ld Tryz.underlying111 rfl rfl rfl) rfl ?_
      refine Lx.y (lenV (ty' := 0) Tryz.underlying111 rfl) rfl ?_
      refine Lx.y (eqI rfl rfl) rfl ?_
      refine Lx.y (asg rfl) rfl ?_
      refine Lx.nil ?_
      refine Xx.tn (k9 _ _ _ _ ?_)
      refine Cx.condD rfl (fun h10 => ?_) (fun h10 => ?_)
      · skip
        skip
        refine Cx.seq (fun K11 k11 => ?_)
        refine Cx.region ?_
        refine Lx.y (asg rfl) rfl ?_
        refine Lx.nil ?_
        refine Xx.tn (k11 _ _ _ _ ?_)
        refine Cx.ret ?_
        refine Xx.br ?_
        refine Xx.tr ?_
        exact Xx.ret1 rfl rfl ⟨rfl, .mk b Ak ck Av cv Ac cc ks vs [], false, rfl, rfl, leaf_keep hok hmn rfl hin, fun _ => rfl⟩ (Frag.le_refl _) (by rw [← fold_tr])
      · skip
        exact absurd rfl h10
  · skip
    have hz := h5
    have hcl2 : cs.length = ks.length + 1 := by rcases hcl with h | h; rw [h] at hz; simp at hz; exact h
    have hci : lb ks k < cs.length := by omega
    refine Xx.addrT Ac (by omega) (fun bC hAc _ _ => ?_)
    subst hAc
    have hk1 : 1 ≤ ks.length := hp (fun e => by rw [e] at hci; simp at hci)
    refine Lx.gF rfl rfl rfl rfl ?_
    refine Lx.y (pickF rfl rfl) rfl ?_
    refine Lx.y (asg rfl) rfl ?_
    refine Lx.nil ?_
    refine Xx.tn (k4 _ _ _ _ ?_)
    refine Cx.condF rfl ?_
    refine Cx.seq (fun K12 k12 => ?_)
    refine Cx.region ?_
    refine Lx.y (mv rfl) rfl ?_
    refine Lx.y (nilc rfl) rfl ?_
    refine Lx.y (fa' fo113_2 rfl) rfl ?_
    refine Lx.y (ld Tryz.underlying111 rfl rfl rfl) rfl ?_
    refine Lx.y (lenV (ty' := 0) Tryz.underlying111 rfl) rfl ?_
    refine Lx.y (eqI rfl rfl) rfl ?_
    refine Lx.y (asg rfl) rfl ?_
    refine Lx.nil ?_
    refine Xx.tn (k12 _ _ _ _ ?_)
    refine Cx.condD rfl (fun h13 => ?_) (fun h13 => ?_)
    · skip
      exact absurd h13 (by omega)
    · skip
      skip
      refine Cx.seq (fun K14 k14 => ?_)
      refine Cx.region ?_
      refine Lx.y (mv rfl) rfl ?_
      refine Lx.y (asg rfl) rfl ?_
      refine Lx.nil ?_
      refine Xx.tn (k14 _ _ _ _ ?_)
      refine Cx.condB rfl (fun h15 => ?_) (fun h15 => ?_)
      · skip
        have hin : k ∈ ks := of_decide_eq_true h15
        obtain ⟨hlt, hat⟩ := lb_mem hsk hin
        obtain ⟨d2, hd2, hlast⟩ := il hci
        subst hd2
        refine Xx.openT Ak (by omega) (fun bK spK hAk hkx hkc hkcl => ?_)
        subst hAk
        refine Xx.openT Av (by omega) (fun bV spV hAv hvx hvc hvcl => ?_)
        subst hAv
        refine Cx.drawn (by kernel_rfl) ?_
        refine Dx.p (i := 0) rfl (by kernel_rfl) (mv rfl) rfl ?_
        refine Dx.p (i := 1) rfl (by kernel_rfl) (nilc rfl) rfl ?_
        refine Dx.p (i := 2) rfl (by kernel_rfl) (fa' fo113_0 rfl) rfl ?_
        refine Dx.r (i := 3) rfl (by kernel_rfl) (ld Tryz.underlying23 rfl rfl rfl) rfl ?_
        refine Dx.p (i := 4) rfl (by kernel_rfl) (mv rfl) rfl ?_
        refine Dx.p (i := 5) rfl (by kernel_rfl) (mv rfl) rfl ?_
        refine Dx.p (i := 6) rfl (by kernel_rfl) (nilc rfl) rfl ?_
        refine Dx.p (i := 7) rfl (by kernel_rfl) (fa' fo113_1 rfl) rfl ?_
        refine Dx.r (i := 8) rfl (by kernel_rfl) (ld Tryz.underlying23 rfl rfl rfl) rfl ?_
        refine Dx.p (i := 9) rfl (by kernel_rfl) (mv rfl) rfl ?_
        refine Dx.p (i := 10) rfl (by kernel_rfl) (mv rfl) rfl ?_
        refine Dx.p (i := 11) rfl (by kernel_rfl) (nilc rfl) rfl ?_
        refine Dx.p (i := 12) rfl (by kernel_rfl) (fa' fo113_2 rfl) rfl ?_
        refine Dx.r (i := 13) rfl (by kernel_rfl) (ld Tryz.underlying111 rfl rfl rfl) rfl ?_
        refine Dx.p (i := 14) rfl (by kernel_rfl) (mv rfl) rfl ?_
        refine Dx.p (i := 15) rfl (by kernel_rfl) (ia Tryz.underlying111 sz110 rfl rfl (by first | exact Int.toNat_natCast _ | rfl) (by omega) (by omega)) rfl ?_
        refine Dx.r (i := 16) rfl (by kernel_rfl) (ldC Tryz.underlying110 rfl rfl (Cells.buf (m := 1) (kid_at hci) (by rw [List.length_map]; omega))) rfl ?_
        refine Dx.one (i := 17) (by kernel_rfl) ?_
        refine Dstep.o (i := 17) rfl (Ox.call rfl rfl rfl (hlast) (fold_kid hci)) rfl (fun v B' H' hΦ hB => ?_)
        obtain ⟨_, rfl, hΦ⟩ := hΦ
        obtain ⟨hBB, kid2, lk9, lv9, rfl, rfl, hkr⟩ := hΦ
        subst hBB
        rename Frag => B
        clear hB
        refine ⟨JOk.edge (JOk.yes (JOk.yes (JOk.yes (JOk.top) (ld Tryz.underlying23 rfl rfl rfl)) (ld Tryz.underlying23 rfl rfl rfl)) (ld Tryz.underlying111 rfl rfl rfl)) (by kernel_rfl), ?_⟩
        refine Dx.p (i := 18) rfl (by kernel_rfl) (mv rfl) rfl ?_
        refine Dx.p (i := 19) rfl (by kernel_rfl) (ext rfl rfl) rfl ?_
        refine Dx.p (i := 20) rfl (by kernel_rfl) (ext rfl rfl) rfl ?_
        refine Dx.p (i := 21) rfl (by kernel_rfl) (ia Tryz.underlying23 sz9 rfl rfl (Int.toNat_natCast _) (by omega) (by omega)) rfl ?_
        refine Dx.one (i := 22) (by kernel_rfl) ?_
        refine Dstep.o0 (i := 22) rfl (stO Tryz.underlying9 sz9 rfl rfl rfl (by rw [List.length_append, List.length_map]; omega) (frc_gen _ _)) (fun v B' H' hΦ hB => ?_)
        obtain ⟨rfl, rfl⟩ := hΦ; clear hB v
        refine ⟨JOk.edge (JOk.edge (JOk.edge (JOk.edge (JOk.top) (by kernel_rfl)) (by kernel_rfl)) (by kernel_rfl)) (by kernel_rfl), ?_⟩
        refine Dx.p (i := 23) rfl (by kernel_rfl) (ia Tryz.underlying23 sz9 rfl rfl (Int.toNat_natCast _) (by omega) (by omega)) rfl ?_
        refine Dx.one (i := 24) (by kernel_rfl) ?_
        refine Dstep.o0 (i := 24) rfl (stO Tryz.underlying9 sz9 rfl rfl rfl (by rw [List.length_append, List.length_map]; omega) (frc_gen _ _)) (fun v B' H' hΦ hB => ?_)
        obtain ⟨rfl, rfl⟩ := hΦ; clear hB v
        refine ⟨JOk.edge (JOk.edge (JOk.edge (JOk.edge (JOk.top) (by kernel_rfl)) (by kernel_rfl)) (by kernel_rfl)) (by kernel_rfl), ?_⟩
        refine Dx.done (by kernel_rfl) ?_
        refine Xx.bn ?_
        refine Xx.tn (k3 _ _ _ _ ?_)
        refine Cx.seq (fun K16 k16 => ?_)
        refine Xx.closeT bK ((ks.set (lb ks k) lk9).map str) spK 1 ks.length ck (set_str (by omega)) (by simp) hkc (by rw [List.length_append, List.length_map, List.length_set]; rw [List.length_append, List.length_map] at hkcl; exact hkcl) ?_
        refine Xx.closeT bV ((vs.set (lb ks k) lv9).map str) spV 1 vs.length cv (set_str (by omega)) (by simp) hvc (by rw [List.length_append, List.length_map, List.length_set]; rw [List.length_append, List.length_map] at hvcl; exact hvcl) ?_
        obtain ⟨x1, x2, x3, x4⟩ := here_drop (x := (.mk b (some ⟨bK, 0, none⟩) ck (some ⟨bV, 0, none⟩) cv (some ⟨bC, 0, none⟩) cc (ks.set (lb ks k) lk9) (vs.set (lb ks k) lv9) (cs.set (lb ks k) kid2))) hok hmn ho hin hci hkr rfl rfl rfl
        refine Cx.region ?_
        refine Lx.y (mv rfl) rfl ?_
        refine Lx.y (mv rfl) rfl ?_
        refine Lx.c rfl rfl rfl (mend_ct N d2 hN (.mk b (some ⟨bK, 0, none⟩) ck (some ⟨bV, 0, none⟩) cv (some ⟨bC, 0, none⟩) cc (ks.set (lb ks k) lk9) (vs.set (lb ks k) lv9) (cs.set (lb ks k) kid2)) (lb ks k) _ (by show lb ks k < (cs.set _ _).length; rw [List.length_set]; exact hci) x1 x2 (show 1 ≤ (ks.set _ _).length by rw [List.length_set]; exact hk1)) ((show _ = tr (d2 + 2) (.mk b (some ⟨bK, 0, none⟩) ck (some ⟨bV, 0, none⟩) cv (some ⟨bC, 0, none⟩) cc (ks.set (lb ks k) lk9) (vs.set (lb ks k) lv9) (cs.set (lb ks k) kid2)) * R by rw [← fold_tr, trs_set _ hci, pts_set hkr.1, List.length_set, List.length_set, List.length_set]; ac_rfl)) rfl ?_
        rintro v1 B1 H1 ⟨rfl, hBB, c2, rfl, hm, hsm⟩ hB1
        subst hBB
        rename Frag => B
        clear hB1
        refine Lx.nil ?_
        refine Xx.tn (k16 _ _ _ _ ?_)
        refine Cx.seq (fun K17 k17 => ?_)
        refine Cx.region ?_
        refine Lx.y (mv rfl) rfl ?_
        refine Lx.y (asg rfl) rfl ?_
        refine Lx.nil ?_
        refine Xx.tn (k17 _ _ _ _ ?_)
        refine Cx.ret ?_
        exact Xx.ret1 rfl rfl ⟨rfl, c2, decide (k ∈ ks), rfl, rfl, by rw [decide_eq_true hin]; exact DropR.of (x := (.mk b (some ⟨bK, 0, none⟩) ck (some ⟨bV, 0, none⟩) cv (some ⟨bC, 0, none⟩) cc (ks.set (lb ks k) lk9) (vs.set (lb ks k) lv9) (cs.set (lb ks k) kid2))) rfl ⟨x3, x4⟩ (by show (ks.set _ _).length = ks.length; rw [List.length_set]) hm, fun h9 => absurd h9 (by simp [hin])⟩ (Frag.le_refl _) rfl
      · skip
        have hin : k ∉ ks := of_decide_eq_false h15
        obtain ⟨d2, hd2, hdrop⟩ := ih hci
        subst hd2
        refine Cx.region ?_
        refine Lx.y (mv rfl) rfl ?_
        refine Lx.y (nilc rfl) rfl ?_
        refine Lx.y (fa' fo113_2 rfl) rfl ?_
        refine Lx.y (ld Tryz.underlying111 rfl rfl rfl) rfl ?_
        refine Lx.y (mv rfl) rfl ?_
        refine Lx.y (ia Tryz.underlying111 sz110 rfl rfl (by first | exact Int.toNat_natCast _ | rfl) (by omega) (by omega)) rfl ?_
        refine Lx.y (ldC Tryz.underlying110 rfl rfl (Cells.buf (m := 1) (kid_at hci) (by rw [List.length_map]; omega))) rfl ?_
        refine Lx.y (mv rfl) rfl ?_
        refine Lx.c rfl rfl rfl (hdrop) (fold_kid hci) rfl ?_
        rintro r B1 H1 ⟨hBB, kid2, tv, rfl, rfl, hkr, hks⟩ hB1
        subst hBB
        rename Frag => B
        clear hB1
        refine Lx.y (asg rfl) rfl ?_
        refine Lx.nil ?_
        refine Xx.bn ?_
        refine Xx.tn (k3 _ _ _ _ ?_)
        refine Cx.seq (fun K18 k18 => ?_)
        obtain ⟨x1, x2, x3, x4⟩ := kid_drop (x := (.mk b Ak ck Av cv (some ⟨bC, 0, none⟩) cc ks vs (cs.set (lb ks k) kid2))) hok hmn ho hin hci hkr rfl rfl rfl
        refine Cx.region ?_
        refine Lx.y (mv rfl) rfl ?_
        refine Lx.y (mv rfl) rfl ?_
        refine Lx.c rfl rfl rfl (mend_ct N d2 hN (.mk b Ak ck Av cv (some ⟨bC, 0, none⟩) cc ks vs (cs.set (lb ks k) kid2)) (lb ks k) _ (by show lb ks k < (cs.set _ _).length; rw [List.length_set]; exact hci) x1 x2 hk1) ((show _ = tr (d2 + 2) (.mk b Ak ck Av cv (some ⟨bC, 0, none⟩) cc ks vs (cs.set (lb ks k) kid2)) * R by rw [← fold_tr, trs_set _ hci, pts_set hkr.1, List.length_set]; ac_rfl)) rfl ?_
        rintro v1 B1 H1 ⟨rfl, hBB, c2, rfl, hm, hsm⟩ hB1
        subst hBB
        rename Frag => B
        clear hB1
        refine Lx.nil ?_
        refine Xx.tn (k18 _ _ _ _ ?_)
        refine Cx.seq (fun K19 k19 => ?_)
        refine Cx.region ?_
        refine Lx.y (mv rfl) rfl ?_
        refine Lx.y (asg rfl) rfl ?_
        refine Lx.nil ?_
        refine Xx.tn (k19 _ _ _ _ ?_)
        refine Cx.ret ?_
        exact Xx.ret1 rfl rfl ⟨rfl, c2, tv, rfl, rfl, DropR.of (x := (.mk b Ak ck Av cv (some ⟨bC, 0, none⟩) cc ks vs (cs.set (lb ks k) kid2))) rfl ⟨x3, x4⟩ rfl hm, fun h9 => by
          have e9 := hks h9
          have e8 : (C.mk b Ak ck Av cv (some ⟨bC, 0, none⟩) cc ks vs (cs.set (lb ks k) kid2)) = C.mk b Ak ck Av cv (some ⟨bC, 0, none⟩) cc ks vs cs := by rw [e9, List.set_getElem_self]
          rw [hsm (by show 3 ≤ ((cs.set (lb ks k) kid2)[lb ks k]'_).ks.length; rw [List.getElem_set_self, e9]; exact (hmn.2 _ (List.getElem_mem hci)).1)]; exact e8⟩ (Frag.le_refl _) rfl

theorem drop_ct (N : Nat) (hN : N ≤ 90) (k : Str8) (B : Frag) : ∀ (d : Nat) (c : C) (M : Nat), M ≤ N → 7 ≤ N → Ok M (d + 1) c → Mn (d + 1) c → Ord (io (d + 1) c) → (d = 0 ∨ 1 ≤ c.ks.length) → DropC M d c k B := by
  intro d
  induction d with
  | zero =>
    intro c M hM h7 hok hmn ho hp
    have hz : ∀ (h : lb c.ks k < c.cs.length), False := fun h => hok.2.2.2 _ (List.getElem_mem h)
    refine drop_step M 0 (by omega) c k B hok hmn ho (srt_of hok ho) (fun h => ?_) (fun h => (hz h).elim) (fun h => (hz h).elim)
    cases hc : c.cs with
    | nil => exact absurd hc h
    | cons p l => exact (hok.2.2.2 p (by rw [hc]; simp)).elim
  | succ d ih =>
    intro c M hM h7 hok hmn ho hp
    have hp1 : 1 ≤ c.ks.length := by rcases hp with h | h; cases h; exact h
    refine drop_step M (d + 1) (by omega) c k B hok hmn ho (srt_of hok ho) (fun _ => hp1) (fun h => ⟨d, rfl, ?_⟩) (fun h => ⟨d, rfl, ?_⟩)
    · have hk := hok.2.2.2 _ (List.getElem_mem h)
      have hm := hmn.2 _ (List.getElem_mem h)
      have hcl : c.cs.length = c.ks.length + 1 := by rcases hok.2.2.1 with z | z; rw [z] at h; simp at h; exact z
      exact ih _ 7 h7 h7 (Ok.of1 hk) hm.2 (kid_ord hok ho hcl h) (.inr (by omega))
    · have hk := hok.2.2.2 _ (List.getElem_mem h)
      have hm := hmn.2 _ (List.getElem_mem h)
      exact last_ct N hN B d _ 7 h7 h7 (Ok.of1 hk) hm.2 (by omega)
end DrE
end Go.Proofs.YtdidpocakipinaaGreatDoor

/-
  A key goes out of a tree.
-/
namespace Go.Proofs.YtdidpocakipinaaGreatDoor
open Go.SL Go.RowKit
set_option linter.unusedVariables false
set_option linter.unusedSimpArgs false
set_option maxRecDepth 100000
open Ke1 Ke3 Ke4 Ke5 Ke6 Ke7 Ke8 Ke9 KeA KeB KeC KeD KeE KeF KeG KeI RgA BtB BtC BtD BtE BtG BtX BtH BtI BtF BtJ BtK BtL BtM BtN BtO BtR BtY BtZ DrA DrB DrC DrD DrE
namespace DrF
theorem sz3 : (Tryz.prog.info? 3).map (·.size) = some 1 := by kernel_rfl
theorem sz110 : (Tryz.prog.info? 110).map (·.size) = some 1 := by kernel_rfl
theorem fo113_0 : FO Tryz.prog 113 0 0 1 false := FO.of Tryz.underlying113 rfl rfl (by kernel_rfl) Tryz.underlying23 rfl rfl
theorem fo113_2 : FO Tryz.prog 113 2 2 1 false := FO.of Tryz.underlying113 rfl rfl (by kernel_rfl) Tryz.underlying111 rfl rfl
theorem fo115_0 : FO Tryz.prog 115 0 0 1 false := FO.of Tryz.underlying115 rfl rfl (by kernel_rfl) Tryz.underlying110 rfl rfl
theorem fo115_1 : FO Tryz.prog 115 1 1 1 false := FO.of Tryz.underlying115 rfl rfl (by kernel_rfl) Tryz.underlying3 rfl rfl

theorem delP_len {k : Str8} {l : List (Str8 × Str8)} (ho : Ord l) : (delP k l).length = if k ∈ l.map (·.1) then l.length - 1 else l.length := by
  induction l with
  | nil => simp [delP]
  | cons p l ih =>
    obtain ⟨h1, h2⟩ := List.pairwise_cons.1 ho
    unfold delP
    by_cases he : p.1 = k
    · have hn : ∀ q ∈ l, q.1 ≠ k := fun q hq e => by have := h1 q hq; rw [he, e, bless_irrefl] at this; cases this
      rw [List.filter_cons_of_neg (by simp [he]), show List.filter (fun p => decide (p.1 ≠ k)) l = l from delP_same hn, if_pos (by simp [he])]; rfl
    · rw [List.filter_cons_of_pos (by simp [he])]
      have h3 : k ∈ (p :: l).map (·.1) ↔ k ∈ l.map (·.1) := by
        rw [List.map_cons, List.mem_cons]
        exact ⟨fun h => h.resolve_left (fun e => he e.symm), .inr⟩
      have h4 := ih h2
      unfold delP at h4
      rw [List.length_cons, h4]
      by_cases hk : k ∈ l.map (·.1)
      · rw [if_pos hk, if_pos (h3.2 hk)]
        have : l ≠ [] := fun e => by rw [e] at hk; cases hk
        have := List.length_pos_iff.2 this
        simp; omega
      · rw [if_neg hk, if_neg (fun h => hk (h3.1 h))]; rfl
theorem root_cells {N0 d tb : Nat} {B : Frag} {R : HP} {vs : List Value} {c : C} : Cells N0 B (row tb 115 vs * (tr (d + 1) c * R)) c.b (0 + 2) [.slice c.Ac c.cs.length c.cc] := by
  refine under ?_
  rw [tr_succ, star_assoc]
  exact Cells.own (n := 1) rfl rfl
theorem kid0_cells {N0 d tb bC : Nat} {B : Frag} {R : HP} {vs : List Value} {c : C} (hA : c.Ac = some ⟨bC, 0, none⟩) (h : 0 < c.cs.length) : Cells N0 B (row tb 115 vs * (tr (d + 1) c * R)) bC (0 + 0 * 1) [pt c.cs[0]] := by
  refine under ?_
  rw [tr_succ, star_assoc]
  refine under ?_
  simp only [star_assoc]
  refine under (under ?_)
  show Cells N0 B (sbuf 110 1 c.Ac c.cs.length c.cc (c.cs.map pt) * _) bC (0 + 0 * 1) [pt c.cs[0]]
  rw [hA]
  exact Cells.buf (m := 1) (kid_at h) (by rw [List.length_map]; omega)
/-- where the root's kids lie -/
theorem kids_at {e : Env} {ds : List Deferred} {K : Act → World → Prop} {ρ : Sl} {B : Frag} {R : HP} {d tb : Nat} {vs : List Value} {c : C} (h0 : 0 < c.cs.length) (h : ∀ bC, c.Ac = some ⟨bC, 0, none⟩ → Xx e ds K ρ B (row tb 115 vs * (tr (d + 1) c * R))) : Xx e ds K ρ B (row tb 115 vs * (tr (d + 1) c * R)) := by
  refine Xx.perm (H' := cbuf c * (row tb 115 vs * (nrow c * (kbuf c * (vbuf c * (trs (tr d) c.cs * R)))))) ?_ (by rw [tr_succ]; ac_rfl)
  refine Xx.addrT c.Ac (by simpa using h0) (fun bC hA _ _ => ?_)
  exact Xx.perm (h bC hA) (by rw [tr_succ]; ac_rfl)
theorem root_one {f : C → List (Str8 × Str8)} {ks vs : List Str8} {cs : List C} (h1 : ks.length = 0) (h2 : vs.length = 0) (h3 : cs.length = 1) : ioL f ks vs cs = f (cs[0]'(by omega)) := by
  obtain rfl := List.length_eq_zero_iff.1 h1
  obtain rfl := List.length_eq_zero_iff.1 h2
  obtain ⟨c, rfl⟩ := List.length_eq_one_iff.1 h3
  rfl
theorem trs_one (f : C → HP) {cs : List C} (h3 : cs.length = 1) : trs f cs = f (cs[0]'(by omega)) := by
  obtain ⟨c, rfl⟩ := List.length_eq_one_iff.1 h3
  show f c * 1 = f c
  exact star_one _
/-- how a tree must be, for keys to go -/
def Tr90 (d : Nat) (c : C) : Prop := Ok 90 (d + 1) c ∧ Mn (d + 1) c ∧ Ord (io (d + 1) c) ∧ (d = 0 ∨ 1 ≤ c.ks.length)
def DropT (d : Nat) (c : C) (tb : Nat) (k : Str8) (B : Frag) (r : Value) (B' : Frag) (H' : HP) : Prop := B' = B ∧ ∃ d' c', r = .bool (decide (k ∈ (io (d + 1) c).map (·.1))) ∧ H' = tree tb d' c' ∧ Tr90 d' c' ∧ io (d' + 1) c' = delP k (io (d + 1) c)

set_option maxHeartbeats 4000000 in
theorem Drop_ct (d : Nat) (c : C) (tb : Nat) (k : Str8) (B : Frag) (ht : Tr90 d c) (hlen : (io (d + 1) c).length ≤ 80) : Ct Tryz.prog 41 [.pointer (some ⟨tb, 0, none⟩), str k] B (tree tb d c) (DropT d c tb k B) := by
  obtain ⟨hok, hmn, ho, hp⟩ := ht
  have hdl := delP_len (k := k) ho
  refine Ct.of_body Tryz.func41 rfl (nt := 55) rfl (by kernel_rfl) rfl ?_
  intro N0 w0 R
  rw [star_assoc]
  refine Cx.seq (fun K1 k1 => ?_)
  refine Cx.region ?_
  refine Lx.y (asg rfl) rfl ?_
  refine Lx.nil ?_
  refine Xx.tn (k1 _ _ _ _ ?_)
  refine Cx.seq (fun K2 k2 => ?_)
  refine Cx.seq (fun K3 k3 => ?_)
  refine Cx.region ?_
  refine Lx.y (mv rfl) rfl ?_
  refine Lx.y (Yx.ff (eqNilP Tryz.underlying83 rfl rfl) rfl) rfl ?_
  refine Lx.y (mv rfl) rfl ?_
  refine Lx.gT rfl rfl rfl ?_
  refine Lx.y (mv rfl) rfl ?_
  refine Lx.gT rfl rfl rfl ?_
  refine Lx.y (nilc rfl) rfl ?_
  refine Lx.gT rfl rfl rfl ?_
  refine Lx.y (fa' fo115_0 rfl) rfl ?_
  refine Lx.gT rfl rfl rfl ?_
  refine Lx.y (ld Tryz.underlying110 rfl rfl rfl) rfl ?_
  refine Lx.gT rfl rfl rfl ?_
  refine Lx.y (mv rfl) rfl ?_
  refine Lx.gT rfl rfl rfl ?_
  refine Lx.c rfl rfl rfl (drop_ct 90 (by decide) k _ d c 90 (by decide) (by decide) hok hmn ho hp) (star_left _ _ _) rfl ?_
  rintro r B1 H1 ⟨hBB, c2, tv, rfl, rfl, ⟨q1, q2, q3, q4, q5, q6, q7⟩, q8⟩ hB1
  subst hBB
  rename Frag => B
  clear hB1
  have hpt : pt c = pt c2 := by unfold pt; rw [q1]
  refine Lx.gT rfl rfl rfl ?_
  refine Lx.y (not' rfl) rfl ?_
  refine Lx.y (pickF rfl rfl) rfl ?_
  refine Lx.nil ?_
  refine Xx.tn (k3 _ _ _ _ ?_)
  refine Cx.condB rfl (fun h4 => ?_) (fun h4 => ?_)
  · skip
    have htv : tv = false := by simpa using h4
    have e8 := q8 htv
    refine Cx.seq (fun K5 k5 => ?_)
    refine Cx.region ?_
    refine Lx.y (asg rfl) rfl ?_
    refine Lx.nil ?_
    refine Xx.tn (k5 _ _ _ _ ?_)
    refine Cx.ret ?_
    refine Xx.tr ?_
    exact Xx.ret1 rfl rfl ⟨rfl, d, c, by rw [← q5, htv], rfl, ⟨hok, hmn, ho, hp⟩, by rw [e8] at q4; exact q4⟩ (Frag.le_refl _) (by rw [e8]; unfold tree; ac_rfl)
  · skip
    have htv : tv = true := by simpa using h4
    have hin : k ∈ (io (d + 1) c).map (·.1) := of_decide_eq_true (q5.symm.trans htv)
    rw [if_pos hin] at hdl
    have hpos : 0 < (io (d + 1) c).length := by have := List.length_pos_of_mem hin; rw [List.length_map] at this; exact this
    rw [star_left]
    refine Cx.skip ?_
    refine Xx.tn (k2 _ _ _ _ ?_)
    refine Cx.seq (fun K6 k6 => ?_)
    refine Cx.region ?_
    refine Lx.y (mv rfl) rfl ?_
    refine Lx.y (nilc rfl) rfl ?_
    refine Lx.y (fa' fo115_1 rfl) rfl ?_
    refine Lx.y (ld Tryz.underlying3 rfl rfl rfl) rfl ?_
    refine Lx.y (Yx.val (sub rfl rfl (show IntKind.i64.wrap _ = (((io (d + 1) c).length - 1 : Nat) : Int) by rw [wrap64 (by omega) (by omega)]; omega)) (show _ = i64 (((io (d + 1) c).length - 1 : Nat) : Int) from rfl)) rfl ?_
    refine Lx.y (nilc rfl) rfl ?_
    refine Lx.y (fa' fo115_1 rfl) rfl ?_
    refine Lx.st (stO Tryz.underlying3 sz3 rfl rfl rfl (by simp) rfl) ?_
    refine Lx.nil ?_
    refine Xx.tn (k6 _ _ _ _ ?_)
    refine Cx.seq (fun K7 k7 => ?_)
    refine Cx.seq (fun K8 k8 => ?_)
    rw [hpt]
    have hl2 : (io (d + 1) c2).length = (io (d + 1) c).length - 1 := by rw [q4]; exact hdl
    have ho2 : Ord (io (d + 1) c2) := by rw [q4]; exact delP_ord ho
    refine Cx.region ?_
    refine Lx.y (mv rfl) rfl ?_
    refine Lx.y (nilc rfl) rfl ?_
    refine Lx.y (fa' fo115_0 rfl) rfl ?_
    refine Lx.y (ld Tryz.underlying110 rfl rfl rfl) rfl ?_
    refine Lx.y (nilc rfl) rfl ?_
    refine Lx.y (fa' fo113_0 rfl) rfl ?_
    refine Lx.y (ldC Tryz.underlying23 rfl rfl root_keys) rfl ?_
    refine Lx.y (lenV (ty' := 0) Tryz.underlying23 rfl) rfl ?_
    refine Lx.y (eqI rfl rfl) rfl ?_
    refine Lx.y (mv rfl) rfl ?_
    refine Xx.ifD (t := 32) rfl (fun h9 => ?_) (fun h9 => ?_)
    · skip
      have h0k := h9
      have h0k : c2.ks.length = 0 := by omega
      refine Lx.gT rfl rfl rfl ?_
      refine Lx.y (mv rfl) rfl ?_
      refine Lx.gT rfl rfl rfl ?_
      refine Lx.y (nilc rfl) rfl ?_
      refine Lx.gT rfl rfl rfl ?_
      refine Lx.y (fa' fo115_0 rfl) rfl ?_
      refine Lx.gT rfl rfl rfl ?_
      refine Lx.y (ld Tryz.underlying110 rfl rfl rfl) rfl ?_
      refine Lx.gT rfl rfl rfl ?_
      refine Lx.y (nilc rfl) rfl ?_
      refine Lx.gT rfl rfl rfl ?_
      refine Lx.y (fa' fo113_2 rfl) rfl ?_
      refine Lx.gT rfl rfl rfl ?_
      refine Lx.y (ldC Tryz.underlying111 rfl rfl root_cells) rfl ?_
      refine Lx.gT rfl rfl rfl ?_
      refine Lx.y (lenV (ty' := 0) Tryz.underlying111 rfl) rfl ?_
      refine Lx.gT rfl rfl rfl ?_
      refine Lx.y (gtr rfl rfl) rfl ?_
      refine Lx.y (pickT rfl rfl) rfl ?_
      refine Lx.nil ?_
      refine Xx.tn (k8 _ _ _ _ ?_)
      refine Cx.condD rfl (fun h10 => ?_) (fun h10 => ?_)
      · skip
        have hck := h10
        have hck : 0 < c2.cs.length := by omega
        refine kids_at hck (fun bC hAc => ?_)
        obtain ⟨d2, hd2⟩ : ∃ d2, d = d2 + 1 := ⟨d - 1, by have := q3.1.2; cases d with | zero => rw [q3.1.2 rfl] at hck; simp at hck | succ d => rfl⟩
        subst hd2
        refine Cx.region ?_
        refine Lx.y (mv rfl) rfl ?_
        refine Lx.y (mv rfl) rfl ?_
        refine Lx.y (nilc rfl) rfl ?_
        refine Lx.y (fa' fo115_0 rfl) rfl ?_
        refine Lx.y (ld Tryz.underlying110 rfl rfl rfl) rfl ?_
        refine Lx.y (nilc rfl) rfl ?_
        refine Lx.y (fa' fo113_2 rfl) rfl ?_
        refine Lx.y (Yx.val (ldC Tryz.underlying111 rfl rfl root_cells) (show _ = Value.slice (some ⟨bC, 0, none⟩) c2.cs.length c2.cc by rw [hAc])) rfl ?_
        refine Lx.y (ia Tryz.underlying111 sz110 rfl rfl (show Int.toNat _ = 0 from rfl) (by omega) (by omega)) rfl ?_
        refine Lx.y (ldC Tryz.underlying110 rfl rfl (kid0_cells hAc hck)) rfl ?_
        refine Lx.y (nilc rfl) rfl ?_
        refine Lx.y (fa' fo115_0 rfl) rfl ?_
        refine Lx.st (stO Tryz.underlying110 sz110 rfl rfl rfl (by simp) rfl) ?_
        refine Lx.nil ?_
        refine Xx.tn (k7 _ _ _ _ ?_)
        refine Cx.seq (fun K11 k11 => ?_)
        refine Cx.region ?_
        refine Lx.y (asg rfl) rfl ?_
        refine Lx.nil ?_
        refine Xx.tn (k11 _ _ _ _ ?_)
        refine Cx.ret ?_
        have h3 := q3.2 _ (List.getElem_mem hck)
        have hc1 : c2.cs.length = 1 := by rcases q2.2.2.1 with z | z; rw [z] at hck; simp at hck; omega
        have hi3 : io (d2 + 2) c2 = io (d2 + 1) c2.cs[0] := root_one h0k (by rw [q2.1]; exact h0k) hc1
        refine Xx.perm (H' := nd c2 * (tree tb d2 c2.cs[0] * R)) ?_ (by rw [tr_nd, trs_one _ hc1]; unfold tree; rw [← hl2, hi3]; ac_rfl)
        refine Xx.drop ?_
        exact Xx.ret1 rfl rfl ⟨rfl, d2, c2.cs[0], by rw [← q5, htv], rfl, ⟨(Ok.of1 (q2.2.2.2 _ (List.getElem_mem hck))).le (by decide), h3.2, by rw [← hi3]; exact ho2, .inr (by omega)⟩, by rw [← hi3]; exact q4⟩ (Frag.le_refl _) rfl
      · skip
        have hck := h10
        have hck : c2.cs.length = 0 := by omega
        refine Cx.skip ?_
        refine Xx.tn (k7 _ _ _ _ ?_)
        refine Cx.seq (fun K12 k12 => ?_)
        refine Cx.region ?_
        refine Lx.y (asg rfl) rfl ?_
        refine Lx.nil ?_
        refine Xx.tn (k12 _ _ _ _ ?_)
        refine Cx.ret ?_
        exact Xx.ret1 rfl rfl ⟨rfl, d, c2, by rw [← q5, htv], rfl, ⟨q2, q3, ho2, .inl (q3.1.1 (List.length_eq_zero_iff.1 hck))⟩, q4⟩ (Frag.le_refl _) (by unfold tree; rw [hl2]; ac_rfl)
    · skip
      have h0k := h9
      have h0k : c2.ks.length ≠ 0 := by omega
      refine Lx.gF rfl rfl rfl rfl ?_
      refine Lx.gF rfl rfl rfl rfl ?_
      refine Lx.gF rfl rfl rfl rfl ?_
      refine Lx.gF rfl rfl rfl rfl ?_
      refine Lx.gF rfl rfl rfl rfl ?_
      refine Lx.gF rfl rfl rfl rfl ?_
      refine Lx.gF rfl rfl rfl rfl ?_
      refine Lx.gF rfl rfl rfl rfl ?_
      refine Lx.gF rfl rfl rfl rfl ?_
      refine Lx.y (pickF rfl rfl) rfl ?_
      refine Lx.nil ?_
      refine Xx.tn (k8 _ _ _ _ ?_)
      refine Cx.condF rfl ?_
      refine Cx.skip ?_
      refine Xx.tn (k7 _ _ _ _ ?_)
      refine Cx.seq (fun K13 k13 => ?_)
      refine Cx.region ?_
      refine Lx.y (asg rfl) rfl ?_
      refine Lx.nil ?_
      refine Xx.tn (k13 _ _ _ _ ?_)
      refine Cx.ret ?_
      exact Xx.ret1 rfl rfl ⟨rfl, d, c2, by rw [← q5, htv], rfl, ⟨q2, q3, ho2, .inr (by omega)⟩, q4⟩ (Frag.le_refl _) (by unfold tree; rw [hl2]; ac_rfl)
end DrF
end Go.Proofs.YtdidpocakipinaaGreatDoor

/-
  A struct of one name and a number.
-/
namespace Go.Proofs.YtdidpocakipinaaGreatDoor
open Go.SL Go.RowKit
set_option linter.unusedVariables false
set_option linter.unusedSimpArgs false
set_option maxRecDepth 100000
open Ke1 Ke3 Ke4 Ke5 Ke6 Ke7 Ke8 Ke9 KeA KeB KeC KeD KeE KeF KeG KeI RgA
namespace RgB
theorem sz9 : (Tryz.prog.info? 9).map (·.size) = some 1 := by kernel_rfl
theorem sz22 : (Tryz.prog.info? 22).map (·.size) = some 1 := by kernel_rfl
theorem sz23 : (Tryz.prog.info? 23).map (·.size) = some 1 := by kernel_rfl
theorem sz25 : (Tryz.prog.info? 25).map (·.size) = some 6 := by kernel_rfl
theorem sz76 : (Tryz.prog.info? 76).map (·.size) = some 7 := by kernel_rfl
theorem ti9 : TI Tryz.prog 9 [str []] 1 16 := TI.of (by kernel_rfl) rfl rfl
theorem ti25 : TI Tryz.prog 25 [.int .i64 0, .bool false, .int .i64 0, str [], .slice none 0 0, .slice none 0 0] 6 88 := TI.of (by kernel_rfl) rfl rfl
theorem ti76 : TI Tryz.prog 76 [str [], .int .i64 0, .bool false, .int .i64 0, str [], .slice none 0 0, .slice none 0 0] 7 104 := TI.of (by kernel_rfl) rfl rfl
theorem fo25_4 : FO Tryz.prog 25 4 4 1 false := FO.of Tryz.underlying25 rfl rfl (by kernel_rfl) Tryz.underlying22 rfl rfl
theorem fo25_5 : FO Tryz.prog 25 5 5 1 false := FO.of Tryz.underlying25 rfl rfl (by kernel_rfl) Tryz.underlying23 rfl rfl
theorem fo76_0 : FO Tryz.prog 76 0 0 1 false := FO.of Tryz.underlying76 rfl rfl (by kernel_rfl) Tryz.underlying9 rfl rfl
theorem fo76_1 : FO Tryz.prog 76 1 1 6 true := FO.of Tryz.underlying76 rfl rfl (by kernel_rfl) Tryz.underlying25 rfl rfl
theorem pl25 : PL Tryz.prog 25 [(0, 1), (1, 1), (2, 1), (3, 1), (4, 1), (5, 1)] := PL.of Tryz.underlying25 (by kernel_rfl)
theorem pl76 : PL Tryz.prog 76 [(0, 1), (1, 6)] := PL.of Tryz.underlying76 (by kernel_rfl)

set_option maxHeartbeats 1000000 in
theorem InsF_end (A : Option Addr) (n c : Nat) (xs : List Value) (vb : Nat) (etv : TypeId) (news : List Value) (B : Frag) (hns : news.length = 7) (hn1 : news.all (·.oneCell') = true) (hbd : (n + 1) * 104 ≤ 140737488355328) : Ct Tryz.prog 31 [.slice A n c, i64 (n : Nat), .slice (some ⟨vb, 0, none⟩) 1 1] B (sbuf 76 7 A n c xs * row vb etv news) (fun v B' H' => ∃ A' c', v = .slice A' (n + 1) c' ∧ B' = B ∧ H' = sbuf 76 7 A' (n + 1) c' (xs ++ news) ∧ (∃ b, A' = some ⟨b, 0, none⟩) ∧ n + 1 ≤ c') := by
  refine Ct.of_body Tryz.func31 rfl (nt := 95) rfl (by kernel_rfl) rfl ?_
  intro N0 w0 R
  rw [star_assoc]
  refine Cx.seq (fun K1 k1 => ?_)
  refine Cx.region ?_
  refine Lx.y (asg rfl) rfl ?_
  refine Lx.nil ?_
  refine Xx.tn (k1 _ _ _ _ ?_)
  refine Cx.seq (fun K2 k2 => ?_)
  refine Cx.region ?_
  refine Lx.y (mv rfl) rfl ?_
  refine Lx.y (mv rfl) rfl ?_
  refine Lx.y (sl1V Tryz.underlying72 sz76 rfl rfl (Int.toNat_natCast _) (by omega) (by omega)) rfl ?_
  refine Lx.nil ?_
  refine Xx.tn (k2 _ _ _ _ ?_)
  refine Cx.seq (fun K3 k3 => ?_)
  refine Cx.region ?_
  refine Lx.y (mv rfl) rfl ?_
  refine Lx.y (lenV (ty' := 0) Tryz.underlying72 rfl) rfl ?_
  refine Lx.y (asg rfl) rfl ?_
  refine Lx.nil ?_
  refine Xx.tn (k3 _ _ _ _ ?_)
  refine Cx.seq (fun K4 k4 => ?_)
  refine Cx.seq (fun K5 k5 => ?_)
  refine Cx.region ?_
  refine Lx.y (mv rfl) rfl ?_
  refine Lx.y (eqI rfl rfl) rfl ?_
  refine Lx.nil ?_
  refine Xx.tn (k5 _ _ _ _ ?_)
  refine Cx.condD rfl (fun h6 => ?_) (fun h6 => ?_)
  · skip
    exact absurd h6 (by decide)
  · skip
    refine Cx.skip ?_
    refine Xx.tn (k4 _ _ _ _ ?_)
    refine Cx.seq (fun K7 k7 => ?_)
    refine Cx.region ?_
    refine Lx.y (mv rfl) rfl ?_
    refine Lx.y (lenV (ty' := 0) Tryz.underlying72 rfl) rfl ?_
    refine Lx.y (asg rfl) rfl ?_
    refine Lx.nil ?_
    refine Xx.tn (k7 _ _ _ _ ?_)
    refine Cx.seq (fun K8 k8 => ?_)
    refine Cx.seq (fun K9 k9 => ?_)
    refine Cx.region ?_
    refine Lx.y (mv rfl) rfl ?_
    refine Lx.y (mv rfl) rfl ?_
    refine Lx.y (eqI rfl rfl) rfl ?_
    refine Lx.nil ?_
    refine Xx.tn (k9 _ _ _ _ ?_)
    refine Cx.condD rfl (fun h10 => ?_) (fun h10 => ?_)
    · skip
      refine Cx.seq (fun K11 k11 => ?_)
      refine Cx.region ?_
      refine Lx.y (mv rfl) rfl ?_
      refine Lx.y (mv rfl) rfl ?_
      refine Lx.o (appN (et := 76) (n + 1) news (xs ++ news) Tryz.underlying72 Tryz.underlying72 ti76 rfl rfl (by rw [hns]) (by rw [List.drop_zero, List.take_of_length_le (by omega)]) hn1 (by omega) (by omega) rfl rfl) rfl (fun v B' H' hΦ hB => ?_)
      obtain ⟨A3, c3, rfl, hA3, hl3, hc3, hBB, rfl⟩ := hΦ
      obtain rfl := hBB.symm
      clear hB
      refine Lx.y (asg rfl) rfl ?_
      refine Lx.nil ?_
      refine Xx.tn (k11 _ _ _ _ ?_)
      refine Cx.ret ?_
      refine Xx.tr ?_
      exact Xx.dropB vb (Xx.ret1 rfl rfl ⟨A3, c3, rfl, rfl, rfl, hA3 (by omega), hc3⟩ (Frag.le_refl _) rfl)
    · skip
      exact absurd rfl h10

set_option maxHeartbeats 1000000 in
theorem InsF_mid (b : Nat) (sp : List Value) (i n c : Nat) (xs : List Value) (vb : Nat) (etv : TypeId) (news : List Value) (B : Frag) (hi : i < n) (hxl : xs.length = n * 7) (hnc : n ≤ c) (hcl : (xs ++ sp).length = c * 7) (hx1 : xs.all (·.oneCell') = true) (hns : news.length = 7) (hn1 : news.all (·.oneCell') = true) (hbd : (n + 1) * 104 ≤ 140737488355328) : Ct Tryz.prog 31 [.slice (some ⟨b, 0, none⟩) n c, i64 (i : Nat), .slice (some ⟨vb, 0, none⟩) 1 1] B (row vb etv news * row b 76 (xs ++ sp)) (fun v B' H' => ∃ b' c' sp', v = .slice (some ⟨b', 0, none⟩) (n + 1) c' ∧ B' = B ∧ H' = row b' 76 (xs.take (i * 7) ++ news ++ xs.drop (i * 7) ++ sp') ∧ (xs.take (i * 7) ++ news ++ xs.drop (i * 7) ++ sp').length = c' * 7 ∧ n + 1 ≤ c') := by
  have hxl2 := hcl
  rw [List.length_append] at hxl2
  have hDl : (xs.drop (i * 7)).length = (n - i) * 7 := by rw [List.length_drop]; omega
  have hD1 : (xs.drop (i * 7)).all (·.oneCell') = true := by rw [List.all_eq_true] at hx1 ⊢; exact fun v hv => hx1 v (List.mem_of_mem_drop hv)
  have hTl : (xs.take (i * 7)).length = i * 7 := by rw [List.length_take]; omega
  refine Ct.of_body Tryz.func31 rfl (nt := 95) rfl (by kernel_rfl) rfl ?_
  intro N0 w0 R
  rw [star_assoc]
  refine Cx.seq (fun K1 k1 => ?_)
  refine Cx.region ?_
  refine Lx.y (asg rfl) rfl ?_
  refine Lx.nil ?_
  refine Xx.tn (k1 _ _ _ _ ?_)
  refine Cx.seq (fun K2 k2 => ?_)
  refine Cx.region ?_
  refine Lx.y (mv rfl) rfl ?_
  refine Lx.y (mv rfl) rfl ?_
  refine Lx.y (sl1V Tryz.underlying72 sz76 rfl rfl (Int.toNat_natCast _) (by omega) (by omega)) rfl ?_
  refine Lx.nil ?_
  refine Xx.tn (k2 _ _ _ _ ?_)
  refine Cx.seq (fun K3 k3 => ?_)
  refine Cx.region ?_
  refine Lx.y (mv rfl) rfl ?_
  refine Lx.y (lenV (ty' := 0) Tryz.underlying72 rfl) rfl ?_
  refine Lx.y (asg rfl) rfl ?_
  refine Lx.nil ?_
  refine Xx.tn (k3 _ _ _ _ ?_)
  refine Cx.seq (fun K4 k4 => ?_)
  refine Cx.seq (fun K5 k5 => ?_)
  refine Cx.region ?_
  refine Lx.y (mv rfl) rfl ?_
  refine Lx.y (eqI rfl rfl) rfl ?_
  refine Lx.nil ?_
  refine Xx.tn (k5 _ _ _ _ ?_)
  refine Cx.condD rfl (fun h6 => ?_) (fun h6 => ?_)
  · skip
    exact absurd h6 (by decide)
  · skip
    refine Cx.skip ?_
    refine Xx.tn (k4 _ _ _ _ ?_)
    refine Cx.seq (fun K7 k7 => ?_)
    refine Cx.region ?_
    refine Lx.y (mv rfl) rfl ?_
    refine Lx.y (lenV (ty' := 0) Tryz.underlying72 rfl) rfl ?_
    refine Lx.y (asg rfl) rfl ?_
    refine Lx.nil ?_
    refine Xx.tn (k7 _ _ _ _ ?_)
    refine Cx.seq (fun K8 k8 => ?_)
    refine Cx.seq (fun K9 k9 => ?_)
    refine Cx.region ?_
    refine Lx.y (mv rfl) rfl ?_
    refine Lx.y (mv rfl) rfl ?_
    refine Lx.y (eqI rfl rfl) rfl ?_
    refine Lx.nil ?_
    refine Xx.tn (k9 _ _ _ _ ?_)
    refine Cx.condD rfl (fun h10 => ?_) (fun h10 => ?_)
    · skip
      exact absurd h10 (by omega)
    · skip
      refine Cx.skip ?_
      refine Xx.tn (k8 _ _ _ _ ?_)
      refine Cx.seq (fun K11 k11 => ?_)
      refine Cx.seq (fun K12 k12 => ?_)
      refine Cx.region ?_
      refine Lx.y (mv rfl) rfl ?_
      refine Lx.y (mv rfl) rfl ?_
      refine Lx.y (add rfl rfl (by first | exact wrap64 (by omega) (by omega) | rfl)) rfl ?_
      refine Lx.y (mv rfl) rfl ?_
      refine Lx.y (capV Tryz.underlying72 rfl) rfl ?_
      refine Lx.y (gtr rfl rfl) rfl ?_
      refine Lx.nil ?_
      refine Xx.tn (k12 _ _ _ _ ?_)
      refine Cx.condD rfl (fun h13 => ?_) (fun h13 => ?_)
      · skip
        have hno := h13
        refine Cx.seq (fun K14 k14 => ?_)
        refine Cx.region ?_
        refine Lx.y (mv rfl) rfl ?_
        refine Lx.y (mv rfl) rfl ?_
        refine Lx.y (sl2V Tryz.underlying72 sz76 rfl rfl (Int.toNat_natCast _) (by omega) (by omega)) rfl ?_
        refine Lx.y (mv rfl) rfl ?_
        refine Lx.y (mv rfl) rfl ?_
        refine Lx.y (add rfl rfl (by first | exact wrap64 (by omega) (by omega) | rfl)) rfl ?_
        refine Lx.y (mv rfl) rfl ?_
        refine Lx.y (sub rfl rfl (show IntKind.i64.wrap _ = ((n + 1 - i : Nat) : Int) by rw [wrap64 (by omega) (by omega)]; omega)) rfl ?_
        refine Lx.o (amO (olds := xs.take (i * 7)) (m := n + 1 - i) Tryz.underlying72 Tryz.underlying3 ti76 rfl rfl (SrcH.own (b := b) (o := 0) (i * 7) (by rw [List.drop_zero]; exact List.take_append_of_le_length (by omega))) hTl (by omega) (by omega) (by rw [show i + (n + 1 - i) = n + 1 by omega]; exact hbd)) rfl (fun v B' H' hΦ hB => ?_)
        obtain ⟨b9, c9, rest, rfl, hc9, hrl, hBB, rfl⟩ := hΦ
        obtain rfl := hBB.symm
        clear hB
        rw [show i + (n + 1 - i) = n + 1 by omega] at hc9 ⊢
        refine Lx.y (asg rfl) rfl ?_
        refine Lx.nil ?_
        refine Xx.tn (k14 _ _ _ _ ?_)
        refine Cx.seq (fun K15 k15 => ?_)
        refine Cx.region ?_
        refine Lx.y (mv rfl) rfl ?_
        refine Lx.y (mv rfl) rfl ?_
        refine Lx.y (sl1A i Tryz.underlying72 sz76 rfl rfl rfl (by omega) (by omega)) rfl ?_
        refine Lx.y (mv rfl) rfl ?_
        refine Lx.o (cpO (cs' := (xs.take (i * 7) ++ news ++ rest.drop 7)) 1 Tryz.underlying72 sz76 rfl rfl (show Nat.min _ _ = _ by first | rfl | (simp only [Nat.min_def]; split <;> omega)) (SrcH.own (b := vb) (o := 0) (news := news) 7 (by rw [List.drop_zero, List.take_of_length_le (by omega)])) (by rw [hns]) hn1 (by rw [Nat.zero_add, List.length_append, hTl]; omega) (by rw [Nat.zero_add]; exact ins_grow1 hTl hns (by omega))) rfl (fun v B' H' hΦ hB => ?_)
        obtain ⟨rfl, hBB, rfl⟩ := hΦ
        obtain rfl := hBB.symm
        clear hB
        refine Lx.nil ?_
        refine Xx.tn (k15 _ _ _ _ ?_)
        refine Cx.seq (fun K16 k16 => ?_)
        refine Cx.drawn (by kernel_rfl) ?_
        refine Dx.p (i := 0) rfl (by kernel_rfl) (mv rfl) rfl ?_
        refine Dx.p (i := 1) rfl (by kernel_rfl) (mv rfl) rfl ?_
        refine Dx.p (i := 2) rfl (by kernel_rfl) (mv rfl) rfl ?_
        refine Dx.p (i := 3) rfl (by kernel_rfl) (add rfl rfl (show IntKind.i64.wrap _ = ((i + 1 : Nat) : Int) by rw [wrap64 (by omega) (by omega)]; rfl)) rfl ?_
        refine Dx.p (i := 4) rfl (by kernel_rfl) (sl1A (i + 1) Tryz.underlying72 sz76 rfl rfl rfl (by omega) (by omega)) rfl ?_
        refine Dx.p (i := 5) rfl (by kernel_rfl) (mv rfl) rfl ?_
        refine Dx.p (i := 6) rfl (by kernel_rfl) (mv rfl) rfl ?_
        refine Dx.p (i := 7) rfl (by kernel_rfl) (sl1A i Tryz.underlying72 sz76 rfl rfl rfl (by omega) (by omega)) rfl ?_
        refine Dx.one (i := 8) (by kernel_rfl) ?_
        refine Dstep.o (i := 8) rfl (cpO (cs' := (xs.take (i * 7) ++ news ++ xs.drop (i * 7) ++ (rest.drop 7).drop (xs.drop (i * 7)).length)) (n - i) Tryz.underlying72 sz76 rfl rfl (show Nat.min _ _ = _ by first | rfl | (simp only [Nat.min_def]; split <;> omega)) (SrcH.own (b := b) (o := 0 + i * 7) (news := xs.drop (i * 7)) ((n - i) * 7) (by rw [Nat.zero_add, List.drop_append_of_le_length (by omega), List.take_append_of_le_length (by omega), List.take_of_length_le (by omega)])) hDl hD1 (by simp only [List.length_append, List.length_drop, hTl, hns, hDl]; omega) (by rw [Nat.zero_add, show (i + 1) * 7 = i * 7 + 7 by omega]; exact ins_grow2 hTl hns)) rfl (fun v B' H' hΦ hB => ?_)
        obtain ⟨rfl, rfl, rfl⟩ := hΦ
        clear hB
        refine ⟨JOk.top, ?_⟩
        refine Dx.done (by kernel_rfl) ?_
        refine Xx.tn (k16 _ _ _ _ ?_)
        refine Cx.seq (fun K17 k17 => ?_)
        refine Cx.region ?_
        refine Lx.y (mv rfl) rfl ?_
        refine Lx.y (asg rfl) rfl ?_
        refine Lx.nil ?_
        refine Xx.tn (k17 _ _ _ _ ?_)
        refine Cx.ret ?_
        refine Xx.tr ?_
        exact Xx.dropB vb (Xx.dropB b (Xx.ret1 rfl rfl ⟨b9, c9, _, rfl, rfl, rfl, by simp only [List.length_append, List.length_drop, hTl, hns, hDl]; omega, hc9⟩ (Frag.le_refl _) rfl))
      · skip
        have hno := h13
        refine Cx.skip ?_
        refine Xx.tn (k11 _ _ _ _ ?_)
        refine Cx.seq (fun K18 k18 => ?_)
        refine Cx.region ?_
        refine Lx.y (mv rfl) rfl ?_
        refine Lx.y (mv rfl) rfl ?_
        refine Lx.y (mv rfl) rfl ?_
        refine Lx.y (add rfl rfl (show IntKind.i64.wrap _ = ((n + 1 : Nat) : Int) by rw [wrap64 (by omega) (by omega)]; rfl)) rfl ?_
        refine Lx.y (sl2V Tryz.underlying72 sz76 rfl rfl (Int.toNat_natCast _) (by omega) (by omega)) rfl ?_
        refine Lx.y (asg rfl) rfl ?_
        refine Lx.nil ?_
        refine Xx.tn (k18 _ _ _ _ ?_)
        refine Cx.seq (fun K19 k19 => ?_)
        refine Cx.seq (fun K20 k20 => ?_)
        refine Cx.region ?_
        refine Lx.y (mv rfl) rfl ?_
        refine Lx.y (mv rfl) rfl ?_
        refine Lx.y (mv rfl) rfl ?_
        refine Lx.y (mv rfl) rfl ?_
        refine Lx.y (add rfl rfl (show IntKind.i64.wrap _ = ((i + 1 : Nat) : Int) by rw [wrap64 (by omega) (by omega)]; rfl)) rfl ?_
        refine Lx.y (sl1V Tryz.underlying72 sz76 rfl rfl (Int.toNat_natCast _) (by omega) (by omega)) rfl ?_
        rw [show subA (some ⟨b, 0, none⟩) c (i + 1) 7 = (if c = i + 1 then some ⟨b, 0, none⟩ else some ⟨b, 0 + (i + 1) * 7, none⟩) by unfold subA; split <;> simp [add_mk]]
        have hcne : ¬ c = i + 1 := by omega
        rw [if_neg hcne]
        refine Lx.y (extc rfl rfl (ovQ (tS := 72) (tR := 4) Tryz.func51 (by kernel_rfl) (by kernel_rfl) (by kernel_rfl) (by kernel_rfl) Tryz.underlying72 sz76 rfl (by intro z; have h9 := congrArg List.length z; rw [List.length_append, List.length_nil] at h9; omega))) rfl ?_
        refine Lx.y (not' rfl) rfl ?_
        refine Lx.nil ?_
        refine Xx.tn (k20 _ _ _ _ ?_)
        refine Cx.condT rfl ?_
        refine Cx.seq (fun K21 k21 => ?_)
        refine Cx.drawn (by kernel_rfl) ?_
        refine Dx.p (i := 0) rfl (by kernel_rfl) (mv rfl) rfl ?_
        refine Dx.p (i := 1) rfl (by kernel_rfl) (mv rfl) rfl ?_
        refine Dx.p (i := 2) rfl (by kernel_rfl) (mv rfl) rfl ?_
        refine Dx.p (i := 3) rfl (by kernel_rfl) (add rfl rfl (show IntKind.i64.wrap _ = ((i + 1 : Nat) : Int) by rw [wrap64 (by omega) (by omega)]; rfl)) rfl ?_
        refine Dx.p (i := 4) rfl (by kernel_rfl) (sl1A (i + 1) Tryz.underlying72 sz76 rfl rfl rfl (by omega) (by omega)) rfl ?_
        refine Dx.p (i := 5) rfl (by kernel_rfl) (mv rfl) rfl ?_
        refine Dx.p (i := 6) rfl (by kernel_rfl) (mv rfl) rfl ?_
        refine Dx.p (i := 7) rfl (by kernel_rfl) (sl1A i Tryz.underlying72 sz76 rfl rfl rfl (by omega) (by omega)) rfl ?_
        refine Dx.one (i := 8) (by kernel_rfl) ?_
        refine Dstep.o (i := 8) rfl (cpO (cs' := ((xs ++ sp).take (i * 7 + 7) ++ xs.drop (i * 7) ++ (xs ++ sp).drop ((n + 1) * 7))) (n - i) Tryz.underlying72 sz76 rfl rfl (show Nat.min _ _ = _ by first | rfl | (simp only [Nat.min_def]; split <;> omega)) (SrcH.own (b := b) (o := 0 + i * 7) (news := xs.drop (i * 7)) ((n - i) * 7) (by rw [Nat.zero_add, List.drop_append_of_le_length (by omega), List.take_append_of_le_length (by omega), List.take_of_length_le (by omega)])) hDl hD1 (by rw [List.length_append]; omega) (by rw [Nat.zero_add, hDl, show (i + 1) * 7 = i * 7 + 7 by omega, show i * 7 + 7 + (n - i) * 7 = (n + 1) * 7 by omega])) rfl (fun v B' H' hΦ hB => ?_)
        obtain ⟨rfl, rfl, rfl⟩ := hΦ
        clear hB
        refine ⟨JOk.top, ?_⟩
        refine Dx.done (by kernel_rfl) ?_
        refine Xx.tn (k21 _ _ _ _ ?_)
        refine Cx.seq (fun K22 k22 => ?_)
        refine Cx.region ?_
        refine Lx.y (mv rfl) rfl ?_
        refine Lx.y (mv rfl) rfl ?_
        refine Lx.y (sl1A i Tryz.underlying72 sz76 rfl rfl rfl (by omega) (by omega)) rfl ?_
        refine Lx.y (mv rfl) rfl ?_
        refine Lx.o (cpO (cs' := (xs.take (i * 7) ++ news ++ xs.drop (i * 7) ++ (xs ++ sp).drop ((n + 1) * 7))) 1 Tryz.underlying72 sz76 rfl rfl (show Nat.min _ _ = _ by first | rfl | (simp only [Nat.min_def]; split <;> omega)) (SrcH.own (b := vb) (o := 0) (news := news) 7 (by rw [List.drop_zero, List.take_of_length_le (by omega)])) (by rw [hns]) hn1 (by simp only [List.length_append, List.length_take, List.length_drop, hDl]; omega) (by rw [Nat.zero_add]; exact ins_room (by omega) hns (by rw [List.length_append]; omega) (List.take_append_of_le_length (by omega)) rfl (by omega))) rfl (fun v B' H' hΦ hB => ?_)
        obtain ⟨rfl, hBB, rfl⟩ := hΦ
        obtain rfl := hBB.symm
        clear hB
        refine Lx.nil ?_
        refine Xx.tn (k22 _ _ _ _ ?_)
        refine Cx.seq (fun K23 k23 => ?_)
        refine Cx.region ?_
        refine Lx.y (mv rfl) rfl ?_
        refine Lx.y (asg rfl) rfl ?_
        refine Lx.nil ?_
        refine Xx.tn (k23 _ _ _ _ ?_)
        refine Cx.ret ?_
        refine Xx.tr ?_
        exact Xx.dropB vb (Xx.ret1 rfl rfl ⟨b, c, _, rfl, rfl, rfl, by simp only [List.length_append, List.length_drop, hTl, hns, hDl]; omega, by omega⟩ (Frag.le_refl _) rfl)

theorem InsF_ct (A : Option Addr) (i n c : Nat) (xs : List Value) (vb : Nat) (etv : TypeId) (news : List Value) (B : Frag) (hi : i ≤ n) (hxl : xs.length = n * 7) (hx1 : xs.all (·.oneCell') = true) (hns : news.length = 7) (hn1 : news.all (·.oneCell') = true) (hbd : (n + 1) * 104 ≤ 140737488355328) :
    Ct Tryz.prog 31 [.slice A n c, i64 (i : Nat), .slice (some ⟨vb, 0, none⟩) 1 1] B (sbuf 76 7 A n c xs * row vb etv news) (fun v B' H' => ∃ A' c', v = .slice A' (n + 1) c' ∧ B' = B ∧ H' = sbuf 76 7 A' (n + 1) c' (xs.take (i * 7) ++ news ++ xs.drop (i * 7)) ∧ (∃ b, A' = some ⟨b, 0, none⟩) ∧ n + 1 ≤ c') := by
  by_cases h : i = n
  · subst h
    have h1 : xs.take (i * 7) = xs := List.take_of_length_le (by omega)
    have h2 : xs.drop (i * 7) = [] := List.drop_of_length_le (by omega)
    rw [h1, h2, List.append_nil]
    exact InsF_end A i c xs vb etv news B hns hn1 hbd
  · refine Ct.of_sbuf (by omega) (fun b sp hA hx hnc hcl => ?_) (Go.SL.enters_of Tryz.func31 rfl (by kernel_rfl))
    subst hA
    have hm := InsF_mid b sp i n c xs vb etv news B (by omega) hxl hnc hcl hx1 hns hn1 hbd
    refine ⟨hm.1, fun N0 w R s => (hm.2 N0 w R s).mono ?_⟩
    rintro x w' ⟨v, B', _, hx', ⟨b', c', sp', hv, hB, rfl, hl, hc'⟩, hBB, hb, s'⟩
    refine ⟨v, B', _, hx', ⟨some ⟨b', 0, none⟩, c', hv, hB, rfl, ⟨b', rfl⟩, hc'⟩, hBB, hb, row_sbuf ?_ hc' hl s'⟩
    simp only [List.length_append, List.length_take, List.length_drop, hns, hxl]; omega

def VA (n : Int) : V := .mk 6 false 0 [] [.mk 2 false n [] [] []] [[97]]
theorem VA_R {n : Int} {B3 B4 : Frag} {An Ap : Option Addr} {cn cp : Nat} (h1 : -9223372036854775808 ≤ n) (h2 : n ≤ 9223372036854775807) (hRo : RoS B3 6 Ap 1 [i64 2, .bool false, i64 n, str [], .slice none 0 0, .slice none 0 0]) (hRo4 : RoS B4 1 An 1 [str [97]]) (hB4 : B3.le B4) (hcn : 1 ≤ cn) (hcp : 1 ≤ cp) : ValR B4 2 (VA n) (vcs (VA n) Ap cp An cn) := by
  refine ValR.mk ⟨Nat.zero_le _, (show (-9223372036854775808 : Int) ≤ 0 by decide), (show (0 : Int) ≤ 9223372036854775807 by decide), hcn, hcp⟩ (show 1 ≤ 4611686018427387904 by decide) (show 1 ≤ 4611686018427387904 by decide) (RoS.roe hRo4) ?_ (hRo.mono hB4) ?_
  · intro x hx
    have h9 : x ∈ [[97]] := hx
    rw [List.mem_singleton.1 h9]; decide
  · intro k hk
    have hk2 : k < 1 := hk
    match k, hk2 with
    | 0, _ => exact (ValR.leaf ⟨by decide, h1, h2⟩ : ValR B4 1 (V.mk 2 false n [] [] []) (vcs (V.mk 2 false n [] [] []) none 0 none 0))

set_option maxHeartbeats 1000000 in
theorem BSF0_ct (t : List UInt8) (B : Frag) : CtP Tryz.prog 28 [.slice none 0 0, str t, .func (.func 29) #[] #[]] B (.tuple #[i64 0, .bool false]) := by
  refine CtB.of_body Tryz.func28 rfl (nt := 49) rfl (by kernel_rfl) rfl ?_
  intro N0 w0 R
  refine Cx.seq (fun K1 k1 => ?_)
  refine Cx.region ?_
  refine Lx.y (asg rfl) rfl ?_
  refine Lx.y (asg rfl) rfl ?_
  refine Lx.nil ?_
  refine Xx.tn (k1 _ _ _ _ ?_)
  refine Cx.seq (fun K2 k2 => ?_)
  refine Cx.region ?_
  refine Lx.y (mv rfl) rfl ?_
  refine Lx.y (lenV (ty' := 0) Tryz.underlying72 rfl) rfl ?_
  refine Lx.y (asg rfl) rfl ?_
  refine Lx.nil ?_
  refine Xx.tn (k2 _ _ _ _ ?_)
  refine Cx.seq (fun K3 k3 => ?_)
  refine Cx.region ?_
  refine Lx.y (mv rfl) rfl ?_
  refine Lx.y (asg rfl) rfl ?_
  refine Lx.y (asg rfl) rfl ?_
  refine Lx.nil ?_
  refine Xx.tn (k3 _ _ _ _ ?_)
  refine Cx.seq (fun K4 k4 => ?_)
  refine Cx.block ?_
  refine Cx.unroll (1) ?_
  refine Xx.rn ?_
  refine Cx.seq (fun K5 k5 => ?_)
  refine Cx.seq (fun K6 k6 => ?_)
  refine Cx.region ?_
  refine Lx.y (mv rfl) rfl ?_
  refine Lx.y (mv rfl) rfl ?_
  refine Lx.y (lss rfl rfl) rfl ?_
  refine Lx.nil ?_
  refine Xx.tn (k6 _ _ _ _ ?_)
  refine Cx.condD rfl (fun h7 => ?_) (fun h7 => ?_)
  · skip
    exact absurd h7 (by decide)
  · skip
    refine Cx.exit ?_
    refine Xx.te ?_
    refine Xx.te ?_
    refine Xx.bh ?_
    refine Xx.tn (k4 _ _ _ _ ?_)
    refine Cx.seq (fun K8 k8 => ?_)
    refine Cx.region ?_
    refine Lx.y (mv rfl) rfl ?_
    refine Lx.y (mv rfl) rfl ?_
    refine Lx.y (mv rfl) rfl ?_
    refine Lx.y (lss rfl rfl) rfl ?_
    refine Lx.y (mv rfl) rfl ?_
    refine Xx.ifD (t := 39) rfl (fun h9 => ?_) (fun h9 => ?_)
    · skip
      exact absurd h9 (by decide)
    · skip
      refine Lx.gF rfl rfl rfl rfl ?_
      refine Lx.gF rfl rfl rfl rfl ?_
      refine Lx.gF rfl rfl rfl rfl ?_
      refine Lx.gF rfl rfl rfl rfl ?_
      refine Lx.gF rfl rfl rfl rfl ?_
      refine Lx.gF rfl rfl rfl rfl ?_
      refine Lx.gF rfl rfl rfl rfl ?_
      refine Lx.gF rfl rfl rfl rfl ?_
      refine Lx.y (pickF rfl rfl) rfl ?_
      refine Lx.y (asg rfl) rfl ?_
      refine Lx.y (asg rfl) rfl ?_
      refine Lx.nil ?_
      refine Xx.tn (k8 _ _ _ _ ?_)
      refine Cx.ret ?_
      exact Xx.rB2 rfl rfl rfl ⟨rfl, rfl⟩ (Frag.le_refl _) rfl

set_option maxHeartbeats 2000000 in
theorem Struct1_ct (n : Int) (nb pb : Nat) (e1 e2 : TypeId) (f1 f2 : Nat × Nat) (B : Frag) (h1 : -9223372036854775808 ≤ n) (h2 : n ≤ 9223372036854775807) (hBn : B nb = some (.cells #[str [97]] e1 f1)) (hBp : B pb = some (.cells [i64 2, .bool false, i64 n, str [], .slice none 0 0, .slice none 0 0].toArray e2 f2)) : CtB Tryz.prog 7 [.slice (some ⟨nb, 0, none⟩) 1 1, .slice (some ⟨pb, 0, none⟩) 1 1] B (fun v B' => ∃ cs', v = .agg cs'.toArray ∧ ValR B' 2 (VA n) cs') := by
  refine CtB.of_body Tryz.func7 rfl (nt := 75) rfl (by kernel_rfl) rfl ?_
  intro N0 w0 R
  refine Cx.seq (fun K1 k1 => ?_)
  refine Cx.region ?_
  refine Lx.new (allocO ti25) rfl (fun b4 => ?_)
  refine Lx.nil ?_
  refine Xx.tn (k1 _ _ _ _ ?_)
  refine Cx.seq (fun K2 k2 => ?_)
  refine Cx.region ?_
  refine Lx.y (asg rfl) rfl ?_
  refine Lx.nil ?_
  refine Xx.tn (k2 _ _ _ _ ?_)
  refine Cx.seq (fun K3 k3 => ?_)
  refine Cx.seq (fun K4 k4 => ?_)
  refine Cx.region ?_
  refine Lx.y (mv rfl) rfl ?_
  refine Lx.y (Yx.val (lenV (ty' := 0) Tryz.underlying23 rfl) (show _ = i64 1 from rfl)) rfl ?_
  refine Lx.y (mv rfl) rfl ?_
  refine Lx.y (Yx.val (lenV (ty' := 0) Tryz.underlying22 rfl) (show _ = i64 1 from rfl)) rfl ?_
  refine Lx.y (Yx.val (minI rfl rfl) (show _ = i64 1 from rfl)) rfl ?_
  refine Lx.y (mv rfl) rfl ?_
  refine Lx.nil ?_
  refine Xx.tn (k4 _ _ _ _ ?_)
  refine Cx.block ?_
  refine Cx.unroll (2) ?_
  refine Xx.rn ?_
  refine Cx.seq (fun K5 k5 => ?_)
  refine Cx.region ?_
  refine Lx.y (Yx.tt (lss rfl rfl) (by decide)) rfl ?_
  refine Lx.nil ?_
  refine Xx.tn (k5 _ _ _ _ ?_)
  refine Cx.seq (fun K6 k6 => ?_)
  refine Cx.condT rfl ?_
  refine Cx.skip ?_
  refine Xx.tn (k6 _ _ _ _ ?_)
  refine Cx.seq (fun K7 k7 => ?_)
  refine Cx.block ?_
  refine Cx.seq (fun K8 k8 => ?_)
  refine Cx.region ?_
  refine Lx.y (mv rfl) rfl ?_
  refine Lx.y (asg rfl) rfl ?_
  refine Lx.nil ?_
  refine Xx.tn (k8 _ _ _ _ ?_)
  refine Cx.seq (fun K9 k9 => ?_)
  refine Cx.region ?_
  refine Lx.y (mv rfl) rfl ?_
  refine Lx.y (mv rfl) rfl ?_
  refine Lx.y (mv rfl) rfl ?_
  refine Lx.y (ia Tryz.underlying23 sz9 rfl rfl (show Int.toNat _ = 0 from rfl) (by decide) (by decide)) rfl ?_
  refine Lx.y (ldB Tryz.underlying9 rfl rfl hBn rfl) rfl ?_
  refine Lx.cp rfl rfl rfl (BSF0_ct [97] _) rfl ?_
  refine Lx.y (mv rfl) rfl ?_
  refine Lx.y (ext rfl rfl) rfl ?_
  refine Lx.y (ext rfl rfl) rfl ?_
  refine Lx.y (asg rfl) rfl ?_
  refine Lx.y (asg rfl) rfl ?_
  refine Lx.nil ?_
  refine Xx.tn (k9 _ _ _ _ ?_)
  refine Cx.seq (fun K10 k10 => ?_)
  refine Cx.seq (fun K11 k11 => ?_)
  refine Cx.region ?_
  refine Lx.y (mv rfl) rfl ?_
  refine Lx.nil ?_
  refine Xx.tn (k11 _ _ _ _ ?_)
  refine Cx.condF rfl ?_
  refine Cx.skip ?_
  refine Xx.tn (k10 _ _ _ _ ?_)
  refine Cx.drawn (by kernel_rfl) ?_
  refine Dx.p (i := 0) rfl (by kernel_rfl) (mv rfl) rfl ?_
  refine Dx.p (i := 1) rfl (by kernel_rfl) (mv rfl) rfl ?_
  refine Dx.p (i := 2) rfl (by kernel_rfl) (mv rfl) rfl ?_
  refine Dx.p (i := 3) rfl (by kernel_rfl) (mv rfl) rfl ?_
  refine Dx.p (i := 4) rfl (by kernel_rfl) (ia Tryz.underlying23 sz9 rfl rfl (show Int.toNat _ = 0 from rfl) (by decide) (by decide)) rfl ?_
  refine Dx.r (i := 5) rfl (by kernel_rfl) (ldB Tryz.underlying9 rfl rfl hBn rfl) rfl ?_
  refine Dx.p (i := 6) rfl (by kernel_rfl) (mv rfl) rfl ?_
  refine Dx.p (i := 7) rfl (by kernel_rfl) (mv rfl) rfl ?_
  refine Dx.p (i := 8) rfl (by kernel_rfl) (ia Tryz.underlying22 sz25 rfl rfl (show Int.toNat _ = 0 from rfl) (by decide) (by decide)) rfl ?_
  refine Dx.r (i := 9) rfl (by kernel_rfl) (ldA Tryz.underlying25 rfl sz25 rfl (Cells.base (n := 6) hBp rfl) rfl) rfl ?_
  refine Dx.p (i := 10) rfl (by kernel_rfl) (bld ti76 pl76 rfl rfl) rfl ?_
  refine Dx.one (i := 11) (by kernel_rfl) ?_
  refine Dstep.o (i := 11) rfl (bslA Tryz.underlying72 ti76 rfl rfl (by decide)) rfl (fun v B' H' hΦ hB => ?_)
  obtain ⟨b8, rfl, rfl, rfl⟩ := hΦ; clear hB
  refine ⟨JOk.yes (JOk.yes (JOk.top) (ldB Tryz.underlying9 rfl rfl hBn rfl)) (ldA Tryz.underlying25 rfl sz25 rfl (Cells.base (n := 6) hBp rfl) rfl), ?_⟩
  refine Dx.one (i := 12) (by kernel_rfl) ?_
  refine Dstep.o (i := 12) rfl (Ox.call rfl rfl rfl (InsF_ct none 0 0 0 [] b8 76 [str [97], i64 2, .bool false, i64 n, str [], .slice none 0 0, .slice none 0 0] _ (by decide) rfl rfl rfl rfl (by decide)) (by rw [sbuf_nil, one_star])) rfl (fun v B' H' hΦ hB => ?_)
  obtain ⟨_, rfl, hΦ⟩ := hΦ
  obtain ⟨A9, c9, rfl, hBB, rfl, ⟨bA, rfl⟩, hc9⟩ := hΦ
  subst hBB
  rename Frag => B
  clear hB
  refine ⟨JOk.yes (JOk.yes (JOk.top) (ldB Tryz.underlying9 rfl rfl hBn rfl)) (ldA Tryz.underlying25 rfl sz25 rfl (Cells.base (n := 6) hBp rfl) rfl), ?_⟩
  refine Dx.p (i := 13) rfl (by kernel_rfl) (asg rfl) rfl ?_
  refine Dx.done (by kernel_rfl) ?_
  refine Xx.bn ?_
  refine Xx.tn (k7 _ _ _ _ ?_)
  refine Cx.region ?_
  refine Lx.y (Yx.val (add rfl rfl (show IntKind.i64.wrap _ = _ from rfl)) (show _ = i64 1 from rfl)) rfl ?_
  refine Lx.y (mv rfl) rfl ?_
  refine Lx.nil ?_
  refine Xx.tn ?_
  refine Xx.rn ?_
  refine Cx.seq (fun K12 k12 => ?_)
  refine Cx.region ?_
  refine Lx.y (Yx.ff (lss rfl rfl) (by decide)) rfl ?_
  refine Lx.nil ?_
  refine Xx.tn (k12 _ _ _ _ ?_)
  refine Cx.seq (fun K13 k13 => ?_)
  refine Cx.condF rfl ?_
  refine Cx.exit ?_
  refine Xx.te ?_
  refine Xx.te ?_
  refine Xx.bh ?_
  refine Xx.tn (k3 _ _ _ _ ?_)
  refine Cx.seq (fun K14 k14 => ?_)
  refine Cx.region ?_
  refine Lx.y (bld ti25 pl25 rfl rfl) rfl ?_
  refine Lx.new (allocO ti25) rfl (fun b10 => ?_)
  refine Lx.st (stA (d := .bool) sz25 rfl rfl rfl rfl (by show 0 + 6 ≤ 6; omega) rfl) ?_
  refine Lx.nil ?_
  refine Xx.tn (k14 _ _ _ _ ?_)
  refine Cx.seq (fun K15 k15 => ?_)
  refine Cx.seq (fun K16 k16 => ?_)
  refine Xx.openT (some ⟨bA, 0, none⟩) (by decide) (fun bF sp hA hxl hnc hcl => ?_)
  have hbF : bA = bF := by injection hA with h; injection h
  subst hbF
  refine Xx.perm (H' := sbuf 9 1 none 0 0 [] * (sbuf 25 6 none 0 0 [] * _)) ?_ (by rw [sbuf_nil, sbuf_nil, one_star, one_star])
  refine Cx.region ?_
  refine Lx.y (mv rfl) rfl ?_
  refine Lx.y (Yx.val (lenV (ty' := 0) Tryz.underlying72 rfl) (show _ = i64 1 from rfl)) rfl ?_
  refine Lx.y (mv rfl) rfl ?_
  refine Lx.nil ?_
  refine Xx.tn (k16 _ _ _ _ ?_)
  refine Cx.block ?_
  refine Cx.unroll (2) ?_
  refine Xx.rn ?_
  refine Cx.seq (fun K17 k17 => ?_)
  refine Cx.region ?_
  refine Lx.y (Yx.tt (lss rfl rfl) (by decide)) rfl ?_
  refine Lx.nil ?_
  refine Xx.tn (k17 _ _ _ _ ?_)
  refine Cx.seq (fun K18 k18 => ?_)
  refine Cx.condT rfl ?_
  refine Cx.skip ?_
  refine Xx.tn (k18 _ _ _ _ ?_)
  refine Cx.cutK (ds' := []) (Sub.cons (s := 0) rfl (Sub.cons (s := 1) rfl (Sub.cons (s := 4) rfl (Sub.cons (s := 5) rfl (Sub.cons (s := 6) rfl (Sub.cons (s := 7) rfl (Sub.cons (s := 8) rfl (Sub.cons (s := 9) rfl (Sub.cons (s := 12) rfl (Sub.cons (s := 13) rfl (Sub.cons (s := 14) rfl (Sub.cons (s := 15) rfl (Sub.cons (s := 16) rfl (Sub.cons (s := 17) rfl (Sub.cons (s := 18) rfl (Sub.cons (s := 19) rfl (Sub.cons (s := 20) rfl (Sub.cons (s := 21) rfl (Sub.cons (s := 22) rfl (Sub.cons (s := 23) rfl (Sub.cons (s := 24) rfl (Sub.cons (s := 25) rfl (Sub.cons (s := 26) rfl (Sub.cons (s := 27) rfl (Sub.cons (s := 28) rfl (Sub.cons (s := 29) rfl (Sub.cons (s := 38) rfl (Sub.cons (s := 39) rfl (Sub.cons (s := 40) rfl (Sub.cons (s := 41) rfl (Sub.cons (s := 42) rfl (Sub.cons (s := 43) rfl (Sub.cons (s := 44) rfl (Sub.cons (s := 45) rfl (Sub.cons (s := 46) rfl (Sub.cons (s := 47) rfl (Sub.cons (s := 48) rfl (Sub.cons (s := 49) rfl (Sub.cons (s := 50) rfl (Sub.cons (s := 51) rfl (Sub.cons (s := 52) rfl (Sub.cons (s := 53) rfl (Sub.cons (s := 54) rfl (Sub.cons (s := 55) rfl (Sub.cons (s := 56) rfl (Sub.nil _)))))))))))))))))))))))))))))))))))))))))))))) (fun ρ' B' H' => ∃ An cn Ap cp, ρ' = [] ∧ B = B' ∧ 1 ≤ cn ∧ 1 ≤ cp ∧ sbuf 9 1 An 1 cn [str [97]] * (sbuf 25 6 Ap 1 cp [i64 2, .bool false, i64 n, str [], .slice none 0 0, .slice none 0 0] * (row b10 25 [i64 6, .bool false, i64 0, str [], .slice Ap 1 cp, .slice An 1 cn] * (row bA 76 ([str [97], i64 2, .bool false, i64 n, str [], .slice none 0 0, .slice none 0 0] ++ sp) * (row b4 25 [i64 0, .bool false, i64 0, str [], .slice none 0 0, .slice none 0 0] * R)))) = H') ?_ ?_
  · skip
    refine Cx.block ?_
    refine Cx.seq (fun K19 k19 => ?_)
    refine Cx.region ?_
    refine Lx.y (ia Tryz.underlying72 sz76 rfl rfl (show Int.toNat _ = 0 from rfl) (by decide) (by decide)) rfl ?_
    refine Lx.y (ldA Tryz.underlying76 rfl sz76 rfl (Cells.own (n := 7) PickB.eq rfl) rfl) rfl ?_
    refine Lx.new (allocO ti76) rfl (fun b13 => ?_)
    refine Lx.st (stA (d := .bool) sz76 rfl rfl rfl rfl (by show 0 + 7 ≤ 7; omega) rfl) ?_
    refine Lx.nil ?_
    refine Xx.tn (k19 _ _ _ _ ?_)
    refine Cx.drawn (by kernel_rfl) ?_
    refine Dx.p (i := 0) rfl (by kernel_rfl) (fa' fo25_5 rfl) rfl ?_
    refine Dx.r (i := 1) rfl (by kernel_rfl) (ld Tryz.underlying23 rfl rfl rfl) rfl ?_
    refine Dx.p (i := 2) rfl (by kernel_rfl) (fa' fo76_0 rfl) rfl ?_
    refine Dx.r (i := 3) rfl (by kernel_rfl) (ld Tryz.underlying9 rfl rfl rfl) rfl ?_
    refine Dx.p (i := 6) rfl (by kernel_rfl) (fa' fo25_4 rfl) rfl ?_
    refine Dx.r (i := 7) rfl (by kernel_rfl) (ld Tryz.underlying22 rfl rfl rfl) rfl ?_
    refine Dx.p (i := 8) rfl (by kernel_rfl) (fa' fo76_1 rfl) rfl ?_
    refine Dx.r (i := 9) rfl (by kernel_rfl) (ldA Tryz.underlying25 rfl sz25 rfl (Cells.own (n := 6) PickB.eq rfl) rfl) rfl ?_
    refine Dx.two (i := 4) (j := 10) (by kernel_rfl) ?_ ?_
    · skip
      refine Dstep.o (i := 4) rfl (bsl1 Tryz.underlying23 ti9 rfl rfl rfl (by decide)) rfl (fun v B' H' hΦ hB => ?_)
      obtain ⟨b144, rfl, rfl, rfl⟩ := hΦ; clear hB
      refine ⟨JOk.yes (JOk.yes (JOk.edge (JOk.yes (JOk.top) (ld Tryz.underlying23 rfl rfl rfl)) (by kernel_rfl)) (ld Tryz.underlying22 rfl rfl rfl)) (ldA Tryz.underlying25 rfl sz25 rfl (Cells.own (n := 6) PickB.eq rfl) rfl), ?_⟩
      refine Dx.two (i := 5) (j := 10) (by kernel_rfl) ?_ ?_
      · skip
        refine Dstep.o (i := 5) rfl (appN (et := 9) 1 [str [97]] [str [97]] Tryz.underlying23 Tryz.underlying23 ti9 rfl rfl rfl rfl rfl (by decide) (by decide) rfl rfl) rfl (fun v B' H' hΦ hB => ?_)
        obtain ⟨An1, An19, rfl, _, _, hcA, rfl, rfl⟩ := hΦ
        refine ⟨JOk.yes (JOk.yes (JOk.yes (JOk.edge (JOk.top) (by kernel_rfl)) (ld Tryz.underlying9 rfl rfl rfl)) (ld Tryz.underlying22 rfl rfl rfl)) (ldA Tryz.underlying25 rfl sz25 rfl (Cells.own (n := 6) PickB.eq rfl) rfl), ?_⟩
        refine Dx.p (i := 12) rfl (by kernel_rfl) (fa' fo25_5 rfl) rfl ?_
        refine Dx.one (i := 10) (by kernel_rfl) ?_
        refine Dstep.o (i := 10) rfl (bslA Tryz.underlying22 ti25 rfl rfl (by decide)) rfl (fun v B' H' hΦ hB => ?_)
        obtain ⟨b1410, rfl, rfl, rfl⟩ := hΦ; clear hB
        refine ⟨JOk.edge (JOk.yes (JOk.yes (JOk.yes (JOk.top) (ld Tryz.underlying23 rfl rfl rfl)) (ld Tryz.underlying9 rfl rfl rfl)) (ld Tryz.underlying22 rfl rfl rfl)) (by kernel_rfl), ?_⟩
        refine Dx.one (i := 11) (by kernel_rfl) ?_
        refine Dstep.o (i := 11) rfl (appN (et := 25) 1 [i64 2, .bool false, i64 n, str [], .slice none 0 0, .slice none 0 0] [i64 2, .bool false, i64 n, str [], .slice none 0 0, .slice none 0 0] Tryz.underlying22 Tryz.underlying22 ti25 rfl rfl rfl rfl rfl (by decide) (by decide) rfl rfl) rfl (fun v B' H' hΦ hB => ?_)
        obtain ⟨Ap1, Ap19, rfl, _, _, hcB, rfl, rfl⟩ := hΦ
        refine ⟨JOk.yes (JOk.edge (JOk.yes (JOk.yes (JOk.top) (ld Tryz.underlying23 rfl rfl rfl)) (ld Tryz.underlying9 rfl rfl rfl)) (by kernel_rfl)) (ldA Tryz.underlying25 rfl sz25 rfl (Cells.own (n := 6) PickB.eq rfl) rfl), ?_⟩
        refine Dx.one (i := 13) (by kernel_rfl) ?_
        refine Dstep.o0 (i := 13) rfl (stO Tryz.underlying23 sz23 rfl rfl rfl (by simp) rfl) (fun v B' H' hΦ hB => ?_)
        obtain ⟨rfl, rfl⟩ := hΦ; clear hB v
        refine ⟨JOk.yes (JOk.edge (JOk.edge (JOk.edge (JOk.top) (by kernel_rfl)) (by kernel_rfl)) (by kernel_rfl)) (ldA Tryz.underlying25 rfl sz25 rfl (Cells.own (n := 6) PickB.eq rfl) rfl), ?_⟩
        refine Dx.p (i := 14) rfl (by kernel_rfl) (fa' fo25_4 rfl) rfl ?_
        refine Dx.one (i := 15) (by kernel_rfl) ?_
        refine Dstep.o0 (i := 15) rfl (stO Tryz.underlying22 sz22 rfl rfl rfl (by simp) rfl) (fun v B' H' hΦ hB => ?_)
        obtain ⟨rfl, rfl⟩ := hΦ; clear hB v
        refine ⟨JOk.edge (JOk.edge (JOk.edge (JOk.edge (JOk.top) (by kernel_rfl)) (by kernel_rfl)) (by kernel_rfl)) (by kernel_rfl), ?_⟩
        refine Dx.done (by kernel_rfl) ?_
        refine Xx.bn ?_
        refine Xx.dropB b144 ?_
        refine Xx.dropB b1410 ?_
        refine Xx.dropB b13 ?_
        exact Xx.mkK (⟨_, _, _, _, rfl, rfl, hcA, hcB, by ac_rfl⟩) (Sub.cons (s := 0) rfl (Sub.cons (s := 1) rfl (Sub.cons (s := 4) rfl (Sub.cons (s := 5) rfl (Sub.cons (s := 6) rfl (Sub.cons (s := 7) rfl (Sub.cons (s := 8) rfl (Sub.cons (s := 9) rfl (Sub.cons (s := 12) rfl (Sub.cons (s := 13) rfl (Sub.cons (s := 14) rfl (Sub.cons (s := 15) rfl (Sub.cons (s := 16) rfl (Sub.cons (s := 17) rfl (Sub.cons (s := 18) rfl (Sub.cons (s := 19) rfl (Sub.cons (s := 20) rfl (Sub.cons (s := 21) rfl (Sub.cons (s := 22) rfl (Sub.cons (s := 23) rfl (Sub.cons (s := 24) rfl (Sub.cons (s := 25) rfl (Sub.cons (s := 26) rfl (Sub.cons (s := 27) rfl (Sub.cons (s := 28) rfl (Sub.cons (s := 29) rfl (Sub.cons (s := 38) rfl (Sub.cons (s := 39) rfl (Sub.cons (s := 40) rfl (Sub.cons (s := 41) rfl (Sub.cons (s := 42) rfl (Sub.cons (s := 43) rfl (Sub.cons (s := 44) rfl (Sub.cons (s := 45) rfl (Sub.cons (s := 46) rfl (Sub.cons (s := 47) rfl (Sub.cons (s := 48) rfl (Sub.cons (s := 49) rfl (Sub.cons (s := 50) rfl (Sub.cons (s := 51) rfl (Sub.cons (s := 52) rfl (Sub.cons (s := 53) rfl (Sub.cons (s := 54) rfl (Sub.cons (s := 55) rfl (Sub.cons (s := 56) rfl (Sub.nil _))))))))))))))))))))))))))))))))))))))))))))))
      refine Dstep.o (i := 10) rfl (bslA Tryz.underlying22 ti25 rfl rfl (by decide)) rfl (fun v B' H' hΦ hB => ?_)
      obtain ⟨b1410, rfl, rfl, rfl⟩ := hΦ; clear hB
      refine ⟨JOk.edge (JOk.yes (JOk.yes (JOk.yes (JOk.top) (ld Tryz.underlying23 rfl rfl rfl)) (ld Tryz.underlying9 rfl rfl rfl)) (ld Tryz.underlying22 rfl rfl rfl)) (by kernel_rfl), ?_⟩
      refine Dx.one (i := 5) (by kernel_rfl) ?_
      refine Dstep.o (i := 5) rfl (appN (et := 9) 1 [str [97]] [str [97]] Tryz.underlying23 Tryz.underlying23 ti9 rfl rfl rfl rfl rfl (by decide) (by decide) rfl rfl) rfl (fun v B' H' hΦ hB => ?_)
      obtain ⟨An1, An19, rfl, _, _, hcA, rfl, rfl⟩ := hΦ
      refine ⟨JOk.yes (JOk.yes (JOk.yes (JOk.edge (JOk.top) (by kernel_rfl)) (ld Tryz.underlying9 rfl rfl rfl)) (ld Tryz.underlying22 rfl rfl rfl)) (ldA Tryz.underlying25 rfl sz25 rfl (Cells.own (n := 6) PickB.eq rfl) rfl), ?_⟩
      refine Dx.p (i := 12) rfl (by kernel_rfl) (fa' fo25_5 rfl) rfl ?_
      refine Dx.one (i := 11) (by kernel_rfl) ?_
      refine Dstep.o (i := 11) rfl (appN (et := 25) 1 [i64 2, .bool false, i64 n, str [], .slice none 0 0, .slice none 0 0] [i64 2, .bool false, i64 n, str [], .slice none 0 0, .slice none 0 0] Tryz.underlying22 Tryz.underlying22 ti25 rfl rfl rfl rfl rfl (by decide) (by decide) rfl rfl) rfl (fun v B' H' hΦ hB => ?_)
      obtain ⟨Ap1, Ap19, rfl, _, _, hcB, rfl, rfl⟩ := hΦ
      refine ⟨JOk.yes (JOk.edge (JOk.yes (JOk.yes (JOk.top) (ld Tryz.underlying23 rfl rfl rfl)) (ld Tryz.underlying9 rfl rfl rfl)) (by kernel_rfl)) (ldA Tryz.underlying25 rfl sz25 rfl (Cells.own (n := 6) PickB.eq rfl) rfl), ?_⟩
      refine Dx.one (i := 13) (by kernel_rfl) ?_
      refine Dstep.o0 (i := 13) rfl (stO Tryz.underlying23 sz23 rfl rfl rfl (by simp) rfl) (fun v B' H' hΦ hB => ?_)
      obtain ⟨rfl, rfl⟩ := hΦ; clear hB v
      refine ⟨JOk.yes (JOk.edge (JOk.edge (JOk.edge (JOk.top) (by kernel_rfl)) (by kernel_rfl)) (by kernel_rfl)) (ldA Tryz.underlying25 rfl sz25 rfl (Cells.own (n := 6) PickB.eq rfl) rfl), ?_⟩
      refine Dx.p (i := 14) rfl (by kernel_rfl) (fa' fo25_4 rfl) rfl ?_
      refine Dx.one (i := 15) (by kernel_rfl) ?_
      refine Dstep.o0 (i := 15) rfl (stO Tryz.underlying22 sz22 rfl rfl rfl (by simp) rfl) (fun v B' H' hΦ hB => ?_)
      obtain ⟨rfl, rfl⟩ := hΦ; clear hB v
      refine ⟨JOk.edge (JOk.edge (JOk.edge (JOk.edge (JOk.top) (by kernel_rfl)) (by kernel_rfl)) (by kernel_rfl)) (by kernel_rfl), ?_⟩
      refine Dx.done (by kernel_rfl) ?_
      refine Xx.bn ?_
      refine Xx.dropB b144 ?_
      refine Xx.dropB b1410 ?_
      refine Xx.dropB b13 ?_
      exact Xx.mkK (⟨_, _, _, _, rfl, rfl, hcA, hcB, by ac_rfl⟩) (Sub.cons (s := 0) rfl (Sub.cons (s := 1) rfl (Sub.cons (s := 4) rfl (Sub.cons (s := 5) rfl (Sub.cons (s := 6) rfl (Sub.cons (s := 7) rfl (Sub.cons (s := 8) rfl (Sub.cons (s := 9) rfl (Sub.cons (s := 12) rfl (Sub.cons (s := 13) rfl (Sub.cons (s := 14) rfl (Sub.cons (s := 15) rfl (Sub.cons (s := 16) rfl (Sub.cons (s := 17) rfl (Sub.cons (s := 18) rfl (Sub.cons (s := 19) rfl (Sub.cons (s := 20) rfl (Sub.cons (s := 21) rfl (Sub.cons (s := 22) rfl (Sub.cons (s := 23) rfl (Sub.cons (s := 24) rfl (Sub.cons (s := 25) rfl (Sub.cons (s := 26) rfl (Sub.cons (s := 27) rfl (Sub.cons (s := 28) rfl (Sub.cons (s := 29) rfl (Sub.cons (s := 38) rfl (Sub.cons (s := 39) rfl (Sub.cons (s := 40) rfl (Sub.cons (s := 41) rfl (Sub.cons (s := 42) rfl (Sub.cons (s := 43) rfl (Sub.cons (s := 44) rfl (Sub.cons (s := 45) rfl (Sub.cons (s := 46) rfl (Sub.cons (s := 47) rfl (Sub.cons (s := 48) rfl (Sub.cons (s := 49) rfl (Sub.cons (s := 50) rfl (Sub.cons (s := 51) rfl (Sub.cons (s := 52) rfl (Sub.cons (s := 53) rfl (Sub.cons (s := 54) rfl (Sub.cons (s := 55) rfl (Sub.cons (s := 56) rfl (Sub.nil _))))))))))))))))))))))))))))))))))))))))))))))
    refine Dstep.o (i := 10) rfl (bslA Tryz.underlying22 ti25 rfl rfl (by decide)) rfl (fun v B' H' hΦ hB => ?_)
    obtain ⟨b1410, rfl, rfl, rfl⟩ := hΦ; clear hB
    refine ⟨JOk.edge (JOk.yes (JOk.yes (JOk.yes (JOk.top) (ld Tryz.underlying23 rfl rfl rfl)) (ld Tryz.underlying9 rfl rfl rfl)) (ld Tryz.underlying22 rfl rfl rfl)) (by kernel_rfl), ?_⟩
    refine Dx.one (i := 4) (by kernel_rfl) ?_
    refine Dstep.o (i := 4) rfl (bsl1 Tryz.underlying23 ti9 rfl rfl rfl (by decide)) rfl (fun v B' H' hΦ hB => ?_)
    obtain ⟨b144, rfl, rfl, rfl⟩ := hΦ; clear hB
    refine ⟨JOk.yes (JOk.yes (JOk.edge (JOk.yes (JOk.top) (ld Tryz.underlying23 rfl rfl rfl)) (by kernel_rfl)) (ld Tryz.underlying22 rfl rfl rfl)) (ldA Tryz.underlying25 rfl sz25 rfl (Cells.own (n := 6) PickB.eq rfl) rfl), ?_⟩
    refine Dx.one (i := 5) (by kernel_rfl) ?_
    refine Dstep.o (i := 5) rfl (appN (et := 9) 1 [str [97]] [str [97]] Tryz.underlying23 Tryz.underlying23 ti9 rfl rfl rfl rfl rfl (by decide) (by decide) rfl rfl) rfl (fun v B' H' hΦ hB => ?_)
    obtain ⟨An1, An19, rfl, _, _, hcA, rfl, rfl⟩ := hΦ
    refine ⟨JOk.yes (JOk.yes (JOk.yes (JOk.edge (JOk.top) (by kernel_rfl)) (ld Tryz.underlying9 rfl rfl rfl)) (ld Tryz.underlying22 rfl rfl rfl)) (ldA Tryz.underlying25 rfl sz25 rfl (Cells.own (n := 6) PickB.eq rfl) rfl), ?_⟩
    refine Dx.p (i := 12) rfl (by kernel_rfl) (fa' fo25_5 rfl) rfl ?_
    refine Dx.one (i := 11) (by kernel_rfl) ?_
    refine Dstep.o (i := 11) rfl (appN (et := 25) 1 [i64 2, .bool false, i64 n, str [], .slice none 0 0, .slice none 0 0] [i64 2, .bool false, i64 n, str [], .slice none 0 0, .slice none 0 0] Tryz.underlying22 Tryz.underlying22 ti25 rfl rfl rfl rfl rfl (by decide) (by decide) rfl rfl) rfl (fun v B' H' hΦ hB => ?_)
    obtain ⟨Ap1, Ap19, rfl, _, _, hcB, rfl, rfl⟩ := hΦ
    refine ⟨JOk.yes (JOk.edge (JOk.yes (JOk.yes (JOk.top) (ld Tryz.underlying23 rfl rfl rfl)) (ld Tryz.underlying9 rfl rfl rfl)) (by kernel_rfl)) (ldA Tryz.underlying25 rfl sz25 rfl (Cells.own (n := 6) PickB.eq rfl) rfl), ?_⟩
    refine Dx.one (i := 13) (by kernel_rfl) ?_
    refine Dstep.o0 (i := 13) rfl (stO Tryz.underlying23 sz23 rfl rfl rfl (by simp) rfl) (fun v B' H' hΦ hB => ?_)
    obtain ⟨rfl, rfl⟩ := hΦ; clear hB v
    refine ⟨JOk.yes (JOk.edge (JOk.edge (JOk.edge (JOk.top) (by kernel_rfl)) (by kernel_rfl)) (by kernel_rfl)) (ldA Tryz.underlying25 rfl sz25 rfl (Cells.own (n := 6) PickB.eq rfl) rfl), ?_⟩
    refine Dx.p (i := 14) rfl (by kernel_rfl) (fa' fo25_4 rfl) rfl ?_
    refine Dx.one (i := 15) (by kernel_rfl) ?_
    refine Dstep.o0 (i := 15) rfl (stO Tryz.underlying22 sz22 rfl rfl rfl (by simp) rfl) (fun v B' H' hΦ hB => ?_)
    obtain ⟨rfl, rfl⟩ := hΦ; clear hB v
    refine ⟨JOk.edge (JOk.edge (JOk.edge (JOk.edge (JOk.top) (by kernel_rfl)) (by kernel_rfl)) (by kernel_rfl)) (by kernel_rfl), ?_⟩
    refine Dx.done (by kernel_rfl) ?_
    refine Xx.bn ?_
    refine Xx.dropB b144 ?_
    refine Xx.dropB b1410 ?_
    refine Xx.dropB b13 ?_
    exact Xx.mkK (⟨_, _, _, _, rfl, rfl, hcA, hcB, by ac_rfl⟩) (Sub.cons (s := 0) rfl (Sub.cons (s := 1) rfl (Sub.cons (s := 4) rfl (Sub.cons (s := 5) rfl (Sub.cons (s := 6) rfl (Sub.cons (s := 7) rfl (Sub.cons (s := 8) rfl (Sub.cons (s := 9) rfl (Sub.cons (s := 12) rfl (Sub.cons (s := 13) rfl (Sub.cons (s := 14) rfl (Sub.cons (s := 15) rfl (Sub.cons (s := 16) rfl (Sub.cons (s := 17) rfl (Sub.cons (s := 18) rfl (Sub.cons (s := 19) rfl (Sub.cons (s := 20) rfl (Sub.cons (s := 21) rfl (Sub.cons (s := 22) rfl (Sub.cons (s := 23) rfl (Sub.cons (s := 24) rfl (Sub.cons (s := 25) rfl (Sub.cons (s := 26) rfl (Sub.cons (s := 27) rfl (Sub.cons (s := 28) rfl (Sub.cons (s := 29) rfl (Sub.cons (s := 38) rfl (Sub.cons (s := 39) rfl (Sub.cons (s := 40) rfl (Sub.cons (s := 41) rfl (Sub.cons (s := 42) rfl (Sub.cons (s := 43) rfl (Sub.cons (s := 44) rfl (Sub.cons (s := 45) rfl (Sub.cons (s := 46) rfl (Sub.cons (s := 47) rfl (Sub.cons (s := 48) rfl (Sub.cons (s := 49) rfl (Sub.cons (s := 50) rfl (Sub.cons (s := 51) rfl (Sub.cons (s := 52) rfl (Sub.cons (s := 53) rfl (Sub.cons (s := 54) rfl (Sub.cons (s := 55) rfl (Sub.cons (s := 56) rfl (Sub.nil _))))))))))))))))))))))))))))))))))))))))))))))
  · rintro ρ' B' H' ⟨An, cn, Ap, cp, rfl, rfl, hcn, hcp, rfl⟩
    refine Cx.region ?_
    refine Lx.y (Yx.val (add rfl rfl (show IntKind.i64.wrap _ = _ from rfl)) (show _ = i64 1 from rfl)) rfl ?_
    refine Lx.y (mv rfl) rfl ?_
    refine Lx.nil ?_
    refine Xx.tn ?_
    refine Xx.rn ?_
    refine Cx.seq (fun K20 k20 => ?_)
    refine Cx.region ?_
    refine Lx.y (Yx.ff (lss rfl rfl) (by decide)) rfl ?_
    refine Lx.nil ?_
    refine Xx.tn (k20 _ _ _ _ ?_)
    refine Cx.seq (fun K21 k21 => ?_)
    refine Cx.condF rfl ?_
    refine Cx.exit ?_
    refine Xx.te ?_
    refine Xx.te ?_
    refine Xx.bh ?_
    refine Xx.tn (k15 _ _ _ _ ?_)
    refine Cx.seq (fun K22 k22 => ?_)
    refine Cx.region ?_
    refine Lx.y (ldA Tryz.underlying25 rfl sz25 rfl (Cells.own (n := 6) PickB.eq rfl) rfl) rfl ?_
    refine Lx.st (stA (d := .bool) sz25 rfl rfl rfl rfl (by show 0 + 6 ≤ 6; omega) rfl) ?_
    refine Lx.nil ?_
    refine Xx.tn (k22 _ _ _ _ ?_)
    refine Cx.ret ?_
    refine Xx.freezeT Ap fun B3 hB3 hRo hnc3 _ => ?_
    refine Xx.freezeT An fun B4 hB4 hRo4 hnc4 _ => ?_
    refine Xx.dropB b10 ?_
    refine Xx.dropB bA ?_
    exact Xx.rBa rfl Tryz.underlying25 rfl sz25 rfl rfl ⟨_, rfl, VA_R h1 h2 hRo hRo4 hB4 hcn hcp⟩ (Frag.le_trans hB3 hB4)
end RgB
end Go.Proofs.YtdidpocakipinaaGreatDoor

/-
  Iterators whose things are told with what is there when they come.
-/
namespace Go.SL
open Go.RowKit
set_option linter.unusedVariables false
set_option linter.unusedSimpArgs false
/-- An iterator's contract: what it hands to yield is told as it comes: Adm: what may have come so far; Fn: all that came. -/
def ItG (P : Program) (gf : FuncId) (caps : List Value) {α : Type} (enc : α → List Value) (Adm : List α → Frag → Prop) (Fn : List α → Prop) (B : Frag) (own : HP) : Prop :=
  (∀ args w, (callFunc gf args).run P w = .ok (.enter gf args) w) ∧
  ∀ (l : Nat) (J Jx : List α → Frag → HP → Prop),
    (∀ pre x B0 B1 H1, Adm (pre ++ [x]) B1 → B.le B0 → B0.le B1 → J pre B0 H1 → Yd P l (enc x) B1 H1 fun t B' H' => (t = true ∧ J (pre ++ [x]) B' H') ∨ (t = false ∧ Jx (pre ++ [x]) B' H')) →
    ∀ B1 H1, B.le B1 → J [] B1 H1 → Ct P gf (.func (.yield l) #[] #[] :: caps) B1 (own * H1) fun v B' H' => ∃ H2, H' = own * H2 ∧ ((∃ xs, Fn xs ∧ J xs B' H2) ∨ ∃ pre, Jx pre B' H2)

section
variable {e : Env} {ds : List Deferred} {Q : Exit → Act → World → Prop} {ρ ρ' : Sl} {B B' B0 B1 : Frag} {H H' R : HP} {K : Act → World → Prop} {P : Program} {α : Type}
/-- A range over a function, outside of every other one. -/
theorem Cx.rangeGF {g : Operand} {ps : Array Tmp} {assign body : Code} {gf : FuncId} {caps : List Value} {enc : α → List Value} {Adm : List α → Frag → Prop} {Fn : List α → Prop} {own H1 R : HP}
    (hr : e.r = none) (hg : ev ρ g = some (.func (.func gf) #[] caps.toArray)) (hIt : ItG e.P gf caps enc Adm Fn B own) (hH : H = own * (H1 * R)) (hnt : ps.toList.all (fun p => Nat.blt p e.nt) = true) (hps : ∀ x, (enc x).length = ps.size)
    (J : List α → Frag → HP → Prop) (Jx : Code → List α → Frag → HP → Prop) (AS : List α → α → Frag → Sl → Frag → HP → Prop) (h0 : J [] B H1)
    (hassign : ∀ (l N0 : Nat) (w0 : World) pre x B0 B1 H1 (F : HP) (K : Act → World → Prop), Adm (pre ++ [x]) B1 → B.le B0 → B0.le B1 → J pre B0 H1 →
      (∀ ρ' B' H', AS pre x B1 ρ' B' H' → B1.le B' → Xx ⟨e.P, some l, N0, w0, e.nt⟩ [] K ρ' B' (H' * F)) →
      Cx ⟨e.P, some l, N0, w0, e.nt⟩ [] assign (Exit.then K (fun _ _ _ => False)) (asgn ps.toList (enc x) ρ) B1 (H1 * F))
    (hbody : ∀ (l N0 : Nat) (w0 : World) pre x B1 (F : HP) ρ' B' H', Adm (pre ++ [x]) B1 → B.le B1 → B1.le B' → AS pre x B1 ρ' B' H' → Cx ⟨e.P, some l, N0, w0, e.nt⟩ [] body (RQ N0 w0 B1 J Jx (pre ++ [x]) F) ρ' B' (H' * F))
    (hdone : ∀ D xs B' H', Fn xs → B.le B' → J xs B' H' → Xx e (mark D :: ds) (Q .normal) ρ B' (H' * (blk D dfr * (own * R))))
    (hstop : ∀ D c pre B' H', B.le B' → Jx c pre B' H' → Cx e (mark D :: ds) c Q ρ B' (H' * (blk D dfr * (own * R)))) :
    Cx e ds (.rangeFunc g ps assign body) Q ρ B H := by
  intro a w f b s
  refine wpIn_rangeFunc ?_
  intro fn _
  have hgv := f.ev _ _ hg
  have s1 := (s.alloc dfr).alloc (.loop (mkRec fn a.tmps ps assign body w.heap.size .ready none))
  have b1 : Below e.N0 e.w0 ((w.alloc dfr).alloc (.loop (mkRec fn a.tmps ps assign body w.heap.size .ready none))) := (b.alloc s.sz _).alloc (s.alloc dfr).sz _
  rw [World.size_alloc, hH] at s1
  -- the loop's record l, the block D
  generalize hl : w.heap.size + 1 = l at *
  generalize hD : w.heap.size = D at *
  generalize hw1 : (w.alloc dfr).alloc (.loop (mkRec fn a.tmps ps assign body D .ready none)) = w1 at *
  have s2 : St e.N0 B ((own * (H1 * (blk l (.loop (mkRec fn a.tmps ps assign body D .ready none)) * blk D dfr))) * R) w1 := by
    exact s1.of_eq (by ac_rfl)
  have heg := hIt.1 #[.func (.yield l) #[] #[], ] w1
  let J' : List α → Frag → HP → Prop := fun pre B' H' => ∃ H1, H' = H1 * (blk l (.loop (mkRec fn a.tmps ps assign body D .ready none)) * blk D dfr) ∧ J pre B' H1
  let Jx' : List α → Frag → HP → Prop := fun pre B' H' => ∃ c H1, H' = H1 * (blk l (.loop (mkRec fn a.tmps ps assign body D .done (some c))) * blk D dfr) ∧ Jx c pre B' H1
  have hct := hIt.2 l J' Jx' ?round B _ (Frag.le_refl _) ⟨H1, rfl, h0⟩
  case round =>
    rintro pre x B0 B1 _ hxs hB0 hB01 ⟨H2, rfl, hJ⟩ N0 wy Rf sy
    have hB1 := Frag.le_trans hB0 hB01
    have hrl : wy.heap[l]? = some (.loop (mkRec fn a.tmps ps assign body D .ready none)) := by
      have : St N0 B1 (blk l (.loop (mkRec fn a.tmps ps assign body D .ready none)) * (H2 * (blk D dfr * Rf))) wy := sy.of_eq (by ac_rfl)
      exact this.blk.1
    have hy := run_yield (P := e.P) (args := (enc x).toArray) hrl (by simpa using hps x)
    refine ⟨fn, _, assign, body, hy, roundIn_of_wpIn trivial ?_⟩
    have hfr := asgn_fr (nt := e.nt) ps.toList (enc x) ρ a.tmps hnt ⟨f.size, f.get, rfl⟩
    have hzip : (ps.zip (enc x).toArray).foldl (fun tmps (t, a) => tmps.setIfInBounds t a) a.tmps = (ps.toList.zip (enc x)).foldl (fun t (y : Tmp × Value) => t.setIfInBounds y.1 y.2) a.tmps := by
      rw [← Array.foldl_toList, Array.toList_zip]
    show Code.wpIn (FW (some l)) 0 e.P assign _ { tmps := (ps.zip (enc x).toArray).foldl (fun tmps (t, a) => tmps.setIfInBounds t a) a.tmps, defers := [] } wy
    rw [hzip]
    refine hassign l N0 wy pre x B0 B1 H2 ((blk l (.loop (mkRec fn a.tmps ps assign body D .ready none)) * blk D dfr) * Rf) _ hxs hB0 hB01 hJ ?_ _ wy hfr (Below.refl _ _) (by rw [← star_assoc]; exact sy)
    intro ρ' B' H' hAS hB' a1 wa fa ba sa
    have sa' : St N0 B' (blk l (.loop (mkRec fn a.tmps ps assign body D .ready none)) * (H' * (blk D dfr * Rf))) wa := sa.of_eq (by ac_rfl)
    have hbr := run_beginRound (P := e.P) sa'.blk.1 rfl
    refine ⟨_, hbr, ?_⟩
    have sb := sa'.putObj (o' := .loop { mkRec fn a.tmps ps assign body D .ready none with state := .busy })
    have sb2 : St N0 B' (H' * ((blk l (.loop { mkRec fn a.tmps ps assign body D .ready none with state := .busy }) * blk D dfr) * Rf)) (wa.putObj l (.loop { mkRec fn a.tmps ps assign body D .ready none with state := .busy })) := sb.1.of_eq (by ac_rfl)
    refine wpIn_mono (hbody l N0 wy pre x B1 _ ρ' B' H' hxs hB1 hB' hAS a1 _ fa (ba.trans sb.2) sb2) ?_
    have fin : ∀ (jump : Option Code) (w3 : World) B3 H3, St N0 B3 (H3 * ((blk l (.loop { mkRec fn a.tmps ps assign body D .ready none with state := .busy }) * blk D dfr) * Rf)) w3 →
        (Instr.endRound l jump).run e.P w3 = .ok (.bool jump.isNone) (w3.putObj l (.loop (mkRec fn a.tmps ps assign body D (if jump.isNone then .ready else .done) jump))) ∧ Below N0 w3 (w3.putObj l (.loop (mkRec fn a.tmps ps assign body D (if jump.isNone then .ready else .done) jump))) ∧
        St N0 B3 ((H3 * (blk l (.loop (mkRec fn a.tmps ps assign body D (if jump.isNone then .ready else .done) jump)) * blk D dfr)) * Rf) (w3.putObj l (.loop (mkRec fn a.tmps ps assign body D (if jump.isNone then .ready else .done) jump))) := by
      intro jump w3 B3 H3 s3
      have s3' : St N0 B3 (blk l (.loop { mkRec fn a.tmps ps assign body D .ready none with state := .busy }) * (H3 * (blk D dfr * Rf))) w3 := s3.of_eq (by ac_rfl)
      have h1 := run_endRound (P := e.P) jump s3'.blk.1
      have h2 := s3'.putObj (o' := .loop (mkRec fn a.tmps ps assign body D (if jump.isNone then .ready else .done) jump))
      refine ⟨h1, h2.2, h2.1.of_eq (by ac_rfl)⟩
    rintro x3 a3 w3 hp
    cases x3 with
    | normal =>
      obtain ⟨B3, H3, hJ3, hB3, b3, s3⟩ := hp
      obtain ⟨h1, h2, h3⟩ := fin none w3 B3 H3 s3
      exact ⟨_, _, h1, true, B3, _, rfl, .inl ⟨rfl, H3, rfl, hJ3⟩, hB3, b3.trans h2, h3⟩
    | ret =>
      obtain ⟨B3, H3, hJ3, hB3, b3, s3⟩ := hp
      obtain ⟨h1, h2, h3⟩ := fin (some .ret) w3 B3 H3 s3
      exact ⟨_, _, h1, false, B3, _, rfl, .inr ⟨rfl, _, H3, rfl, hJ3⟩, hB3, b3.trans h2, h3⟩
    | exit id =>
      obtain ⟨B3, H3, hJ3, hB3, b3, s3⟩ := hp
      obtain ⟨h1, h2, h3⟩ := fin (some (.exit id)) w3 B3 H3 s3
      exact ⟨_, _, h1, false, B3, _, rfl, .inr ⟨rfl, _, H3, rfl, hJ3⟩, hB3, b3.trans h2, h3⟩
    | goto t => exact hp.elim
    | panic ch => exact hp.elim
    | outgrown => exact hp.elim
  refine ⟨l, [mark D], w1, { target := .fn (.func gf) caps.toArray, args := #[.func (.yield l) #[] #[]] }, w1, gf, (.func (.yield l) #[] #[] :: caps).toArray, w1, ?_, ?_, fun _ _ => trivial, ?_, fun h => by simp [FW] at h, ?_⟩
  · have : (FW e.r).round = none := hr
    rw [this, ← hw1, ← hl]
    have := run_enterLoop_outer (P := e.P) (w := w) fn a.tmps ps assign body
    rw [hD] at this
    exact this
  · simp only [resolve, hgv, Deferred.ofValue]
    simp [Act.eval]
  · simp only [invoke]
    have := hIt.1 (#[.func (.yield l) #[] #[]] ++ caps.toArray) w1
    simpa using this
  · refine callsIn_FW.2 ((hct.2 e.N0 w1 R s2).mono ?_)
    rintro y w2 ⟨v, B', _, rfl, ⟨H2, rfl, (⟨xs, hxs, H3, rfl, hJ⟩ | ⟨pre, c, H3, rfl, hJ⟩)⟩, hB', b2, s3⟩
    · have s3' : St e.N0 B' (blk l (.loop (mkRec fn a.tmps ps assign body D .ready none)) * (H3 * (blk D dfr * (own * R)))) w2 := s3.of_eq (by ac_rfl)
      have h1 := run_endLoop (P := e.P) s3'.blk.1 (by simp)
      have h2 := s3'.putObj (o' := .loop { mkRec fn a.tmps ps assign body D .ready none with state := .exhausted })
      refine ⟨none, _, h1, ?_⟩
      exact hdone D xs B' H3 hxs hB' hJ _ _ ⟨f.size, f.get, by simp [f.defers]⟩ ((b1.trans b2).trans h2.2) h2.1.drop
    · have s3' : St e.N0 B' (blk l (.loop (mkRec fn a.tmps ps assign body D .done (some c))) * (H3 * (blk D dfr * (own * R)))) w2 := s3.of_eq (by ac_rfl)
      have h1 := run_endLoop (P := e.P) s3'.blk.1 (by simp)
      have h2 := s3'.putObj (o' := .loop { mkRec fn a.tmps ps assign body D .done (some c) with state := .exhausted })
      refine ⟨some c, _, h1, ?_⟩
      exact hstop D c pre B' H3 hB' hJ _ _ ⟨f.size, f.get, by simp [f.defers]⟩ ((b1.trans b2).trans h2.2) h2.1.drop

/-- The same; σ: slots that the rounds may look at. -/
theorem Cx.rangeG {g : Operand} {ps : Array Tmp} {assign body : Code} {gf : FuncId} {caps : List Value} {enc : α → List Value} {Adm : List α → Frag → Prop} {Fn : List α → Prop} {own H1 R : HP} {σ : Sl} (hσ : Sub ρ σ)
    (hr : e.r = none) (hg : ev ρ g = some (.func (.func gf) #[] caps.toArray)) (hIt : ItG e.P gf caps enc Adm Fn B own) (hH : H = own * (H1 * R)) (hnt : ps.toList.all (fun p => Nat.blt p e.nt) = true) (hps : ∀ x, (enc x).length = ps.size)
    (J : List α → Frag → HP → Prop) (Jx : Code → List α → Frag → HP → Prop) (AS : List α → α → Frag → Sl → Frag → HP → Prop) (h0 : J [] B H1)
    (hassign : ∀ (l N0 : Nat) (w0 : World) pre x B0 B1 H1 (F : HP) (K : Act → World → Prop), Adm (pre ++ [x]) B1 → B.le B0 → B0.le B1 → J pre B0 H1 →
      (∀ ρ' B' H', AS pre x B1 ρ' B' H' → B1.le B' → Xx ⟨e.P, some l, N0, w0, e.nt⟩ [] K (ρ' ++ σ) B' (H' * F)) →
      Cx ⟨e.P, some l, N0, w0, e.nt⟩ [] assign (Exit.then K (fun _ _ _ => False)) (asgn ps.toList (enc x) ρ) B1 (H1 * F))
    (hbody : ∀ (l N0 : Nat) (w0 : World) pre x B1 (F : HP) ρ' B' H', Adm (pre ++ [x]) B1 → B.le B1 → B1.le B' → AS pre x B1 ρ' B' H' → Cx ⟨e.P, some l, N0, w0, e.nt⟩ [] body (RQ N0 w0 B1 J Jx (pre ++ [x]) F) (ρ' ++ σ) B' (H' * F))
    (hdone : ∀ D xs B' H', Fn xs → B.le B' → J xs B' H' → Xx e (mark D :: ds) (Q .normal) ρ B' (H' * (blk D dfr * (own * R))))
    (hstop : ∀ D c pre B' H', B.le B' → Jx c pre B' H' → Cx e (mark D :: ds) c Q ρ B' (H' * (blk D dfr * (own * R)))) :
    Cx e ds (.rangeFunc g ps assign body) Q ρ B H :=
  Cx.rangeGF hr hg hIt hH hnt hps J Jx (fun pre x B1 ρ' B' H' => ∃ ρ'', ρ' = ρ'' ++ σ ∧ AS pre x B1 ρ'' B' H') h0
    (fun l N0 w0 pre x B0 B1 H1 F K hxs hB0 hB01 hJ hK => hassign l N0 w0 pre x B0 B1 H1 F K hxs hB0 hB01 hJ fun ρ' B' H' hAS hB' => hK _ B' H' ⟨ρ', rfl, hAS⟩ hB')
    (fun l N0 w0 pre x B1 F ρ' B' H' hxs hB1 hB' ⟨ρ'', h1, hAS⟩ => by subst h1; exact hbody l N0 w0 pre x B1 F ρ'' B' H' hxs hB1 hB' hAS) hdone hstop

end
end Go.SL
