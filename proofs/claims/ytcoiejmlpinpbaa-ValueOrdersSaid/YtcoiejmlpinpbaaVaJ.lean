/-
  A struct of two names, whole.
-/
import Derived.Test.YtcoiejmlpinpbaaProg
import Derived.Test.YtcoiejmlpinpbaaSlj
import Derived.Test.YtcoiejmlpinpbaaVaI
namespace Go.Proofs.Ytcoiejmlpinpbaa
open Go.SL Go.RowKit
set_option linter.unusedVariables false
set_option linter.unusedSimpArgs false
set_option maxRecDepth 100000
open Ke5 Ke6 Ke7 Ke8 Ke9 KeA KeB KeE KeF KeG KeH VaA VaB VaC VaD VaH VaI
namespace VaJ
theorem sz9 : (Try.prog.info? 9).map (·.size) = some 1 := by kernel_rfl
theorem sz22 : (Try.prog.info? 22).map (·.size) = some 1 := by kernel_rfl
theorem sz44 : (Try.prog.info? 44).map (·.size) = some 1 := by kernel_rfl
theorem sz46 : (Try.prog.info? 46).map (·.size) = some 6 := by kernel_rfl
theorem sz119 : (Try.prog.info? 119).map (·.size) = some 7 := by kernel_rfl
theorem ti9 : TI Try.prog 9 [str []] 1 16 := TI.of (by kernel_rfl) rfl rfl
theorem ti46 : TI Try.prog 46 [.int .i64 0, .bool false, .int .i64 0, str [], .slice none 0 0, .slice none 0 0] 6 88 := TI.of (by kernel_rfl) rfl rfl
theorem ti119 : TI Try.prog 119 [str [], .int .i64 0, .bool false, .int .i64 0, str [], .slice none 0 0, .slice none 0 0] 7 104 := TI.of (by kernel_rfl) rfl rfl
theorem fo46_4 : FO Try.prog 46 4 4 1 false := FO.of Try.underlying46 rfl rfl (by kernel_rfl) Try.underlying44 rfl rfl
theorem fo46_5 : FO Try.prog 46 5 5 1 false := FO.of Try.underlying46 rfl rfl (by kernel_rfl) Try.underlying22 rfl rfl
theorem fo119_0 : FO Try.prog 119 0 0 1 false := FO.of Try.underlying119 rfl rfl (by kernel_rfl) Try.underlying9 rfl rfl
theorem fo119_1 : FO Try.prog 119 1 1 6 true := FO.of Try.underlying119 rfl rfl (by kernel_rfl) Try.underlying46 rfl rfl
theorem pl46 : PL Try.prog 46 [(0, 1), (1, 1), (2, 1), (3, 1), (4, 1), (5, 1)] := PL.of Try.underlying46 (by kernel_rfl)
theorem pl119 : PL Try.prog 119 [(0, 1), (1, 6)] := PL.of Try.underlying119 (by kernel_rfl)

theorem VAW_R {B3 B4 : Frag} {An Ap : Option Addr} {cn cp : Nat} (hRo : RoS B3 6 Ap 2 ([i64 3, .bool false, i64 0, str [120], .slice none 0 0, .slice none 0 0] ++ [i64 2, .bool false, i64 1, str [], .slice none 0 0, .slice none 0 0])) (hRo4 : RoS B4 1 An 2 [str [97], str [98]]) (hB4 : B3.le B4) (hcn : 2 ≤ cn) (hcp : 2 ≤ cp) : ValR B4 2 VAW (vcs VAW Ap cp An cn) := by
  refine ValR.mk ⟨by decide, by decide, by decide, hcn, hcp⟩ (by decide) (by decide) (RoS.roe hRo4) ?_ (hRo.mono hB4) ?_
  · intro x hx
    have h9 : x ∈ [[97], [98]] := hx
    have : x = [97] ∨ x = [98] := by simpa using h9
    rcases this with rfl | rfl <;> decide
  · intro k hk
    have hk2 : k < 2 := hk
    match k, hk2 with
    | 0, _ => exact (ValR.leaf ⟨by decide, by decide, by decide⟩ : ValR B4 1 (V.mk 3 false 0 [120] [] []) (vcs (V.mk 3 false 0 [120] [] []) none 0 none 0))
    | 1, _ => exact (ValR.leaf ⟨by decide, by decide, by decide⟩ : ValR B4 1 (V.mk 2 false 1 [] [] []) (vcs (V.mk 2 false 1 [] [] []) none 0 none 0))

set_option maxHeartbeats 1000000 in
theorem Struct_ct (nb pb : Nat) (e1 e2 : TypeId) (f1 f2 : Nat × Nat) (B : Frag) (hBn : B nb = some (.cells #[str [98], str [97]] e1 f1)) (hBp : B pb = some (.cells ([i64 2, .bool false, i64 1, str [], .slice none 0 0, .slice none 0 0] ++ [i64 3, .bool false, i64 0, str [120], .slice none 0 0, .slice none 0 0]).toArray e2 f2)) : CtB Try.prog 43 [.slice (some ⟨nb, 0, none⟩) 2 2, .slice (some ⟨pb, 0, none⟩) 2 2] B (fun v B' => ∃ cs', v = .agg cs'.toArray ∧ ValR B' 2 VAW cs') := by
  refine CtB.of_body Try.func43 rfl (nt := 75) rfl (by kernel_rfl) rfl ?_
  intro N0 w0 R
  refine Cx.seq (fun K1 k1 => ?_)
  refine Cx.region ?_
  refine Lx.new (allocO ti46) rfl (fun b4 => ?_)
  refine Lx.nil ?_
  refine Xx.tn (k1 _ _ _ _ ?_)
  refine Cx.seq (fun K2 k2 => ?_)
  refine Cx.region ?_
  refine Lx.y (asg rfl) rfl ?_
  refine Lx.nil ?_
  refine Xx.tn (k2 _ _ _ _ ?_)
  refine Cx.seq (fun K3 k3 => ?_)
  refine Cx.seq (fun K4 k4 => ?_)
  refine Cx.region ?_
  refine Lx.y (mv rfl) rfl ?_
  refine Lx.y (Yx.val (lenV (ty' := 0) Try.underlying22 rfl) (show _ = i64 2 from rfl)) rfl ?_
  refine Lx.y (mv rfl) rfl ?_
  refine Lx.y (Yx.val (lenV (ty' := 0) Try.underlying44 rfl) (show _ = i64 2 from rfl)) rfl ?_
  refine Lx.y (Yx.val (minI rfl rfl) (show _ = i64 2 from rfl)) rfl ?_
  refine Lx.y (mv rfl) rfl ?_
  refine Lx.nil ?_
  refine Xx.tn (k4 _ _ _ _ ?_)
  refine Cx.block ?_
  refine Cx.unroll (3) ?_
  refine Xx.rn ?_
  refine Cx.seq (fun K5 k5 => ?_)
  refine Cx.region ?_
  refine Lx.y (Yx.tt (lss rfl rfl) (by decide)) rfl ?_
  refine Lx.nil ?_
  refine Xx.tn (k5 _ _ _ _ ?_)
  refine Cx.seq (fun K6 k6 => ?_)
  refine Cx.condT rfl ?_
  refine Cx.skip ?_
  refine Xx.tn (k6 _ _ _ _ ?_)
  refine Cx.seq (fun K7 k7 => ?_)
  refine Cx.block ?_
  refine Cx.seq (fun K8 k8 => ?_)
  refine Cx.region ?_
  refine Lx.y (mv rfl) rfl ?_
  refine Lx.y (asg rfl) rfl ?_
  refine Lx.nil ?_
  refine Xx.tn (k8 _ _ _ _ ?_)
  refine Cx.seq (fun K9 k9 => ?_)
  refine Cx.region ?_
  refine Lx.y (mv rfl) rfl ?_
  refine Lx.y (mv rfl) rfl ?_
  refine Lx.y (mv rfl) rfl ?_
  refine Lx.y (ia Try.underlying22 sz9 rfl rfl (show Int.toNat _ = 0 from rfl) (by decide) (by decide)) rfl ?_
  refine Lx.y (ldB Try.underlying9 rfl rfl hBn rfl) rfl ?_
  refine Lx.cp rfl rfl rfl (BSF0_ct [98] _) rfl ?_
  refine Lx.y (mv rfl) rfl ?_
  refine Lx.y (ext rfl rfl) rfl ?_
  refine Lx.y (ext rfl rfl) rfl ?_
  refine Lx.y (asg rfl) rfl ?_
  refine Lx.y (asg rfl) rfl ?_
  refine Lx.nil ?_
  refine Xx.tn (k9 _ _ _ _ ?_)
  refine Cx.seq (fun K10 k10 => ?_)
  refine Cx.seq (fun K11 k11 => ?_)
  refine Cx.region ?_
  refine Lx.y (mv rfl) rfl ?_
  refine Lx.nil ?_
  refine Xx.tn (k11 _ _ _ _ ?_)
  refine Cx.condF rfl ?_
  refine Cx.skip ?_
  refine Xx.tn (k10 _ _ _ _ ?_)
  refine Cx.drawn (by kernel_rfl) ?_
  refine Dx.p (i := 0) rfl (by kernel_rfl) (mv rfl) rfl ?_
  refine Dx.p (i := 1) rfl (by kernel_rfl) (mv rfl) rfl ?_
  refine Dx.p (i := 2) rfl (by kernel_rfl) (mv rfl) rfl ?_
  refine Dx.p (i := 3) rfl (by kernel_rfl) (mv rfl) rfl ?_
  refine Dx.p (i := 4) rfl (by kernel_rfl) (ia Try.underlying22 sz9 rfl rfl (show Int.toNat _ = 0 from rfl) (by decide) (by decide)) rfl ?_
  refine Dx.r (i := 5) rfl (by kernel_rfl) (ldB Try.underlying9 rfl rfl hBn rfl) rfl ?_
  refine Dx.p (i := 6) rfl (by kernel_rfl) (mv rfl) rfl ?_
  refine Dx.p (i := 7) rfl (by kernel_rfl) (mv rfl) rfl ?_
  refine Dx.p (i := 8) rfl (by kernel_rfl) (ia Try.underlying44 sz46 rfl rfl (show Int.toNat _ = 0 from rfl) (by decide) (by decide)) rfl ?_
  refine Dx.r (i := 9) rfl (by kernel_rfl) (ldA Try.underlying46 rfl sz46 rfl (Cells.base (n := 6) hBp rfl) rfl) rfl ?_
  refine Dx.p (i := 10) rfl (by kernel_rfl) (bld ti119 pl119 rfl rfl) rfl ?_
  refine Dx.one (i := 11) (by kernel_rfl) ?_
  refine Dstep.o (i := 11) rfl (bslA Try.underlying116 ti119 rfl rfl (by decide)) rfl (fun v B' H' hΦ hB => ?_)
  obtain ⟨b8, rfl, rfl, rfl⟩ := hΦ; clear hB
  refine ⟨JOk.yes (JOk.yes (JOk.top) (ldB Try.underlying9 rfl rfl hBn rfl)) (ldA Try.underlying46 rfl sz46 rfl (Cells.base (n := 6) hBp rfl) rfl), ?_⟩
  refine Dx.one (i := 12) (by kernel_rfl) ?_
  refine Dstep.o (i := 12) rfl (Ox.call rfl rfl rfl (InsF_ct none 0 0 0 [] b8 119 F1 _ (by decide) rfl rfl rfl rfl (by decide)) (by rw [sbuf_nil, one_star]; rfl)) rfl (fun v B' H' hΦ hB => ?_)
  obtain ⟨_, rfl, hΦ⟩ := hΦ
  obtain ⟨A9, c9, rfl, hBB, rfl, ⟨bA, rfl⟩, hc9⟩ := hΦ
  subst hBB
  rename Frag => B
  clear hB
  refine ⟨JOk.yes (JOk.yes (JOk.top) (ldB Try.underlying9 rfl rfl hBn rfl)) (ldA Try.underlying46 rfl sz46 rfl (Cells.base (n := 6) hBp rfl) rfl), ?_⟩
  refine Dx.p (i := 13) rfl (by kernel_rfl) (asg rfl) rfl ?_
  refine Dx.done (by kernel_rfl) ?_
  refine Xx.bn ?_
  refine Xx.tn (k7 _ _ _ _ ?_)
  refine Cx.region ?_
  refine Lx.y (Yx.val (add rfl rfl (show IntKind.i64.wrap _ = _ from rfl)) (show _ = i64 1 from rfl)) rfl ?_
  refine Lx.y (mv rfl) rfl ?_
  refine Lx.nil ?_
  refine Xx.tn ?_
  refine Xx.rn ?_
  refine Cx.seq (fun K12 k12 => ?_)
  refine Cx.region ?_
  refine Lx.y (Yx.tt (lss rfl rfl) (by decide)) rfl ?_
  refine Lx.nil ?_
  refine Xx.tn (k12 _ _ _ _ ?_)
  refine Cx.seq (fun K13 k13 => ?_)
  refine Cx.condT rfl ?_
  refine Cx.skip ?_
  refine Xx.tn (k13 _ _ _ _ ?_)
  refine Cx.seq (fun K14 k14 => ?_)
  refine Cx.block ?_
  refine Cx.seq (fun K15 k15 => ?_)
  refine Cx.region ?_
  refine Lx.y (mv rfl) rfl ?_
  refine Lx.y (asg rfl) rfl ?_
  refine Lx.nil ?_
  refine Xx.tn (k15 _ _ _ _ ?_)
  refine Cx.seq (fun K16 k16 => ?_)
  refine Cx.region ?_
  refine Lx.y (mv rfl) rfl ?_
  refine Lx.y (mv rfl) rfl ?_
  refine Lx.y (mv rfl) rfl ?_
  refine Lx.y (ia Try.underlying22 sz9 rfl rfl (show Int.toNat _ = 1 from rfl) (by decide) (by decide)) rfl ?_
  refine Lx.y (ldB Try.underlying9 rfl rfl hBn rfl) rfl ?_
  refine Xx.openT (some ⟨bA, 0, none⟩) (by decide) (fun bF sp hA hxl hnc hcl => ?_)
  have hbF : bA = bF := by injection hA with h; injection h
  subst hbF
  refine Lx.c rfl rfl rfl (BSF1_ct bA _ sp _) (PickB.eq) rfl ?_
  rintro v B1 H1 ⟨rfl, hBB, rfl⟩ hB1
  subst hBB
  rename Frag => B
  clear hB1
  refine Xx.closeT bA F1 sp 7 1 _ rfl hxl hnc hcl ?_
  refine Lx.y (mv rfl) rfl ?_
  refine Lx.y (ext rfl rfl) rfl ?_
  refine Lx.y (ext rfl rfl) rfl ?_
  refine Lx.y (asg rfl) rfl ?_
  refine Lx.y (asg rfl) rfl ?_
  refine Lx.nil ?_
  refine Xx.tn (k16 _ _ _ _ ?_)
  refine Cx.seq (fun K17 k17 => ?_)
  refine Cx.seq (fun K18 k18 => ?_)
  refine Cx.region ?_
  refine Lx.y (mv rfl) rfl ?_
  refine Lx.nil ?_
  refine Xx.tn (k18 _ _ _ _ ?_)
  refine Cx.condF rfl ?_
  refine Cx.skip ?_
  refine Xx.tn (k17 _ _ _ _ ?_)
  refine Cx.drawn (by kernel_rfl) ?_
  refine Dx.p (i := 0) rfl (by kernel_rfl) (mv rfl) rfl ?_
  refine Dx.p (i := 1) rfl (by kernel_rfl) (mv rfl) rfl ?_
  refine Dx.p (i := 2) rfl (by kernel_rfl) (mv rfl) rfl ?_
  refine Dx.p (i := 3) rfl (by kernel_rfl) (mv rfl) rfl ?_
  refine Dx.p (i := 4) rfl (by kernel_rfl) (ia Try.underlying22 sz9 rfl rfl (show Int.toNat _ = 1 from rfl) (by decide) (by decide)) rfl ?_
  refine Dx.r (i := 5) rfl (by kernel_rfl) (ldB Try.underlying9 rfl rfl hBn rfl) rfl ?_
  refine Dx.p (i := 6) rfl (by kernel_rfl) (mv rfl) rfl ?_
  refine Dx.p (i := 7) rfl (by kernel_rfl) (mv rfl) rfl ?_
  refine Dx.p (i := 8) rfl (by kernel_rfl) (ia Try.underlying44 sz46 rfl rfl (show Int.toNat _ = 1 from rfl) (by decide) (by decide)) rfl ?_
  refine Dx.r (i := 9) rfl (by kernel_rfl) (ldA Try.underlying46 rfl sz46 rfl (Cells.base (n := 6) hBp rfl) rfl) rfl ?_
  refine Dx.p (i := 10) rfl (by kernel_rfl) (bld ti119 pl119 rfl rfl) rfl ?_
  refine Dx.one (i := 11) (by kernel_rfl) ?_
  refine Dstep.o (i := 11) rfl (bslA Try.underlying116 ti119 rfl rfl (by decide)) rfl (fun v B' H' hΦ hB => ?_)
  obtain ⟨b8, rfl, rfl, rfl⟩ := hΦ; clear hB
  refine ⟨JOk.yes (JOk.yes (JOk.top) (ldB Try.underlying9 rfl rfl hBn rfl)) (ldA Try.underlying46 rfl sz46 rfl (Cells.base (n := 6) hBp rfl) rfl), ?_⟩
  refine Dx.one (i := 12) (by kernel_rfl) ?_
  refine Dstep.o (i := 12) rfl (Ox.call rfl rfl rfl (InsF_ct _ 0 1 _ F1 b8 119 F2 _ (by decide) rfl rfl rfl rfl (by decide)) ((star_left _ _ _).trans (star_assoc _ _ _).symm)) rfl (fun v B' H' hΦ hB => ?_)
  obtain ⟨_, rfl, hΦ⟩ := hΦ
  obtain ⟨A9, c9, rfl, hBB, rfl, ⟨bA, rfl⟩, hc9⟩ := hΦ
  subst hBB
  rename Frag => B
  clear hB
  refine ⟨JOk.yes (JOk.yes (JOk.top) (ldB Try.underlying9 rfl rfl hBn rfl)) (ldA Try.underlying46 rfl sz46 rfl (Cells.base (n := 6) hBp rfl) rfl), ?_⟩
  refine Dx.p (i := 13) rfl (by kernel_rfl) (asg rfl) rfl ?_
  refine Dx.done (by kernel_rfl) ?_
  refine Xx.bn ?_
  refine Xx.tn (k14 _ _ _ _ ?_)
  refine Cx.region ?_
  refine Lx.y (Yx.val (add rfl rfl (show IntKind.i64.wrap _ = _ from rfl)) (show _ = i64 2 from rfl)) rfl ?_
  refine Lx.y (mv rfl) rfl ?_
  refine Lx.nil ?_
  refine Xx.tn ?_
  refine Xx.rn ?_
  refine Cx.seq (fun K19 k19 => ?_)
  refine Cx.region ?_
  refine Lx.y (Yx.ff (lss rfl rfl) (by decide)) rfl ?_
  refine Lx.nil ?_
  refine Xx.tn (k19 _ _ _ _ ?_)
  refine Cx.seq (fun K20 k20 => ?_)
  refine Cx.condF rfl ?_
  refine Cx.exit ?_
  refine Xx.te ?_
  refine Xx.te ?_
  refine Xx.bh ?_
  refine Xx.tn (k3 _ _ _ _ ?_)
  refine Cx.seq (fun K21 k21 => ?_)
  refine Cx.region ?_
  refine Lx.y (bld ti46 pl46 rfl rfl) rfl ?_
  refine Lx.new (allocO ti46) rfl (fun b10 => ?_)
  refine Lx.st (stA (d := .bool) sz46 rfl rfl rfl rfl (by show 0 + 6 ≤ 6; omega) rfl) ?_
  refine Lx.nil ?_
  refine Xx.tn (k21 _ _ _ _ ?_)
  refine Cx.seq (fun K22 k22 => ?_)
  refine Cx.seq (fun K23 k23 => ?_)
  refine Xx.openT (some ⟨bA, 0, none⟩) (by decide) (fun bF sp hA hxl hnc hcl => ?_)
  have hbF : bA = bF := by injection hA with h; injection h
  subst hbF
  refine Xx.perm (H' := sbuf 9 1 none 0 0 [] * (sbuf 46 6 none 0 0 [] * _)) ?_ (by rw [sbuf_nil, sbuf_nil, one_star, one_star])
  refine Cx.region ?_
  refine Lx.y (mv rfl) rfl ?_
  refine Lx.y (Yx.val (lenV (ty' := 0) Try.underlying116 rfl) (show _ = i64 2 from rfl)) rfl ?_
  refine Lx.y (mv rfl) rfl ?_
  refine Lx.nil ?_
  refine Xx.tn (k23 _ _ _ _ ?_)
  refine Cx.block ?_
  refine Cx.unroll (3) ?_
  refine Xx.rn ?_
  refine Cx.seq (fun K24 k24 => ?_)
  refine Cx.region ?_
  refine Lx.y (Yx.tt (lss rfl rfl) (by decide)) rfl ?_
  refine Lx.nil ?_
  refine Xx.tn (k24 _ _ _ _ ?_)
  refine Cx.seq (fun K25 k25 => ?_)
  refine Cx.condT rfl ?_
  refine Cx.skip ?_
  refine Xx.tn (k25 _ _ _ _ ?_)
  refine Cx.cutK (ds' := []) (Sub.cons (s := 0) rfl (Sub.cons (s := 1) rfl (Sub.cons (s := 4) rfl (Sub.cons (s := 5) rfl (Sub.cons (s := 6) rfl (Sub.cons (s := 7) rfl (Sub.cons (s := 8) rfl (Sub.cons (s := 9) rfl (Sub.cons (s := 12) rfl (Sub.cons (s := 13) rfl (Sub.cons (s := 14) rfl (Sub.cons (s := 15) rfl (Sub.cons (s := 16) rfl (Sub.cons (s := 17) rfl (Sub.cons (s := 18) rfl (Sub.cons (s := 19) rfl (Sub.cons (s := 20) rfl (Sub.cons (s := 21) rfl (Sub.cons (s := 22) rfl (Sub.cons (s := 23) rfl (Sub.cons (s := 24) rfl (Sub.cons (s := 25) rfl (Sub.cons (s := 26) rfl (Sub.cons (s := 27) rfl (Sub.cons (s := 28) rfl (Sub.cons (s := 29) rfl (Sub.cons (s := 38) rfl (Sub.cons (s := 39) rfl (Sub.cons (s := 40) rfl (Sub.cons (s := 41) rfl (Sub.cons (s := 42) rfl (Sub.cons (s := 43) rfl (Sub.cons (s := 44) rfl (Sub.cons (s := 45) rfl (Sub.cons (s := 46) rfl (Sub.cons (s := 47) rfl (Sub.cons (s := 48) rfl (Sub.cons (s := 49) rfl (Sub.cons (s := 50) rfl (Sub.cons (s := 51) rfl (Sub.cons (s := 52) rfl (Sub.cons (s := 53) rfl (Sub.cons (s := 54) rfl (Sub.cons (s := 55) rfl (Sub.cons (s := 56) rfl (Sub.nil _)))))))))))))))))))))))))))))))))))))))))))))) (fun ρ' B' H' => ∃ An cn Ap cp, ρ' = [] ∧ B = B' ∧ 1 ≤ cn ∧ 1 ≤ cp ∧ sbuf 9 1 An 1 cn [str [97]] * (sbuf 46 6 Ap 1 cp [i64 3, .bool false, i64 0, str [120], .slice none 0 0, .slice none 0 0] * (row b10 46 [i64 6, .bool false, i64 0, str [], .slice Ap 1 cp, .slice An 1 cn] * (row bA 119 (F2 ++ F1 ++ sp) * (row b4 46 [i64 0, .bool false, i64 0, str [], .slice none 0 0, .slice none 0 0] * R)))) = H') ?_ ?_
  · skip
    refine Cx.block ?_
    refine Cx.seq (fun K26 k26 => ?_)
    refine Cx.region ?_
    refine Lx.y (ia Try.underlying116 sz119 rfl rfl (show Int.toNat _ = 0 from rfl) (by decide) (by decide)) rfl ?_
    refine Lx.y (ldA Try.underlying119 rfl sz119 rfl (Cells.own (n := 7) PickB.eq rfl) rfl) rfl ?_
    refine Lx.new (allocO ti119) rfl (fun b13 => ?_)
    refine Lx.st (stA (d := .bool) sz119 rfl rfl rfl rfl (by show 0 + 7 ≤ 7; omega) rfl) ?_
    refine Lx.nil ?_
    refine Xx.tn (k26 _ _ _ _ ?_)
    refine Cx.drawn (by kernel_rfl) ?_
    refine Dx.p (i := 0) rfl (by kernel_rfl) (fa' fo46_5 rfl) rfl ?_
    refine Dx.r (i := 1) rfl (by kernel_rfl) (ld Try.underlying22 rfl rfl rfl) rfl ?_
    refine Dx.p (i := 2) rfl (by kernel_rfl) (fa' fo119_0 rfl) rfl ?_
    refine Dx.r (i := 3) rfl (by kernel_rfl) (ld Try.underlying9 rfl rfl rfl) rfl ?_
    refine Dx.p (i := 6) rfl (by kernel_rfl) (fa' fo46_4 rfl) rfl ?_
    refine Dx.r (i := 7) rfl (by kernel_rfl) (ld Try.underlying44 rfl rfl rfl) rfl ?_
    refine Dx.p (i := 8) rfl (by kernel_rfl) (fa' fo119_1 rfl) rfl ?_
    refine Dx.r (i := 9) rfl (by kernel_rfl) (ldA Try.underlying46 rfl sz46 rfl (Cells.own (n := 6) PickB.eq rfl) rfl) rfl ?_
    refine Dx.two (i := 4) (j := 10) (by kernel_rfl) ?_ ?_
    · skip
      refine Dstep.o (i := 4) rfl (bsl1 Try.underlying22 ti9 rfl rfl rfl (by decide)) rfl (fun v B' H' hΦ hB => ?_)
      obtain ⟨b144, rfl, rfl, rfl⟩ := hΦ; clear hB
      refine ⟨JOk.yes (JOk.yes (JOk.edge (JOk.yes (JOk.top) (ld Try.underlying22 rfl rfl rfl)) (by kernel_rfl)) (ld Try.underlying44 rfl rfl rfl)) (ldA Try.underlying46 rfl sz46 rfl (Cells.own (n := 6) PickB.eq rfl) rfl), ?_⟩
      refine Dx.two (i := 5) (j := 10) (by kernel_rfl) ?_ ?_
      · skip
        refine Dstep.o (i := 5) rfl (appN (et := 9) 1 [str [97]] [str [97]] Try.underlying22 Try.underlying22 ti9 rfl rfl rfl rfl rfl (by decide) (by decide) rfl rfl) rfl (fun v B' H' hΦ hB => ?_)
        obtain ⟨An1, An19, rfl, _, _, hcA, rfl, rfl⟩ := hΦ
        refine ⟨JOk.yes (JOk.yes (JOk.yes (JOk.edge (JOk.top) (by kernel_rfl)) (ld Try.underlying9 rfl rfl rfl)) (ld Try.underlying44 rfl rfl rfl)) (ldA Try.underlying46 rfl sz46 rfl (Cells.own (n := 6) PickB.eq rfl) rfl), ?_⟩
        refine Dx.p (i := 12) rfl (by kernel_rfl) (fa' fo46_5 rfl) rfl ?_
        refine Dx.one (i := 10) (by kernel_rfl) ?_
        refine Dstep.o (i := 10) rfl (bslA Try.underlying44 ti46 rfl rfl (by decide)) rfl (fun v B' H' hΦ hB => ?_)
        obtain ⟨b1410, rfl, rfl, rfl⟩ := hΦ; clear hB
        refine ⟨JOk.edge (JOk.yes (JOk.yes (JOk.yes (JOk.top) (ld Try.underlying22 rfl rfl rfl)) (ld Try.underlying9 rfl rfl rfl)) (ld Try.underlying44 rfl rfl rfl)) (by kernel_rfl), ?_⟩
        refine Dx.one (i := 11) (by kernel_rfl) ?_
        refine Dstep.o (i := 11) rfl (appN (et := 46) 1 [i64 3, .bool false, i64 0, str [120], .slice none 0 0, .slice none 0 0] [i64 3, .bool false, i64 0, str [120], .slice none 0 0, .slice none 0 0] Try.underlying44 Try.underlying44 ti46 rfl rfl rfl rfl rfl (by decide) (by decide) rfl rfl) rfl (fun v B' H' hΦ hB => ?_)
        obtain ⟨Ap1, Ap19, rfl, _, _, hcB, rfl, rfl⟩ := hΦ
        refine ⟨JOk.yes (JOk.edge (JOk.yes (JOk.yes (JOk.top) (ld Try.underlying22 rfl rfl rfl)) (ld Try.underlying9 rfl rfl rfl)) (by kernel_rfl)) (ldA Try.underlying46 rfl sz46 rfl (Cells.own (n := 6) PickB.eq rfl) rfl), ?_⟩
        refine Dx.one (i := 13) (by kernel_rfl) ?_
        refine Dstep.o0 (i := 13) rfl (stO Try.underlying22 sz22 rfl rfl rfl (by simp) rfl) (fun v B' H' hΦ hB => ?_)
        obtain ⟨rfl, rfl⟩ := hΦ; clear hB v
        refine ⟨JOk.yes (JOk.edge (JOk.edge (JOk.edge (JOk.top) (by kernel_rfl)) (by kernel_rfl)) (by kernel_rfl)) (ldA Try.underlying46 rfl sz46 rfl (Cells.own (n := 6) PickB.eq rfl) rfl), ?_⟩
        refine Dx.p (i := 14) rfl (by kernel_rfl) (fa' fo46_4 rfl) rfl ?_
        refine Dx.one (i := 15) (by kernel_rfl) ?_
        refine Dstep.o0 (i := 15) rfl (stO Try.underlying44 sz44 rfl rfl rfl (by simp) rfl) (fun v B' H' hΦ hB => ?_)
        obtain ⟨rfl, rfl⟩ := hΦ; clear hB v
        refine ⟨JOk.edge (JOk.edge (JOk.edge (JOk.edge (JOk.top) (by kernel_rfl)) (by kernel_rfl)) (by kernel_rfl)) (by kernel_rfl), ?_⟩
        refine Dx.done (by kernel_rfl) ?_
        refine Xx.bn ?_
        refine Xx.dropB b144 ?_
        refine Xx.dropB b1410 ?_
        refine Xx.dropB b13 ?_
        exact Xx.mkK (⟨_, _, _, _, rfl, rfl, hcA, hcB, by ac_rfl⟩) (Sub.cons (s := 0) rfl (Sub.cons (s := 1) rfl (Sub.cons (s := 4) rfl (Sub.cons (s := 5) rfl (Sub.cons (s := 6) rfl (Sub.cons (s := 7) rfl (Sub.cons (s := 8) rfl (Sub.cons (s := 9) rfl (Sub.cons (s := 12) rfl (Sub.cons (s := 13) rfl (Sub.cons (s := 14) rfl (Sub.cons (s := 15) rfl (Sub.cons (s := 16) rfl (Sub.cons (s := 17) rfl (Sub.cons (s := 18) rfl (Sub.cons (s := 19) rfl (Sub.cons (s := 20) rfl (Sub.cons (s := 21) rfl (Sub.cons (s := 22) rfl (Sub.cons (s := 23) rfl (Sub.cons (s := 24) rfl (Sub.cons (s := 25) rfl (Sub.cons (s := 26) rfl (Sub.cons (s := 27) rfl (Sub.cons (s := 28) rfl (Sub.cons (s := 29) rfl (Sub.cons (s := 38) rfl (Sub.cons (s := 39) rfl (Sub.cons (s := 40) rfl (Sub.cons (s := 41) rfl (Sub.cons (s := 42) rfl (Sub.cons (s := 43) rfl (Sub.cons (s := 44) rfl (Sub.cons (s := 45) rfl (Sub.cons (s := 46) rfl (Sub.cons (s := 47) rfl (Sub.cons (s := 48) rfl (Sub.cons (s := 49) rfl (Sub.cons (s := 50) rfl (Sub.cons (s := 51) rfl (Sub.cons (s := 52) rfl (Sub.cons (s := 53) rfl (Sub.cons (s := 54) rfl (Sub.cons (s := 55) rfl (Sub.cons (s := 56) rfl (Sub.nil _))))))))))))))))))))))))))))))))))))))))))))))
      refine Dstep.o (i := 10) rfl (bslA Try.underlying44 ti46 rfl rfl (by decide)) rfl (fun v B' H' hΦ hB => ?_)
      obtain ⟨b1410, rfl, rfl, rfl⟩ := hΦ; clear hB
      refine ⟨JOk.edge (JOk.yes (JOk.yes (JOk.yes (JOk.top) (ld Try.underlying22 rfl rfl rfl)) (ld Try.underlying9 rfl rfl rfl)) (ld Try.underlying44 rfl rfl rfl)) (by kernel_rfl), ?_⟩
      refine Dx.one (i := 5) (by kernel_rfl) ?_
      refine Dstep.o (i := 5) rfl (appN (et := 9) 1 [str [97]] [str [97]] Try.underlying22 Try.underlying22 ti9 rfl rfl rfl rfl rfl (by decide) (by decide) rfl rfl) rfl (fun v B' H' hΦ hB => ?_)
      obtain ⟨An1, An19, rfl, _, _, hcA, rfl, rfl⟩ := hΦ
      refine ⟨JOk.yes (JOk.yes (JOk.yes (JOk.edge (JOk.top) (by kernel_rfl)) (ld Try.underlying9 rfl rfl rfl)) (ld Try.underlying44 rfl rfl rfl)) (ldA Try.underlying46 rfl sz46 rfl (Cells.own (n := 6) PickB.eq rfl) rfl), ?_⟩
      refine Dx.p (i := 12) rfl (by kernel_rfl) (fa' fo46_5 rfl) rfl ?_
      refine Dx.one (i := 11) (by kernel_rfl) ?_
      refine Dstep.o (i := 11) rfl (appN (et := 46) 1 [i64 3, .bool false, i64 0, str [120], .slice none 0 0, .slice none 0 0] [i64 3, .bool false, i64 0, str [120], .slice none 0 0, .slice none 0 0] Try.underlying44 Try.underlying44 ti46 rfl rfl rfl rfl rfl (by decide) (by decide) rfl rfl) rfl (fun v B' H' hΦ hB => ?_)
      obtain ⟨Ap1, Ap19, rfl, _, _, hcB, rfl, rfl⟩ := hΦ
      refine ⟨JOk.yes (JOk.edge (JOk.yes (JOk.yes (JOk.top) (ld Try.underlying22 rfl rfl rfl)) (ld Try.underlying9 rfl rfl rfl)) (by kernel_rfl)) (ldA Try.underlying46 rfl sz46 rfl (Cells.own (n := 6) PickB.eq rfl) rfl), ?_⟩
      refine Dx.one (i := 13) (by kernel_rfl) ?_
      refine Dstep.o0 (i := 13) rfl (stO Try.underlying22 sz22 rfl rfl rfl (by simp) rfl) (fun v B' H' hΦ hB => ?_)
      obtain ⟨rfl, rfl⟩ := hΦ; clear hB v
      refine ⟨JOk.yes (JOk.edge (JOk.edge (JOk.edge (JOk.top) (by kernel_rfl)) (by kernel_rfl)) (by kernel_rfl)) (ldA Try.underlying46 rfl sz46 rfl (Cells.own (n := 6) PickB.eq rfl) rfl), ?_⟩
      refine Dx.p (i := 14) rfl (by kernel_rfl) (fa' fo46_4 rfl) rfl ?_
      refine Dx.one (i := 15) (by kernel_rfl) ?_
      refine Dstep.o0 (i := 15) rfl (stO Try.underlying44 sz44 rfl rfl rfl (by simp) rfl) (fun v B' H' hΦ hB => ?_)
      obtain ⟨rfl, rfl⟩ := hΦ; clear hB v
      refine ⟨JOk.edge (JOk.edge (JOk.edge (JOk.edge (JOk.top) (by kernel_rfl)) (by kernel_rfl)) (by kernel_rfl)) (by kernel_rfl), ?_⟩
      refine Dx.done (by kernel_rfl) ?_
      refine Xx.bn ?_
      refine Xx.dropB b144 ?_
      refine Xx.dropB b1410 ?_
      refine Xx.dropB b13 ?_
      exact Xx.mkK (⟨_, _, _, _, rfl, rfl, hcA, hcB, by ac_rfl⟩) (Sub.cons (s := 0) rfl (Sub.cons (s := 1) rfl (Sub.cons (s := 4) rfl (Sub.cons (s := 5) rfl (Sub.cons (s := 6) rfl (Sub.cons (s := 7) rfl (Sub.cons (s := 8) rfl (Sub.cons (s := 9) rfl (Sub.cons (s := 12) rfl (Sub.cons (s := 13) rfl (Sub.cons (s := 14) rfl (Sub.cons (s := 15) rfl (Sub.cons (s := 16) rfl (Sub.cons (s := 17) rfl (Sub.cons (s := 18) rfl (Sub.cons (s := 19) rfl (Sub.cons (s := 20) rfl (Sub.cons (s := 21) rfl (Sub.cons (s := 22) rfl (Sub.cons (s := 23) rfl (Sub.cons (s := 24) rfl (Sub.cons (s := 25) rfl (Sub.cons (s := 26) rfl (Sub.cons (s := 27) rfl (Sub.cons (s := 28) rfl (Sub.cons (s := 29) rfl (Sub.cons (s := 38) rfl (Sub.cons (s := 39) rfl (Sub.cons (s := 40) rfl (Sub.cons (s := 41) rfl (Sub.cons (s := 42) rfl (Sub.cons (s := 43) rfl (Sub.cons (s := 44) rfl (Sub.cons (s := 45) rfl (Sub.cons (s := 46) rfl (Sub.cons (s := 47) rfl (Sub.cons (s := 48) rfl (Sub.cons (s := 49) rfl (Sub.cons (s := 50) rfl (Sub.cons (s := 51) rfl (Sub.cons (s := 52) rfl (Sub.cons (s := 53) rfl (Sub.cons (s := 54) rfl (Sub.cons (s := 55) rfl (Sub.cons (s := 56) rfl (Sub.nil _))))))))))))))))))))))))))))))))))))))))))))))
    refine Dstep.o (i := 10) rfl (bslA Try.underlying44 ti46 rfl rfl (by decide)) rfl (fun v B' H' hΦ hB => ?_)
    obtain ⟨b1410, rfl, rfl, rfl⟩ := hΦ; clear hB
    refine ⟨JOk.edge (JOk.yes (JOk.yes (JOk.yes (JOk.top) (ld Try.underlying22 rfl rfl rfl)) (ld Try.underlying9 rfl rfl rfl)) (ld Try.underlying44 rfl rfl rfl)) (by kernel_rfl), ?_⟩
    refine Dx.one (i := 4) (by kernel_rfl) ?_
    refine Dstep.o (i := 4) rfl (bsl1 Try.underlying22 ti9 rfl rfl rfl (by decide)) rfl (fun v B' H' hΦ hB => ?_)
    obtain ⟨b144, rfl, rfl, rfl⟩ := hΦ; clear hB
    refine ⟨JOk.yes (JOk.yes (JOk.edge (JOk.yes (JOk.top) (ld Try.underlying22 rfl rfl rfl)) (by kernel_rfl)) (ld Try.underlying44 rfl rfl rfl)) (ldA Try.underlying46 rfl sz46 rfl (Cells.own (n := 6) PickB.eq rfl) rfl), ?_⟩
    refine Dx.one (i := 5) (by kernel_rfl) ?_
    refine Dstep.o (i := 5) rfl (appN (et := 9) 1 [str [97]] [str [97]] Try.underlying22 Try.underlying22 ti9 rfl rfl rfl rfl rfl (by decide) (by decide) rfl rfl) rfl (fun v B' H' hΦ hB => ?_)
    obtain ⟨An1, An19, rfl, _, _, hcA, rfl, rfl⟩ := hΦ
    refine ⟨JOk.yes (JOk.yes (JOk.yes (JOk.edge (JOk.top) (by kernel_rfl)) (ld Try.underlying9 rfl rfl rfl)) (ld Try.underlying44 rfl rfl rfl)) (ldA Try.underlying46 rfl sz46 rfl (Cells.own (n := 6) PickB.eq rfl) rfl), ?_⟩
    refine Dx.p (i := 12) rfl (by kernel_rfl) (fa' fo46_5 rfl) rfl ?_
    refine Dx.one (i := 11) (by kernel_rfl) ?_
    refine Dstep.o (i := 11) rfl (appN (et := 46) 1 [i64 3, .bool false, i64 0, str [120], .slice none 0 0, .slice none 0 0] [i64 3, .bool false, i64 0, str [120], .slice none 0 0, .slice none 0 0] Try.underlying44 Try.underlying44 ti46 rfl rfl rfl rfl rfl (by decide) (by decide) rfl rfl) rfl (fun v B' H' hΦ hB => ?_)
    obtain ⟨Ap1, Ap19, rfl, _, _, hcB, rfl, rfl⟩ := hΦ
    refine ⟨JOk.yes (JOk.edge (JOk.yes (JOk.yes (JOk.top) (ld Try.underlying22 rfl rfl rfl)) (ld Try.underlying9 rfl rfl rfl)) (by kernel_rfl)) (ldA Try.underlying46 rfl sz46 rfl (Cells.own (n := 6) PickB.eq rfl) rfl), ?_⟩
    refine Dx.one (i := 13) (by kernel_rfl) ?_
    refine Dstep.o0 (i := 13) rfl (stO Try.underlying22 sz22 rfl rfl rfl (by simp) rfl) (fun v B' H' hΦ hB => ?_)
    obtain ⟨rfl, rfl⟩ := hΦ; clear hB v
    refine ⟨JOk.yes (JOk.edge (JOk.edge (JOk.edge (JOk.top) (by kernel_rfl)) (by kernel_rfl)) (by kernel_rfl)) (ldA Try.underlying46 rfl sz46 rfl (Cells.own (n := 6) PickB.eq rfl) rfl), ?_⟩
    refine Dx.p (i := 14) rfl (by kernel_rfl) (fa' fo46_4 rfl) rfl ?_
    refine Dx.one (i := 15) (by kernel_rfl) ?_
    refine Dstep.o0 (i := 15) rfl (stO Try.underlying44 sz44 rfl rfl rfl (by simp) rfl) (fun v B' H' hΦ hB => ?_)
    obtain ⟨rfl, rfl⟩ := hΦ; clear hB v
    refine ⟨JOk.edge (JOk.edge (JOk.edge (JOk.edge (JOk.top) (by kernel_rfl)) (by kernel_rfl)) (by kernel_rfl)) (by kernel_rfl), ?_⟩
    refine Dx.done (by kernel_rfl) ?_
    refine Xx.bn ?_
    refine Xx.dropB b144 ?_
    refine Xx.dropB b1410 ?_
    refine Xx.dropB b13 ?_
    exact Xx.mkK (⟨_, _, _, _, rfl, rfl, hcA, hcB, by ac_rfl⟩) (Sub.cons (s := 0) rfl (Sub.cons (s := 1) rfl (Sub.cons (s := 4) rfl (Sub.cons (s := 5) rfl (Sub.cons (s := 6) rfl (Sub.cons (s := 7) rfl (Sub.cons (s := 8) rfl (Sub.cons (s := 9) rfl (Sub.cons (s := 12) rfl (Sub.cons (s := 13) rfl (Sub.cons (s := 14) rfl (Sub.cons (s := 15) rfl (Sub.cons (s := 16) rfl (Sub.cons (s := 17) rfl (Sub.cons (s := 18) rfl (Sub.cons (s := 19) rfl (Sub.cons (s := 20) rfl (Sub.cons (s := 21) rfl (Sub.cons (s := 22) rfl (Sub.cons (s := 23) rfl (Sub.cons (s := 24) rfl (Sub.cons (s := 25) rfl (Sub.cons (s := 26) rfl (Sub.cons (s := 27) rfl (Sub.cons (s := 28) rfl (Sub.cons (s := 29) rfl (Sub.cons (s := 38) rfl (Sub.cons (s := 39) rfl (Sub.cons (s := 40) rfl (Sub.cons (s := 41) rfl (Sub.cons (s := 42) rfl (Sub.cons (s := 43) rfl (Sub.cons (s := 44) rfl (Sub.cons (s := 45) rfl (Sub.cons (s := 46) rfl (Sub.cons (s := 47) rfl (Sub.cons (s := 48) rfl (Sub.cons (s := 49) rfl (Sub.cons (s := 50) rfl (Sub.cons (s := 51) rfl (Sub.cons (s := 52) rfl (Sub.cons (s := 53) rfl (Sub.cons (s := 54) rfl (Sub.cons (s := 55) rfl (Sub.cons (s := 56) rfl (Sub.nil _))))))))))))))))))))))))))))))))))))))))))))))
  · rintro ρ' B' H' ⟨An, cn, Ap, cp, rfl, rfl, hcn, hcp, rfl⟩
    refine Cx.region ?_
    refine Lx.y (Yx.val (add rfl rfl (show IntKind.i64.wrap _ = _ from rfl)) (show _ = i64 1 from rfl)) rfl ?_
    refine Lx.y (mv rfl) rfl ?_
    refine Lx.nil ?_
    refine Xx.tn ?_
    refine Xx.rn ?_
    refine Cx.seq (fun K27 k27 => ?_)
    refine Cx.region ?_
    refine Lx.y (Yx.tt (lss rfl rfl) (by decide)) rfl ?_
    refine Lx.nil ?_
    refine Xx.tn (k27 _ _ _ _ ?_)
    refine Cx.seq (fun K28 k28 => ?_)
    refine Cx.condT rfl ?_
    refine Cx.skip ?_
    refine Xx.tn (k28 _ _ _ _ ?_)
    refine Cx.cutK (ds' := []) (Sub.cons (s := 0) rfl (Sub.cons (s := 1) rfl (Sub.cons (s := 4) rfl (Sub.cons (s := 5) rfl (Sub.cons (s := 6) rfl (Sub.cons (s := 7) rfl (Sub.cons (s := 8) rfl (Sub.cons (s := 9) rfl (Sub.cons (s := 12) rfl (Sub.cons (s := 13) rfl (Sub.cons (s := 14) rfl (Sub.cons (s := 15) rfl (Sub.cons (s := 16) rfl (Sub.cons (s := 17) rfl (Sub.cons (s := 18) rfl (Sub.cons (s := 19) rfl (Sub.cons (s := 20) rfl (Sub.cons (s := 21) rfl (Sub.cons (s := 22) rfl (Sub.cons (s := 23) rfl (Sub.cons (s := 24) rfl (Sub.cons (s := 25) rfl (Sub.cons (s := 26) rfl (Sub.cons (s := 27) rfl (Sub.cons (s := 28) rfl (Sub.cons (s := 29) rfl (Sub.cons (s := 38) rfl (Sub.cons (s := 39) rfl (Sub.cons (s := 40) rfl (Sub.cons (s := 41) rfl (Sub.cons (s := 42) rfl (Sub.cons (s := 43) rfl (Sub.cons (s := 44) rfl (Sub.cons (s := 45) rfl (Sub.cons (s := 46) rfl (Sub.cons (s := 47) rfl (Sub.cons (s := 48) rfl (Sub.cons (s := 49) rfl (Sub.cons (s := 50) rfl (Sub.cons (s := 51) rfl (Sub.cons (s := 52) rfl (Sub.cons (s := 53) rfl (Sub.cons (s := 54) rfl (Sub.cons (s := 55) rfl (Sub.cons (s := 56) rfl (Sub.cons (s := 73) rfl (Sub.nil _))))))))))))))))))))))))))))))))))))))))))))))) (fun ρ' B' H' => ∃ An cn Ap cp, ρ' = [] ∧ B = B' ∧ 2 ≤ cn ∧ 2 ≤ cp ∧ sbuf 9 1 An 2 cn [str [97], str [98]] * (sbuf 46 6 Ap 2 cp ([i64 3, .bool false, i64 0, str [120], .slice none 0 0, .slice none 0 0] ++ [i64 2, .bool false, i64 1, str [], .slice none 0 0, .slice none 0 0]) * (row b10 46 [i64 6, .bool false, i64 0, str [], .slice Ap 2 cp, .slice An 2 cn] * (row bA 119 (F2 ++ F1 ++ sp) * (row b4 46 [i64 0, .bool false, i64 0, str [], .slice none 0 0, .slice none 0 0] * R)))) = H') ?_ ?_
    · skip
      refine Cx.block ?_
      refine Cx.seq (fun K29 k29 => ?_)
      refine Cx.region ?_
      refine Lx.y (ia Try.underlying116 sz119 rfl rfl (show Int.toNat _ = 1 from rfl) (by decide) (by decide)) rfl ?_
      refine Lx.y (ldA Try.underlying119 rfl sz119 rfl (Cells.own (n := 7) PickB.eq rfl) rfl) rfl ?_
      refine Lx.new (allocO ti119) rfl (fun b13 => ?_)
      refine Lx.st (stA (d := .bool) sz119 rfl rfl rfl rfl (by show 0 + 7 ≤ 7; omega) rfl) ?_
      refine Lx.nil ?_
      refine Xx.tn (k29 _ _ _ _ ?_)
      refine Cx.drawn (by kernel_rfl) ?_
      refine Dx.p (i := 0) rfl (by kernel_rfl) (fa' fo46_5 rfl) rfl ?_
      refine Dx.r (i := 1) rfl (by kernel_rfl) (ld Try.underlying22 rfl rfl rfl) rfl ?_
      refine Dx.p (i := 2) rfl (by kernel_rfl) (fa' fo119_0 rfl) rfl ?_
      refine Dx.r (i := 3) rfl (by kernel_rfl) (ld Try.underlying9 rfl rfl rfl) rfl ?_
      refine Dx.p (i := 6) rfl (by kernel_rfl) (fa' fo46_4 rfl) rfl ?_
      refine Dx.r (i := 7) rfl (by kernel_rfl) (ld Try.underlying44 rfl rfl rfl) rfl ?_
      refine Dx.p (i := 8) rfl (by kernel_rfl) (fa' fo119_1 rfl) rfl ?_
      refine Dx.r (i := 9) rfl (by kernel_rfl) (ldA Try.underlying46 rfl sz46 rfl (Cells.own (n := 6) PickB.eq rfl) rfl) rfl ?_
      refine Dx.two (i := 4) (j := 10) (by kernel_rfl) ?_ ?_
      · skip
        refine Dstep.o (i := 4) rfl (bsl1 Try.underlying22 ti9 rfl rfl rfl (by decide)) rfl (fun v B' H' hΦ hB => ?_)
        obtain ⟨b144, rfl, rfl, rfl⟩ := hΦ; clear hB
        refine ⟨JOk.yes (JOk.yes (JOk.edge (JOk.yes (JOk.top) (ld Try.underlying22 rfl rfl rfl)) (by kernel_rfl)) (ld Try.underlying44 rfl rfl rfl)) (ldA Try.underlying46 rfl sz46 rfl (Cells.own (n := 6) PickB.eq rfl) rfl), ?_⟩
        refine Dx.two (i := 5) (j := 10) (by kernel_rfl) ?_ ?_
        · skip
          refine Dstep.o (i := 5) rfl (appN (et := 9) 2 [str [98]] [str [97], str [98]] Try.underlying22 Try.underlying22 ti9 rfl rfl rfl rfl rfl (by decide) (by decide) rfl rfl) rfl (fun v B' H' hΦ hB => ?_)
          obtain ⟨An1, An19, rfl, _, _, hcA, rfl, rfl⟩ := hΦ
          refine ⟨JOk.yes (JOk.yes (JOk.yes (JOk.edge (JOk.top) (by kernel_rfl)) (ld Try.underlying9 rfl rfl rfl)) (ld Try.underlying44 rfl rfl rfl)) (ldA Try.underlying46 rfl sz46 rfl (Cells.own (n := 6) PickB.eq rfl) rfl), ?_⟩
          refine Dx.p (i := 12) rfl (by kernel_rfl) (fa' fo46_5 rfl) rfl ?_
          refine Dx.one (i := 10) (by kernel_rfl) ?_
          refine Dstep.o (i := 10) rfl (bslA Try.underlying44 ti46 rfl rfl (by decide)) rfl (fun v B' H' hΦ hB => ?_)
          obtain ⟨b1410, rfl, rfl, rfl⟩ := hΦ; clear hB
          refine ⟨JOk.edge (JOk.yes (JOk.yes (JOk.yes (JOk.top) (ld Try.underlying22 rfl rfl rfl)) (ld Try.underlying9 rfl rfl rfl)) (ld Try.underlying44 rfl rfl rfl)) (by kernel_rfl), ?_⟩
          refine Dx.one (i := 11) (by kernel_rfl) ?_
          refine Dstep.o (i := 11) rfl (appN (et := 46) 2 [i64 2, .bool false, i64 1, str [], .slice none 0 0, .slice none 0 0] ([i64 3, .bool false, i64 0, str [120], .slice none 0 0, .slice none 0 0] ++ [i64 2, .bool false, i64 1, str [], .slice none 0 0, .slice none 0 0]) Try.underlying44 Try.underlying44 ti46 rfl rfl rfl rfl rfl (by decide) (by decide) rfl rfl) rfl (fun v B' H' hΦ hB => ?_)
          obtain ⟨Ap1, Ap19, rfl, _, _, hcB, rfl, rfl⟩ := hΦ
          refine ⟨JOk.yes (JOk.edge (JOk.yes (JOk.yes (JOk.top) (ld Try.underlying22 rfl rfl rfl)) (ld Try.underlying9 rfl rfl rfl)) (by kernel_rfl)) (ldA Try.underlying46 rfl sz46 rfl (Cells.own (n := 6) PickB.eq rfl) rfl), ?_⟩
          refine Dx.one (i := 13) (by kernel_rfl) ?_
          refine Dstep.o0 (i := 13) rfl (stO Try.underlying22 sz22 rfl rfl rfl (by simp) rfl) (fun v B' H' hΦ hB => ?_)
          obtain ⟨rfl, rfl⟩ := hΦ; clear hB v
          refine ⟨JOk.yes (JOk.edge (JOk.edge (JOk.edge (JOk.top) (by kernel_rfl)) (by kernel_rfl)) (by kernel_rfl)) (ldA Try.underlying46 rfl sz46 rfl (Cells.own (n := 6) PickB.eq rfl) rfl), ?_⟩
          refine Dx.p (i := 14) rfl (by kernel_rfl) (fa' fo46_4 rfl) rfl ?_
          refine Dx.one (i := 15) (by kernel_rfl) ?_
          refine Dstep.o0 (i := 15) rfl (stO Try.underlying44 sz44 rfl rfl rfl (by simp) rfl) (fun v B' H' hΦ hB => ?_)
          obtain ⟨rfl, rfl⟩ := hΦ; clear hB v
          refine ⟨JOk.edge (JOk.edge (JOk.edge (JOk.edge (JOk.top) (by kernel_rfl)) (by kernel_rfl)) (by kernel_rfl)) (by kernel_rfl), ?_⟩
          refine Dx.done (by kernel_rfl) ?_
          refine Xx.bn ?_
          refine Xx.dropB b144 ?_
          refine Xx.dropB b1410 ?_
          refine Xx.dropB b13 ?_
          exact Xx.mkK (⟨_, _, _, _, rfl, rfl, hcA, hcB, by ac_rfl⟩) (Sub.cons (s := 0) rfl (Sub.cons (s := 1) rfl (Sub.cons (s := 4) rfl (Sub.cons (s := 5) rfl (Sub.cons (s := 6) rfl (Sub.cons (s := 7) rfl (Sub.cons (s := 8) rfl (Sub.cons (s := 9) rfl (Sub.cons (s := 12) rfl (Sub.cons (s := 13) rfl (Sub.cons (s := 14) rfl (Sub.cons (s := 15) rfl (Sub.cons (s := 16) rfl (Sub.cons (s := 17) rfl (Sub.cons (s := 18) rfl (Sub.cons (s := 19) rfl (Sub.cons (s := 20) rfl (Sub.cons (s := 21) rfl (Sub.cons (s := 22) rfl (Sub.cons (s := 23) rfl (Sub.cons (s := 24) rfl (Sub.cons (s := 25) rfl (Sub.cons (s := 26) rfl (Sub.cons (s := 27) rfl (Sub.cons (s := 28) rfl (Sub.cons (s := 29) rfl (Sub.cons (s := 38) rfl (Sub.cons (s := 39) rfl (Sub.cons (s := 40) rfl (Sub.cons (s := 41) rfl (Sub.cons (s := 42) rfl (Sub.cons (s := 43) rfl (Sub.cons (s := 44) rfl (Sub.cons (s := 45) rfl (Sub.cons (s := 46) rfl (Sub.cons (s := 47) rfl (Sub.cons (s := 48) rfl (Sub.cons (s := 49) rfl (Sub.cons (s := 50) rfl (Sub.cons (s := 51) rfl (Sub.cons (s := 52) rfl (Sub.cons (s := 53) rfl (Sub.cons (s := 54) rfl (Sub.cons (s := 55) rfl (Sub.cons (s := 56) rfl (Sub.cons (s := 73) rfl (Sub.nil _)))))))))))))))))))))))))))))))))))))))))))))))
        refine Dstep.o (i := 10) rfl (bslA Try.underlying44 ti46 rfl rfl (by decide)) rfl (fun v B' H' hΦ hB => ?_)
        obtain ⟨b1410, rfl, rfl, rfl⟩ := hΦ; clear hB
        refine ⟨JOk.edge (JOk.yes (JOk.yes (JOk.yes (JOk.top) (ld Try.underlying22 rfl rfl rfl)) (ld Try.underlying9 rfl rfl rfl)) (ld Try.underlying44 rfl rfl rfl)) (by kernel_rfl), ?_⟩
        refine Dx.one (i := 5) (by kernel_rfl) ?_
        refine Dstep.o (i := 5) rfl (appN (et := 9) 2 [str [98]] [str [97], str [98]] Try.underlying22 Try.underlying22 ti9 rfl rfl rfl rfl rfl (by decide) (by decide) rfl rfl) rfl (fun v B' H' hΦ hB => ?_)
        obtain ⟨An1, An19, rfl, _, _, hcA, rfl, rfl⟩ := hΦ
        refine ⟨JOk.yes (JOk.yes (JOk.yes (JOk.edge (JOk.top) (by kernel_rfl)) (ld Try.underlying9 rfl rfl rfl)) (ld Try.underlying44 rfl rfl rfl)) (ldA Try.underlying46 rfl sz46 rfl (Cells.own (n := 6) PickB.eq rfl) rfl), ?_⟩
        refine Dx.p (i := 12) rfl (by kernel_rfl) (fa' fo46_5 rfl) rfl ?_
        refine Dx.one (i := 11) (by kernel_rfl) ?_
        refine Dstep.o (i := 11) rfl (appN (et := 46) 2 [i64 2, .bool false, i64 1, str [], .slice none 0 0, .slice none 0 0] ([i64 3, .bool false, i64 0, str [120], .slice none 0 0, .slice none 0 0] ++ [i64 2, .bool false, i64 1, str [], .slice none 0 0, .slice none 0 0]) Try.underlying44 Try.underlying44 ti46 rfl rfl rfl rfl rfl (by decide) (by decide) rfl rfl) rfl (fun v B' H' hΦ hB => ?_)
        obtain ⟨Ap1, Ap19, rfl, _, _, hcB, rfl, rfl⟩ := hΦ
        refine ⟨JOk.yes (JOk.edge (JOk.yes (JOk.yes (JOk.top) (ld Try.underlying22 rfl rfl rfl)) (ld Try.underlying9 rfl rfl rfl)) (by kernel_rfl)) (ldA Try.underlying46 rfl sz46 rfl (Cells.own (n := 6) PickB.eq rfl) rfl), ?_⟩
        refine Dx.one (i := 13) (by kernel_rfl) ?_
        refine Dstep.o0 (i := 13) rfl (stO Try.underlying22 sz22 rfl rfl rfl (by simp) rfl) (fun v B' H' hΦ hB => ?_)
        obtain ⟨rfl, rfl⟩ := hΦ; clear hB v
        refine ⟨JOk.yes (JOk.edge (JOk.edge (JOk.edge (JOk.top) (by kernel_rfl)) (by kernel_rfl)) (by kernel_rfl)) (ldA Try.underlying46 rfl sz46 rfl (Cells.own (n := 6) PickB.eq rfl) rfl), ?_⟩
        refine Dx.p (i := 14) rfl (by kernel_rfl) (fa' fo46_4 rfl) rfl ?_
        refine Dx.one (i := 15) (by kernel_rfl) ?_
        refine Dstep.o0 (i := 15) rfl (stO Try.underlying44 sz44 rfl rfl rfl (by simp) rfl) (fun v B' H' hΦ hB => ?_)
        obtain ⟨rfl, rfl⟩ := hΦ; clear hB v
        refine ⟨JOk.edge (JOk.edge (JOk.edge (JOk.edge (JOk.top) (by kernel_rfl)) (by kernel_rfl)) (by kernel_rfl)) (by kernel_rfl), ?_⟩
        refine Dx.done (by kernel_rfl) ?_
        refine Xx.bn ?_
        refine Xx.dropB b144 ?_
        refine Xx.dropB b1410 ?_
        refine Xx.dropB b13 ?_
        exact Xx.mkK (⟨_, _, _, _, rfl, rfl, hcA, hcB, by ac_rfl⟩) (Sub.cons (s := 0) rfl (Sub.cons (s := 1) rfl (Sub.cons (s := 4) rfl (Sub.cons (s := 5) rfl (Sub.cons (s := 6) rfl (Sub.cons (s := 7) rfl (Sub.cons (s := 8) rfl (Sub.cons (s := 9) rfl (Sub.cons (s := 12) rfl (Sub.cons (s := 13) rfl (Sub.cons (s := 14) rfl (Sub.cons (s := 15) rfl (Sub.cons (s := 16) rfl (Sub.cons (s := 17) rfl (Sub.cons (s := 18) rfl (Sub.cons (s := 19) rfl (Sub.cons (s := 20) rfl (Sub.cons (s := 21) rfl (Sub.cons (s := 22) rfl (Sub.cons (s := 23) rfl (Sub.cons (s := 24) rfl (Sub.cons (s := 25) rfl (Sub.cons (s := 26) rfl (Sub.cons (s := 27) rfl (Sub.cons (s := 28) rfl (Sub.cons (s := 29) rfl (Sub.cons (s := 38) rfl (Sub.cons (s := 39) rfl (Sub.cons (s := 40) rfl (Sub.cons (s := 41) rfl (Sub.cons (s := 42) rfl (Sub.cons (s := 43) rfl (Sub.cons (s := 44) rfl (Sub.cons (s := 45) rfl (Sub.cons (s := 46) rfl (Sub.cons (s := 47) rfl (Sub.cons (s := 48) rfl (Sub.cons (s := 49) rfl (Sub.cons (s := 50) rfl (Sub.cons (s := 51) rfl (Sub.cons (s := 52) rfl (Sub.cons (s := 53) rfl (Sub.cons (s := 54) rfl (Sub.cons (s := 55) rfl (Sub.cons (s := 56) rfl (Sub.cons (s := 73) rfl (Sub.nil _)))))))))))))))))))))))))))))))))))))))))))))))
      refine Dstep.o (i := 10) rfl (bslA Try.underlying44 ti46 rfl rfl (by decide)) rfl (fun v B' H' hΦ hB => ?_)
      obtain ⟨b1410, rfl, rfl, rfl⟩ := hΦ; clear hB
      refine ⟨JOk.edge (JOk.yes (JOk.yes (JOk.yes (JOk.top) (ld Try.underlying22 rfl rfl rfl)) (ld Try.underlying9 rfl rfl rfl)) (ld Try.underlying44 rfl rfl rfl)) (by kernel_rfl), ?_⟩
      refine Dx.one (i := 4) (by kernel_rfl) ?_
      refine Dstep.o (i := 4) rfl (bsl1 Try.underlying22 ti9 rfl rfl rfl (by decide)) rfl (fun v B' H' hΦ hB => ?_)
      obtain ⟨b144, rfl, rfl, rfl⟩ := hΦ; clear hB
      refine ⟨JOk.yes (JOk.yes (JOk.edge (JOk.yes (JOk.top) (ld Try.underlying22 rfl rfl rfl)) (by kernel_rfl)) (ld Try.underlying44 rfl rfl rfl)) (ldA Try.underlying46 rfl sz46 rfl (Cells.own (n := 6) PickB.eq rfl) rfl), ?_⟩
      refine Dx.one (i := 5) (by kernel_rfl) ?_
      refine Dstep.o (i := 5) rfl (appN (et := 9) 2 [str [98]] [str [97], str [98]] Try.underlying22 Try.underlying22 ti9 rfl rfl rfl rfl rfl (by decide) (by decide) rfl rfl) rfl (fun v B' H' hΦ hB => ?_)
      obtain ⟨An1, An19, rfl, _, _, hcA, rfl, rfl⟩ := hΦ
      refine ⟨JOk.yes (JOk.yes (JOk.yes (JOk.edge (JOk.top) (by kernel_rfl)) (ld Try.underlying9 rfl rfl rfl)) (ld Try.underlying44 rfl rfl rfl)) (ldA Try.underlying46 rfl sz46 rfl (Cells.own (n := 6) PickB.eq rfl) rfl), ?_⟩
      refine Dx.p (i := 12) rfl (by kernel_rfl) (fa' fo46_5 rfl) rfl ?_
      refine Dx.one (i := 11) (by kernel_rfl) ?_
      refine Dstep.o (i := 11) rfl (appN (et := 46) 2 [i64 2, .bool false, i64 1, str [], .slice none 0 0, .slice none 0 0] ([i64 3, .bool false, i64 0, str [120], .slice none 0 0, .slice none 0 0] ++ [i64 2, .bool false, i64 1, str [], .slice none 0 0, .slice none 0 0]) Try.underlying44 Try.underlying44 ti46 rfl rfl rfl rfl rfl (by decide) (by decide) rfl rfl) rfl (fun v B' H' hΦ hB => ?_)
      obtain ⟨Ap1, Ap19, rfl, _, _, hcB, rfl, rfl⟩ := hΦ
      refine ⟨JOk.yes (JOk.edge (JOk.yes (JOk.yes (JOk.top) (ld Try.underlying22 rfl rfl rfl)) (ld Try.underlying9 rfl rfl rfl)) (by kernel_rfl)) (ldA Try.underlying46 rfl sz46 rfl (Cells.own (n := 6) PickB.eq rfl) rfl), ?_⟩
      refine Dx.one (i := 13) (by kernel_rfl) ?_
      refine Dstep.o0 (i := 13) rfl (stO Try.underlying22 sz22 rfl rfl rfl (by simp) rfl) (fun v B' H' hΦ hB => ?_)
      obtain ⟨rfl, rfl⟩ := hΦ; clear hB v
      refine ⟨JOk.yes (JOk.edge (JOk.edge (JOk.edge (JOk.top) (by kernel_rfl)) (by kernel_rfl)) (by kernel_rfl)) (ldA Try.underlying46 rfl sz46 rfl (Cells.own (n := 6) PickB.eq rfl) rfl), ?_⟩
      refine Dx.p (i := 14) rfl (by kernel_rfl) (fa' fo46_4 rfl) rfl ?_
      refine Dx.one (i := 15) (by kernel_rfl) ?_
      refine Dstep.o0 (i := 15) rfl (stO Try.underlying44 sz44 rfl rfl rfl (by simp) rfl) (fun v B' H' hΦ hB => ?_)
      obtain ⟨rfl, rfl⟩ := hΦ; clear hB v
      refine ⟨JOk.edge (JOk.edge (JOk.edge (JOk.edge (JOk.top) (by kernel_rfl)) (by kernel_rfl)) (by kernel_rfl)) (by kernel_rfl), ?_⟩
      refine Dx.done (by kernel_rfl) ?_
      refine Xx.bn ?_
      refine Xx.dropB b144 ?_
      refine Xx.dropB b1410 ?_
      refine Xx.dropB b13 ?_
      exact Xx.mkK (⟨_, _, _, _, rfl, rfl, hcA, hcB, by ac_rfl⟩) (Sub.cons (s := 0) rfl (Sub.cons (s := 1) rfl (Sub.cons (s := 4) rfl (Sub.cons (s := 5) rfl (Sub.cons (s := 6) rfl (Sub.cons (s := 7) rfl (Sub.cons (s := 8) rfl (Sub.cons (s := 9) rfl (Sub.cons (s := 12) rfl (Sub.cons (s := 13) rfl (Sub.cons (s := 14) rfl (Sub.cons (s := 15) rfl (Sub.cons (s := 16) rfl (Sub.cons (s := 17) rfl (Sub.cons (s := 18) rfl (Sub.cons (s := 19) rfl (Sub.cons (s := 20) rfl (Sub.cons (s := 21) rfl (Sub.cons (s := 22) rfl (Sub.cons (s := 23) rfl (Sub.cons (s := 24) rfl (Sub.cons (s := 25) rfl (Sub.cons (s := 26) rfl (Sub.cons (s := 27) rfl (Sub.cons (s := 28) rfl (Sub.cons (s := 29) rfl (Sub.cons (s := 38) rfl (Sub.cons (s := 39) rfl (Sub.cons (s := 40) rfl (Sub.cons (s := 41) rfl (Sub.cons (s := 42) rfl (Sub.cons (s := 43) rfl (Sub.cons (s := 44) rfl (Sub.cons (s := 45) rfl (Sub.cons (s := 46) rfl (Sub.cons (s := 47) rfl (Sub.cons (s := 48) rfl (Sub.cons (s := 49) rfl (Sub.cons (s := 50) rfl (Sub.cons (s := 51) rfl (Sub.cons (s := 52) rfl (Sub.cons (s := 53) rfl (Sub.cons (s := 54) rfl (Sub.cons (s := 55) rfl (Sub.cons (s := 56) rfl (Sub.cons (s := 73) rfl (Sub.nil _)))))))))))))))))))))))))))))))))))))))))))))))
    · rintro ρ' B' H' ⟨An, cn, Ap, cp, rfl, rfl, hcn, hcp, rfl⟩
      refine Cx.region ?_
      refine Lx.y (Yx.val (add rfl rfl (show IntKind.i64.wrap _ = _ from rfl)) (show _ = i64 2 from rfl)) rfl ?_
      refine Lx.y (mv rfl) rfl ?_
      refine Lx.nil ?_
      refine Xx.tn ?_
      refine Xx.rn ?_
      refine Cx.seq (fun K30 k30 => ?_)
      refine Cx.region ?_
      refine Lx.y (Yx.ff (lss rfl rfl) (by decide)) rfl ?_
      refine Lx.nil ?_
      refine Xx.tn (k30 _ _ _ _ ?_)
      refine Cx.seq (fun K31 k31 => ?_)
      refine Cx.condF rfl ?_
      refine Cx.exit ?_
      refine Xx.te ?_
      refine Xx.te ?_
      refine Xx.bh ?_
      refine Xx.tn (k22 _ _ _ _ ?_)
      refine Cx.seq (fun K32 k32 => ?_)
      refine Cx.region ?_
      refine Lx.y (ldA Try.underlying46 rfl sz46 rfl (Cells.own (n := 6) PickB.eq rfl) rfl) rfl ?_
      refine Lx.st (stA (d := .bool) sz46 rfl rfl rfl rfl (by show 0 + 6 ≤ 6; omega) rfl) ?_
      refine Lx.nil ?_
      refine Xx.tn (k32 _ _ _ _ ?_)
      refine Cx.ret ?_
      refine Xx.freezeT Ap fun B3 hB3 hRo hnc3 _ => ?_
      refine Xx.freezeT An fun B4 hB4 hRo4 hnc4 _ => ?_
      refine Xx.dropB b10 ?_
      refine Xx.dropB bA ?_
      exact Xx.rBa rfl Try.underlying46 rfl sz46 rfl rfl ⟨_, rfl, VAW_R hRo hRo4 hB4 hcn hcp⟩ (Frag.le_trans hB3 hB4)
end VaJ
end Go.Proofs.Ytcoiejmlpinpbaa
