/-
  The walks of the two scans, and of awake.
-/
import Derived.Test.YtgcebieihmlaoaaProg
import Derived.Test.YtgcebieihmlaoaaSlj
import Derived.Test.YtgcebieihmlaoaaFr2
namespace Go.Proofs.Ytgcebieihmlaoaa
open Go.SL Go.RowKit
set_option linter.unusedVariables false
set_option linter.unusedSimpArgs false
set_option maxRecDepth 100000
open Fr1 Fr2
namespace Fr3
theorem sz3 : (Try.prog.info? 3).map (·.size) = some 1 := by kernel_rfl
theorem sz116 : (Try.prog.info? 116).map (·.size) = some 1 := by kernel_rfl
theorem sz119 : (Try.prog.info? 119).map (·.size) = some 3 := by kernel_rfl
theorem ti3 : TI Try.prog 3 [.int .i64 0] 1 8 := TI.of (by kernel_rfl) rfl rfl
theorem ti116 : TI Try.prog 116 [.slice none 0 0] 1 24 := TI.of (by kernel_rfl) rfl rfl
theorem ti119 : TI Try.prog 119 [.int .i64 0, str [], .bool false] 3 32 := TI.of (by kernel_rfl) rfl rfl
theorem fo119_0 : FO Try.prog 119 0 0 1 false := FO.of Try.underlying119 rfl rfl (by kernel_rfl) Try.underlying3 rfl rfl
theorem fo119_1 : FO Try.prog 119 1 1 1 false := FO.of Try.underlying119 rfl rfl (by kernel_rfl) Try.underlying9 rfl rfl

set_option maxHeartbeats 1000000 in
theorem Scan_ct (l : List UInt8) (B : Frag) (hl : l.length ≤ 1048576) : CtB Try.prog 58 [str l] B (fun v B' => ∃ A c, v = .tuple #[.slice A (scanL l).length c, i64 (endL (scanL l))] ∧ RoS B' 3 A (scanL l).length (flatF (scanL l)) ∧ (scanL l).length ≤ c) := by
  refine CtB.of_bodyM Try.func58 rfl (nt := 22) rfl (by kernel_rfl) rfl ?_
  intro N0 w0 R
  refine Cx.seq (fun K1 k1 => ?_)
  refine Cx.region ?_
  refine Lx.y (asg rfl) rfl ?_
  refine Lx.y (asg rfl) rfl ?_
  refine Lx.nil ?_
  refine Xx.tn (k1 _ _ _ _ ?_)
  refine Cx.seq (fun K2 k2 => ?_)
  refine Cx.region ?_
  refine Lx.new (allocO ti116) rfl (fun bo => ?_)
  refine Lx.nil ?_
  refine Xx.tn (k2 _ _ _ _ ?_)
  refine Cx.seq (fun K3 k3 => ?_)
  refine Cx.region ?_
  refine Lx.new (allocO ti3) rfl (fun be => ?_)
  refine Lx.st (stO Try.underlying3 sz3 rfl rfl rfl (by simp) rfl) ?_
  refine Lx.nil ?_
  refine Xx.tn (k3 _ _ _ _ ?_)
  refine Cx.seq (fun K4 k4 => ?_)
  refine Cx.seq (fun K5 k5 => ?_)
  refine Cx.region ?_
  refine Lx.y (mv rfl) rfl ?_
  refine Lx.cb rfl rfl rfl (All_ct l _) rfl ?_
  rintro v B2 ⟨bb, rfl, hbb⟩ hB2
  refine Lx.nil ?_
  refine Xx.tn (k5 _ _ _ _ ?_)
  refine Cx.block ?_
  refine Cx.rangeK (σ := _) (Sub.cons (s := 4) rfl (Sub.cons (s := 5) rfl (Sub.nil _))) rfl rfl (All1_it l bb B2 (by omega) hbb) (show _ = 1 * ((sbuf 119 3 none 0 0 [] * (row bo 116 [.slice none 0 0] * row be 3 [.int .i64 0])) * R) by rw [sbuf_nil, one_star, one_star]; ac_rfl) rfl (fun _ => rfl) (fun pre B' H' => ∃ A c n e xs, n = pre.length ∧ e = endL pre ∧ xs = flatF pre ∧ H' = sbuf 119 3 A n c xs * (row bo 116 [.slice A n c] * row be 3 [i64 e])) (fun _ _ _ _ => False) (fun pre x B1 ρ' B' H' => ∃ bf A c n e xs, n = pre.length ∧ e = endL pre ∧ xs = flatF pre ∧ ρ' = [(6, .pointer (some ⟨bf, 0, none⟩))] ∧ B' = B1 ∧ H' = row bf 119 [i64 x.pos, str x.body, .bool x.good] * (sbuf 119 3 A n c xs * (row bo 116 [.slice A n c] * row be 3 [i64 e]))) (⟨none, 0, 0, 0, [], rfl, rfl, rfl, rfl⟩) ?_ ?_ ?_ ?_
  · rintro lz Nz wz pre x post B1 H1 F K hxs hB1 hJ hK
    obtain ⟨A, c, n, e, xs, hn, he, hxs2, rfl⟩ := hJ
    refine Cx.region ?_
    refine Lx.new (allocO ti119) rfl (fun bf => ?_)
    refine Lx.st (stA (d := .bool) sz119 rfl rfl rfl rfl (by simp) rfl) ?_
    refine Lx.nil ?_
    refine Xx.tn ?_
    exact Xx.sub (Xx.perm (hK _ _ _ ⟨bf, A, c, n, e, xs, hn, he, hxs2, rfl, rfl, rfl⟩ (Frag.le_refl _)) (star_assoc _ _ _).symm) (Sub.cons (s := 6) rfl (Sub.cons (s := 4) rfl (Sub.cons (s := 5) rfl (Sub.nil _))))
  · rintro lz Nz wz pre x post B1 F ρ' B' H' hxs hB1 hBx hAS
    obtain ⟨bf, A, c, n, e, xs, hn, he, hxs2, rfl, rfl, rfl⟩ := hAS
    have hlen := scanF_len l (l.length + 1) 0 (by omega)
    have hxl : (scanL l).length = pre.length + 1 + post.length := by rw [hxs]; simp; omega
    have hxb := scanF_mem l (l.length + 1) 0 (by omega) x (by show x ∈ scanL l; rw [hxs]; simp)
    unfold scanL at hxl
    simp only [star_assoc]
    refine Cx.block ?_
    refine Cx.drawn (by kernel_rfl) ?_
    refine Dx.r (i := 0) rfl (by kernel_rfl) (ld Try.underlying116 rfl rfl rfl) rfl ?_
    refine Dx.r (i := 1) rfl (by kernel_rfl) (ldA Try.underlying119 rfl sz119 rfl (Cells.own (n := 3) PickB.eq rfl) rfl) rfl ?_
    refine Dx.p (i := 4) rfl (by kernel_rfl) (fa' fo119_0 rfl) rfl ?_
    refine Dx.r (i := 5) rfl (by kernel_rfl) (ld Try.underlying3 rfl rfl rfl) rfl ?_
    refine Dx.p (i := 6) rfl (by kernel_rfl) (fa' fo119_1 rfl) rfl ?_
    refine Dx.r (i := 7) rfl (by kernel_rfl) (ld Try.underlying9 rfl rfl rfl) rfl ?_
    refine Dx.p (i := 8) rfl (by kernel_rfl) (lenS Try.underlying9 rfl) rfl ?_
    refine Dx.p (i := 9) rfl (by kernel_rfl) (add rfl rfl (by first | exact wrap64 (by omega) (by omega) | rfl)) rfl ?_
    refine Dx.one (i := 2) (by kernel_rfl) ?_
    refine Dstep.o (i := 2) rfl (bslA Try.underlying116 ti119 rfl rfl (by decide)) rfl (fun v B' H' hΦ hB => ?_)
    obtain ⟨b12, rfl, rfl, rfl⟩ := hΦ; clear hB
    refine ⟨JOk.yes (JOk.yes (JOk.edge (JOk.yes (JOk.top) (ld Try.underlying116 rfl rfl rfl)) (by kernel_rfl)) (ld Try.underlying3 rfl rfl rfl)) (ld Try.underlying9 rfl rfl rfl), ?_⟩
    refine Dx.one (i := 3) (by kernel_rfl) ?_
    refine Dstep.o (i := 3) rfl (appR Try.underlying116 Try.underlying116 ti119 rfl rfl rfl rfl rfl (by omega) (by omega)) rfl (fun v B' H' hΦ hB => ?_)
    obtain ⟨A2, c2, rfl, hA2, hl2, hc2, rfl, rfl⟩ := hΦ
    refine ⟨JOk.yes (JOk.yes (JOk.yes (JOk.edge (JOk.top) (by kernel_rfl)) (ldA Try.underlying119 rfl sz119 rfl (Cells.own (n := 3) PickB.eq rfl) rfl)) (ld Try.underlying3 rfl rfl rfl)) (ld Try.underlying9 rfl rfl rfl), ?_⟩
    refine Dx.one (i := 10) (by kernel_rfl) ?_
    refine Dstep.o0 (i := 10) rfl (stO Try.underlying116 sz116 rfl rfl rfl (by simp) rfl) (fun v B' H' hΦ hB => ?_)
    obtain ⟨rfl, rfl⟩ := hΦ; clear hB v
    refine ⟨JOk.yes (JOk.yes (JOk.edge (JOk.edge (JOk.top) (by kernel_rfl)) (by kernel_rfl)) (ld Try.underlying3 rfl rfl rfl)) (ld Try.underlying9 rfl rfl rfl), ?_⟩
    refine Dx.one (i := 11) (by kernel_rfl) ?_
    refine Dstep.o0 (i := 11) rfl (stO Try.underlying3 sz3 rfl rfl rfl (by simp) rfl) (fun v B' H' hΦ hB => ?_)
    obtain ⟨rfl, rfl⟩ := hΦ; clear hB v
    refine ⟨JOk.edge (JOk.edge (JOk.edge (JOk.edge (JOk.top) (by kernel_rfl)) (by kernel_rfl)) (by kernel_rfl)) (by kernel_rfl), ?_⟩
    refine Dx.done (by kernel_rfl) ?_
    refine Xx.bn ?_
    refine Xx.dropB b12 (Xx.dropB bf ?_)
    exact Xx.rqn ⟨A2, c2, n + 1, x.pos + x.body.length, _, by simp [hn], by simp, (by rw [flatF_snoc, ← hxs2]), rfl⟩ hBx (show row be 3 [i64 (x.pos + x.body.length)] * (row bo 116 [.slice A2 (n + 1) c2] * (sbuf 119 3 A2 (n + 1) c2 (xs ++ [i64 x.pos, str x.body, .bool x.good]) * F)) = (sbuf 119 3 A2 (n + 1) c2 (xs ++ [i64 x.pos, str x.body, .bool x.good]) * (row bo 116 [.slice A2 (n + 1) c2] * row be 3 [i64 (x.pos + x.body.length)])) * F by ac_rfl)
  · rintro D B' H' hBx hJ
    obtain ⟨A, c, n, e, xs, hn, he, hxs2, rfl⟩ := hJ
    simp only [star_assoc]
    refine Xx.bn ?_
    refine Xx.tn (k4 _ _ _ _ ?_)
    refine Cx.seq (fun K7 k7 => ?_)
    refine Cx.drawn (by kernel_rfl) ?_
    refine Dx.r (i := 0) rfl (by kernel_rfl) (ld Try.underlying116 rfl rfl rfl) rfl ?_
    refine Dx.r (i := 1) rfl (by kernel_rfl) (ld Try.underlying3 rfl rfl rfl) rfl ?_
    refine Dx.p (i := 2) rfl (by kernel_rfl) (asg rfl) rfl ?_
    refine Dx.p (i := 3) rfl (by kernel_rfl) (asg rfl) rfl ?_
    refine Dx.done (by kernel_rfl) ?_
    refine Xx.tn (k7 _ _ _ _ ?_)
    refine Cx.ret ?_
    subst hn; subst he; subst hxs2
    refine Xx.freezeT A fun B3 hB3 hRo hnc _ => ?_
    refine Xx.dropB bo (Xx.dropB be ?_)
    exact Xx.rBM (Ds := [D]) (res2 rfl rfl rfl) ⟨A, c, rfl, hRo, hnc⟩ (Frag.le_trans (Frag.le_trans hB2 hBx) hB3) (by simp only [marks, star_assoc])
  · rintro D c pre post B' H' hxs hBx hJx
    exact hJx.elim
end Fr3
end Go.Proofs.Ytgcebieihmlaoaa
