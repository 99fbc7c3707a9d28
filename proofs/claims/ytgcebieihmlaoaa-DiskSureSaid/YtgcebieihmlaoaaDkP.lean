/-
  The reference's disk: bytes put behind; what else is done.
-/
import Derived.Test.YtgcebieihmlaoaaProg
import Derived.Test.YtgcebieihmlaoaaSlj
import Derived.Test.YtgcebieihmlaoaaDkO
namespace Go.Proofs.Ytgcebieihmlaoaa
open Go.SL Go.RowKit
set_option linter.unusedVariables false
set_option linter.unusedSimpArgs false
set_option maxRecDepth 100000
open DkA DkB DkC DkD DkE DkF DkG DkH DkI DkJ DkK DkL DkM DkN DkO
namespace DkP
theorem sz3 : (Try.prog.info? 3).map (·.size) = some 1 := by kernel_rfl
theorem sz4 : (Try.prog.info? 4).map (·.size) = some 1 := by kernel_rfl
theorem sz9 : (Try.prog.info? 9).map (·.size) = some 1 := by kernel_rfl
theorem sz27 : (Try.prog.info? 27).map (·.size) = some 1 := by kernel_rfl
theorem sz30 : (Try.prog.info? 30).map (·.size) = some 5 := by kernel_rfl
theorem sz138 : (Try.prog.info? 138).map (·.size) = some 4 := by kernel_rfl
theorem ti3 : TI Try.prog 3 [.int .i64 0] 1 8 := TI.of (by kernel_rfl) rfl rfl
theorem ti4 : TI Try.prog 4 [.bool false] 1 1 := TI.of (by kernel_rfl) rfl rfl
theorem ti5 : TI Try.prog 5 [.int .u8 0] 1 1 := TI.of (by kernel_rfl) rfl rfl
theorem ti30 : TI Try.prog 30 [.slice none 0 0, .int .i64 0, .slice none 0 0, .int .i64 0, .bool false] 5 72 := TI.of (by kernel_rfl) rfl rfl
theorem ti138 : TI Try.prog 138 [.int .i64 0, str [], str [], .slice none 0 0] 4 64 := TI.of (by kernel_rfl) rfl rfl
theorem fo30_0 : FO Try.prog 30 0 0 1 false := FO.of Try.underlying30 rfl rfl (by kernel_rfl) Try.underlying27 rfl rfl
theorem fo30_1 : FO Try.prog 30 1 1 1 false := FO.of Try.underlying30 rfl rfl (by kernel_rfl) Try.underlying3 rfl rfl
theorem fo30_4 : FO Try.prog 30 4 4 1 false := FO.of Try.underlying30 rfl rfl (by kernel_rfl) Try.underlying4 rfl rfl
theorem fo138_1 : FO Try.prog 138 1 1 1 false := FO.of Try.underlying138 rfl rfl (by kernel_rfl) Try.underlying9 rfl rfl
theorem pl138 : PL Try.prog 138 [(0, 1), (1, 1), (2, 1), (3, 1)] := PL.of Try.underlying138 (by kernel_rfl)

theorem Xx.rBc3 {P : Program} {B B0 : Frag} {H R : HP} {ρ : Sl} {fn : Func} {N0 nt size : Nat} {w0 : World} {r : Option Nat} {Φ : Value → Frag → Prop} {t u u2 : Tmp} {ty : TypeId} {x x2 : Value} {d : TypeDesc} {vs : List Value} {b : Nat} {et : TypeId}
    (hr : fn.results = #[.cell t ty, .tmp u, .tmp u2]) (ht : P.underlying ty = some d) (hd : aggB d = true) (hi : (P.info? ty).map (·.size) = some size) (hv : lk ρ t = some (.pointer (some ⟨b, 0, none⟩))) [hp : PickB H b (.cells vs.toArray et (0, 0)) R] (hl : vs.length = size) (hx : lk ρ u = some x) (hx2 : lk ρ u2 = some x2)
    (hΦ : Φ (.tuple #[.agg vs.toArray, x, x2]) B) (hB : B0.le B) : Xx ⟨P, r, N0, w0, nt⟩ [] (bodyPost P fn (FinB N0 w0 R B0 Φ) .ret) ρ B H := fun a w f bl s => by
  have s' : St N0 B (blk b (.cells vs.toArray et (0, 0)) * R) w := hp.eq ▸ s
  have hl := run_loadVar_row (P := P) w b et ty vs.toArray (0, 0) d s'.blk.1 ht (by cases d <;> simp_all [aggB]) (by rw [hi]; simp [hl])
  have h1 := f.get t _ hv
  have h2 := f.get u _ hx
  have h3 := f.get u2 _ hx2
  refine ⟨f.defers, .tuple #[.agg vs.toArray, x, x2], ?_, _, B, rfl, hΦ, hB, bl, s'.drop⟩
  simp [results, hr, h1, h2, h3, Sem.run_bind, asAddr, hl]

set_option maxHeartbeats 4000000 in
theorem RAppend_ct (d : Rd) (n : Int) (s : List UInt8) (k c0 : Nat) (B : Frag) (h : RdOk B k c0 d) (hk : k ≤ 900) (hc0 : c0 ≤ 900000) (hs : s.length ≤ 400) : CtB Try.prog 44 [.agg (rdc d).toArray, i64 n, str s] B (fun v B' => ∃ (d' : Rd) (a e : Int), v = .tuple #[.agg (rdc d').toArray, i64 a, i64 e] ∧ RdOk B' (k + 1) (c0 + 1) d') := by
  have h0 := h
  have hk2 : k ≤ 1000 := by omega
  obtain ⟨fl, Af, cf, room, ch, off⟩ := d
  obtain ⟨hro, hcap, hlen, hfs, hroom, hch⟩ := h
  simp only at hro hcap hlen hfs hroom hch ⊢
  refine CtB.of_body Try.func44 rfl (nt := 78) rfl (by kernel_rfl) rfl ?_
  intro N0 w0 R
  refine Cx.seq (fun K1 k1 => ?_)
  refine Cx.region ?_
  refine Lx.new (boxA rfl) rfl (fun b3 => ?_)
  refine Lx.new (allocO ti30) rfl (fun b6 => ?_)
  refine Lx.y (asg rfl) rfl ?_
  refine Lx.y (asg rfl) rfl ?_
  refine Lx.nil ?_
  refine Xx.tn (k1 _ _ _ _ ?_)
  refine Cx.seq (fun K2 k2 => ?_)
  refine Cx.seq (fun K3 k3 => ?_)
  refine Cx.region ?_
  refine Lx.y (fa' fo30_4 rfl) rfl ?_
  refine Lx.y (ld Try.underlying4 rfl rfl rfl) rfl ?_
  refine Lx.nil ?_
  refine Xx.tn (k3 _ _ _ _ ?_)
  refine Cx.condB rfl (fun h4 => ?_) (fun h4 => ?_)
  · skip
    refine Cx.seq (fun K5 k5 => ?_)
    refine Cx.region ?_
    refine Lx.y (ldA Try.underlying30 rfl sz30 rfl (Cells.own (n := 5) PickB.eq rfl) rfl) rfl ?_
    refine Lx.st (stA (d := .bool) sz30 rfl rfl rfl rfl (by show 0 + 5 ≤ 5; omega) rfl) ?_
    refine Lx.y (asg rfl) rfl ?_
    refine Lx.y (asg rfl) rfl ?_
    refine Lx.nil ?_
    refine Xx.tn (k5 _ _ _ _ ?_)
    refine Cx.ret ?_
    refine Xx.tr ?_
    refine Xx.dropB b3 ?_
    exact Xx.rBc3 rfl Try.underlying30 rfl sz30 rfl rfl rfl rfl ⟨⟨fl, Af, cf, room, ch, off⟩, _, _, rfl, h0.mono (Frag.le_refl _) (Nat.le_succ _) (Nat.le_succ _)⟩ (Frag.le_refl _)
  · skip
    refine Cx.skip ?_
    refine Xx.tn (k2 _ _ _ _ ?_)
    refine Cx.seq (fun K6 k6 => ?_)
    refine Cx.seq (fun K7 k7 => ?_)
    refine Cx.region ?_
    refine Lx.y (mv rfl) rfl ?_
    refine Lx.y (lss rfl rfl) rfl ?_
    refine Lx.nil ?_
    refine Xx.tn (k7 _ _ _ _ ?_)
    refine Cx.condD rfl (fun h8 => ?_) (fun h8 => ?_)
    · skip
      refine Cx.seq (fun K9 k9 => ?_)
      refine Cx.region ?_
      refine Lx.y (ldA Try.underlying30 rfl sz30 rfl (Cells.own (n := 5) PickB.eq rfl) rfl) rfl ?_
      refine Lx.st (stA (d := .bool) sz30 rfl rfl rfl rfl (by show 0 + 5 ≤ 5; omega) rfl) ?_
      refine Lx.y (asg rfl) rfl ?_
      refine Lx.y (asg rfl) rfl ?_
      refine Lx.nil ?_
      refine Xx.tn (k9 _ _ _ _ ?_)
      refine Cx.ret ?_
      refine Xx.tr ?_
      refine Xx.dropB b3 ?_
      exact Xx.rBc3 rfl Try.underlying30 rfl sz30 rfl rfl rfl rfl ⟨⟨fl, Af, cf, room, ch, off⟩, _, _, rfl, h0.mono (Frag.le_refl _) (Nat.le_succ _) (Nat.le_succ _)⟩ (Frag.le_refl _)
    · skip
      refine Cx.skip ?_
      refine Xx.tn (k6 _ _ _ _ ?_)
      refine Cx.seq (fun K10 k10 => ?_)
      refine Cx.region ?_
      refine Lx.y (mv rfl) rfl ?_
      refine Lx.y (bld ti138 pl138 rfl rfl) rfl ?_
      refine Lx.new (allocO ti138) rfl (fun b9 => ?_)
      refine Lx.st (stA (d := .bool) sz138 rfl rfl rfl rfl (by show 0 + 4 ≤ 4; omega) rfl) ?_
      refine Lx.nil ?_
      refine Xx.tn (k10 _ _ _ _ ?_)
      refine Cx.cutK (ds' := []) (Sub.cons (s := 0) rfl (Sub.cons (s := 1) rfl (Sub.cons (s := 2) rfl (Sub.cons (s := 3) rfl (Sub.cons (s := 6) rfl (Sub.cons (s := 7) rfl (Sub.cons (s := 8) rfl (Sub.cons (s := 9) rfl (Sub.cons (s := 14) rfl (Sub.cons (s := 15) rfl (Sub.cons (s := 17) rfl (Sub.cons (s := 18) rfl (Sub.cons (s := 20) rfl (Sub.cons (s := 21) rfl (Sub.nil _))))))))))))))) (fun ρ' B' H' => ∃ (g : Rf), ρ' = [] ∧ B = B' ∧ row b3 30 (rdc ⟨fl, Af, cf, room, ch, off⟩) * (row b6 30 [.slice none 0 0, i64 0, .slice none 0 0, i64 0, .bool false] * (row b9 138 (rfc g) * R)) = H' ∧ RfOk B k g) ?_ ?_
      · skip
        refine Cx.seq (fun K11 k11 => ?_)
        refine Cx.region ?_
        refine Lx.y (ldA Try.underlying30 rfl sz30 rfl (Cells.own (n := 5) PickB.eq rfl) rfl) rfl ?_
        refine Lx.y (mv rfl) rfl ?_
        refine Lx.cb rfl rfl rfl (RFind_ct ⟨fl, Af, cf, room, ch, off⟩ n k c0 _ h0 hk2 (by omega)) rfl ?_
        rintro v1 B1 ⟨hBB, i, is, rfl, hi, his⟩ hB1
        have hBB2 := hBB.symm
        subst hBB2
        clear hB1
        simp only at hi his
        refine Lx.y (mv rfl) rfl ?_
        refine Lx.y (ext rfl rfl) rfl ?_
        refine Lx.y (ext rfl rfl) rfl ?_
        refine Lx.y (asg rfl) rfl ?_
        refine Lx.y (asg rfl) rfl ?_
        refine Lx.nil ?_
        refine Xx.tn (k11 _ _ _ _ ?_)
        refine Cx.seq (fun K13 k13 => ?_)
        refine Cx.region ?_
        refine Lx.y (mv rfl) rfl ?_
        refine Lx.nil ?_
        refine Xx.tn (k13 _ _ _ _ ?_)
        refine Cx.condB rfl (fun h14 => ?_) (fun h14 => ?_)
        · skip
          have hlt := his h14
          have hfk := hfs _ (List.getElem_mem hlt)
          obtain ⟨b0, o0, cs0, et0, fz0, rfl, hB0, hc0⟩ := flat_at rfc_len hro hlt
          refine Cx.region ?_
          refine Lx.y (fa' fo30_0 rfl) rfl ?_
          refine Lx.y (ld Try.underlying27 rfl rfl rfl) rfl ?_
          refine Lx.y (mv rfl) rfl ?_
          refine Lx.y (ia Try.underlying27 sz138 rfl rfl (Int.toNat_natCast _) (by omega) (by show (i : Int) < (fl.length : Nat); omega)) rfl ?_
          refine Lx.y (ldA Try.underlying138 rfl sz138 rfl (Cells.base (n := 4) hB0 hc0) rfl) rfl ?_
          refine Lx.st (stA (d := .bool) sz138 rfl rfl rfl rfl (by show 0 + 4 ≤ 4; omega) rfl) ?_
          refine Lx.nil ?_
          exact Xx.mkK (⟨fl[i], rfl, rfl, by ac_rfl, hfk⟩) (Sub.cons (s := 0) rfl (Sub.cons (s := 1) rfl (Sub.cons (s := 2) rfl (Sub.cons (s := 3) rfl (Sub.cons (s := 6) rfl (Sub.cons (s := 7) rfl (Sub.cons (s := 8) rfl (Sub.cons (s := 9) rfl (Sub.cons (s := 14) rfl (Sub.cons (s := 15) rfl (Sub.cons (s := 17) rfl (Sub.cons (s := 18) rfl (Sub.cons (s := 20) rfl (Sub.cons (s := 21) rfl (Sub.nil _)))))))))))))))
        · skip
          refine Cx.skip ?_
          exact Xx.mkK (⟨⟨n, [], [], none, 0, []⟩, rfl, rfl, by show _ * (_ * (row b9 138 [i64 n, str [], str [], .slice none 0 0] * R)) = _; ac_rfl, ⟨Nat.zero_le _, Nat.zero_le _, Nat.zero_le _, RoS.nil _ _⟩⟩) (Sub.cons (s := 0) rfl (Sub.cons (s := 1) rfl (Sub.cons (s := 2) rfl (Sub.cons (s := 3) rfl (Sub.cons (s := 6) rfl (Sub.cons (s := 7) rfl (Sub.cons (s := 8) rfl (Sub.cons (s := 9) rfl (Sub.cons (s := 14) rfl (Sub.cons (s := 15) rfl (Sub.cons (s := 17) rfl (Sub.cons (s := 18) rfl (Sub.cons (s := 20) rfl (Sub.cons (s := 21) rfl (Sub.nil _)))))))))))))))
      · rintro ρ' B' H' ⟨g, rfl, rfl, rfl, hg⟩
        obtain ⟨hg1, hg2, hg3, hg4⟩ := hg
        refine Cx.seq (fun K15 k15 => ?_)
        refine Cx.region ?_
        refine Lx.y (fa' fo138_1 rfl) rfl ?_
        refine Lx.y (ld Try.underlying9 rfl rfl rfl) rfl ?_
        refine Lx.y (lenS Try.underlying9 rfl) rfl ?_
        refine Lx.y (asg rfl) rfl ?_
        refine Lx.nil ?_
        refine Xx.tn (k15 _ _ _ _ ?_)
        refine Cx.seq (fun K16 k16 => ?_)
        refine Cx.seq (fun K17 k17 => ?_)
        refine Cx.drawn (by kernel_rfl) ?_
        refine Dx.p (i := 0) rfl (by kernel_rfl) (mv rfl) rfl ?_
        refine Dx.p (i := 1) rfl (by kernel_rfl) (neS rfl rfl) rfl ?_
        refine Dx.p (i := 2) rfl (by kernel_rfl) (mv rfl) rfl ?_
        refine Xx.ifN (t := 39) rfl (fun h18 => ?_) (fun h18 => ?_)
        · skip
          have hne := h18
          refine Dx.pT (i := 3) rfl rfl rfl rfl (by kernel_rfl) (mv rfl) rfl ?_
          refine Dx.pT (i := 4) rfl rfl rfl rfl (by kernel_rfl) (mv rfl) rfl ?_
          refine Dx.pT (i := 5) rfl rfl rfl rfl (by kernel_rfl) (lenS Try.underlying9 rfl) rfl ?_
          refine Dx.pT (i := 6) rfl rfl rfl rfl (by kernel_rfl) (Yx.val (add rfl rfl (by first | exact wrap64 (by omega) (by omega) | rfl)) (show _ = i64 ((g.now.length + s.length : Nat) : Int) from rfl)) rfl ?_
          refine Dx.pT (i := 8) rfl rfl rfl rfl (by kernel_rfl) (mv rfl) rfl ?_
          refine Dx.pT (i := 11) rfl rfl rfl rfl (by kernel_rfl) (fa' fo30_1 rfl) rfl ?_
          refine Dx.rT (i := 12) rfl rfl rfl rfl (by kernel_rfl) (Yx.val (ld Try.underlying3 rfl rfl rfl) (show _ = i64 room from rfl)) rfl ?_
          refine Dx.rT (i := 13) rfl rfl rfl rfl (by kernel_rfl) (ldA Try.underlying30 rfl sz30 rfl (Cells.own (n := 5) PickB.eq rfl) rfl) rfl ?_
          refine Dx.one (i := 7) (by kernel_rfl) ?_
          refine Dstep.oT (i := 7) rfl rfl rfl rfl (Ox.cb rfl rfl rfl (RSec_ct (g.now.length + s.length) _ (by omega))) rfl (fun v B' H' hΦ hB => ?_)
          obtain ⟨rfl, rfl, hBB⟩ := hΦ; have hBB2 := hBB.symm; subst hBB2; clear hB
          refine ⟨JOk.yes (JOk.yes (JOk.top) (Yx.val (ld Try.underlying3 rfl rfl rfl) (show _ = i64 room from rfl))) (ldA Try.underlying30 rfl sz30 rfl (Cells.own (n := 5) PickB.eq rfl) rfl), ?_⟩
          refine Dx.one (i := 9) (by kernel_rfl) ?_
          refine Dstep.oT (i := 9) rfl rfl rfl rfl (Ox.cb rfl rfl rfl (RSec_ct g.now.length _ (by omega))) rfl (fun v B' H' hΦ hB => ?_)
          obtain ⟨rfl, rfl, hBB⟩ := hΦ; have hBB2 := hBB.symm; subst hBB2; clear hB
          refine ⟨JOk.yes (JOk.yes (JOk.top) (Yx.val (ld Try.underlying3 rfl rfl rfl) (show _ = i64 room from rfl))) (ldA Try.underlying30 rfl sz30 rfl (Cells.own (n := 5) PickB.eq rfl) rfl), ?_⟩
          refine Dx.pT (i := 10) rfl rfl rfl rfl (by kernel_rfl) (sub rfl rfl (by exact wrap64 (by unfold sec; omega) (by unfold sec; omega))) rfl ?_
          refine Dx.one (i := 14) (by kernel_rfl) ?_
          refine Dstep.oT (i := 14) rfl rfl rfl rfl (Ox.cb rfl rfl rfl (RUsed_ct ⟨fl, Af, cf, room, ch, off⟩ k c0 _ h0 hk2 (by omega))) rfl (fun v B' H' hΦ hB => ?_)
          obtain ⟨rfl, hΦ⟩ := hΦ
          obtain ⟨hBB, u, rfl, hu⟩ := hΦ
          have hBB2 := hBB.symm
          subst hBB2
          clear hB
          refine ⟨JOk.edge (JOk.yes (JOk.top) (Yx.val (ld Try.underlying3 rfl rfl rfl) (show _ = i64 room from rfl))) (by kernel_rfl), ?_⟩
          refine Dx.pT (i := 15) rfl rfl rfl rfl (by kernel_rfl) (sub rfl rfl (by exact wrap64 (by omega) (by omega))) rfl ?_
          refine Dx.pT (i := 16) rfl rfl rfl rfl (by kernel_rfl) (gtr rfl rfl) rfl ?_
          refine Dx.p (i := 17) rfl (by kernel_rfl) (pickT rfl rfl) rfl ?_
          refine Dx.done (by kernel_rfl) ?_
          refine Xx.tn (k17 _ _ _ _ ?_)
          refine Cx.condD rfl (fun h19 => ?_) (fun h19 => ?_)
          · skip
            refine Cx.seq (fun K20 k20 => ?_)
            refine Cx.region ?_
            refine Lx.y (ldA Try.underlying30 rfl sz30 rfl (Cells.own (n := 5) PickB.eq rfl) rfl) rfl ?_
            refine Lx.st (stA (d := .bool) sz30 rfl rfl rfl rfl (by show 0 + 5 ≤ 5; omega) rfl) ?_
            refine Lx.y (asg rfl) rfl ?_
            refine Lx.y (asg rfl) rfl ?_
            refine Lx.nil ?_
            refine Xx.tn (k20 _ _ _ _ ?_)
            refine Cx.ret ?_
            refine Xx.tr ?_
            refine Xx.dropB b3 (Xx.dropB b9 ?_)
            exact Xx.rBc3 rfl Try.underlying30 rfl sz30 rfl rfl rfl rfl ⟨⟨fl, Af, cf, room, ch, off⟩, _, _, rfl, h0.mono (Frag.le_refl _) (Nat.le_succ _) (Nat.le_succ _)⟩ (Frag.le_refl _)
          · skip
            refine Cx.skip ?_
            refine Xx.tn (k16 _ _ _ _ ?_)
            refine Cx.seq (fun K21 k21 => ?_)
            refine Cx.region ?_
            refine Lx.y (ldA Try.underlying30 rfl sz30 rfl (Cells.own (n := 5) PickB.eq rfl) rfl) rfl ?_
            refine Lx.cp rfl rfl rfl (RStrike_ct ⟨fl, Af, cf, room, ch, off⟩ k c0 _ h0 hk2 (by omega)) rfl ?_
            refine Lx.y (mv rfl) rfl ?_
            refine Lx.y (ext rfl rfl) rfl ?_
            refine Lx.y (ext rfl rfl) rfl ?_
            refine Lx.st (stA (d := .bool) sz30 rfl rfl rfl rfl (by show 0 + 5 ≤ 5; omega) rfl) ?_
            refine Lx.y (asg rfl) rfl ?_
            refine Lx.nil ?_
            refine Xx.tn (k21 _ _ _ _ ?_)
            refine Cx.seq (fun K22 k22 => ?_)
            refine Cx.seq (fun K23 k23 => ?_)
            refine Cx.region ?_
            refine Lx.y (mv rfl) rfl ?_
            refine Lx.nil ?_
            refine Xx.tn (k23 _ _ _ _ ?_)
            refine Cx.condF rfl ?_
            refine Cx.skip ?_
            refine Xx.tn (k22 _ _ _ _ ?_)
            refine Cx.seq (fun K24 k24 => ?_)
            refine Cx.region ?_
            refine Lx.y (fa' fo138_1 rfl) rfl ?_
            refine Lx.y (ld Try.underlying9 rfl rfl rfl) rfl ?_
            refine Lx.y (mv rfl) rfl ?_
            refine Lx.y (catS rfl rfl (by first | omega | (simp <;> omega))) rfl ?_
            refine Lx.y (fa' fo138_1 rfl) rfl ?_
            refine Lx.st (stO Try.underlying9 sz9 rfl rfl rfl (by show 1 < 4; omega) rfl) ?_
            refine Lx.nil ?_
            refine Xx.tn (k24 _ _ _ _ ?_)
            refine Cx.seq (fun K25 k25 => ?_)
            refine Cx.drawn (by kernel_rfl) ?_
            refine Dx.r (i := 0) rfl (by kernel_rfl) (ldA Try.underlying30 rfl sz30 rfl (Cells.own (n := 5) PickB.eq rfl) rfl) rfl ?_
            refine Dx.r (i := 1) rfl (by kernel_rfl) (ldA Try.underlying138 rfl sz138 rfl (Cells.own (n := 4) PickB.eq rfl) rfl) rfl ?_
            refine Dx.p (i := 2) rfl (by kernel_rfl) (mv rfl) rfl ?_
            refine Dx.p (i := 3) rfl (by kernel_rfl) (mv rfl) rfl ?_
            refine Dx.p (i := 4) rfl (by kernel_rfl) (mv rfl) rfl ?_
            refine Dx.p (i := 5) rfl (by kernel_rfl) (lenS Try.underlying9 rfl) rfl ?_
            refine Dx.p (i := 6) rfl (by kernel_rfl) (Yx.val (add rfl rfl (by first | exact wrap64 (by omega) (by omega) | rfl)) (show _ = i64 ((g.now.length + s.length : Nat) : Int) from rfl)) rfl ?_
            refine Dx.p (i := 9) rfl (by kernel_rfl) (mv rfl) rfl ?_
            refine Dx.one (i := 7) (by kernel_rfl) ?_
            refine Dstep.o (i := 7) rfl (Ox.cb rfl rfl rfl (RTouched_ct ⟨g.n, g.now ++ s, g.sure, g.Al, g.cl, g.l⟩ g.now.length (g.now.length + s.length) (k + 1) _ ⟨by simp only [List.length_append]; omega, by simp only; omega, by simp only; omega, hg4⟩ (by omega) (by simp only [List.length_append]; omega) (by omega))) rfl (fun v B' H' hΦ hB => ?_)
            obtain ⟨rfl, hΦ⟩ := hΦ
            obtain ⟨f2, rfl, _, hf2⟩ := hΦ
            have hB2 := hB
            refine ⟨JOk.edge (JOk.yes (JOk.top) (ldA Try.underlying30 rfl sz30 rfl (Cells.own (n := 5) PickB.eq rfl) rfl)) (by kernel_rfl), ?_⟩
            refine Dx.one (i := 8) (by kernel_rfl) ?_
            refine Dstep.o (i := 8) rfl (Ox.cb rfl rfl rfl (RWith_ct ⟨fl, Af, cf, room, ch + 1, off⟩ f2 k (c0 + 1) _ ⟨hro.mono hB2, hcap, hlen, fun f hf => (hfs f hf).mono hB2 (Nat.le_refl _), hroom, Nat.succ_le_succ hch⟩ (by omega) (by omega) hf2)) rfl (fun v B' H' hΦ hB => ?_)
            obtain ⟨rfl, hΦ⟩ := hΦ
            obtain ⟨d2, rfl, hd2⟩ := hΦ
            have hB3 := Frag.le_trans hB2 hB
            refine ⟨JOk.yes (JOk.edge (JOk.top) (by kernel_rfl)) (ldA Try.underlying138 rfl sz138 rfl (Cells.own (n := 4) PickB.eq rfl) rfl), ?_⟩
            refine Dx.one (i := 10) (by kernel_rfl) ?_
            refine Dstep.o0 (i := 10) rfl (stA (d := .bool) sz30 rfl rfl rfl rfl (by show 0 + 5 ≤ 5; omega) rfl) (fun v B' H' hΦ hB => ?_)
            obtain ⟨hBB, rfl⟩ := hΦ; have hBB2 := hBB.symm; subst hBB2; clear hB v
            refine ⟨JOk.edge (JOk.edge (JOk.top) (by kernel_rfl)) (by kernel_rfl), ?_⟩
            refine Dx.p (i := 11) rfl (by kernel_rfl) (asg rfl) rfl ?_
            refine Dx.p (i := 12) rfl (by kernel_rfl) (asg rfl) rfl ?_
            refine Dx.done (by kernel_rfl) ?_
            refine Xx.tn (k25 _ _ _ _ ?_)
            refine Cx.ret ?_
            refine Xx.dropB b3 (Xx.dropB b9 ?_)
            exact Xx.rBc3 rfl Try.underlying30 rfl sz30 rfl rfl rfl rfl ⟨d2, _, _, rfl, hd2⟩ hB3
        · skip
          have hne := h18
          refine Dx.pF (i := 3) rfl (fun _ h => by cases h) rfl rfl rfl (by kernel_rfl) rfl ?_
          refine Dx.pF (i := 4) rfl (fun _ h => by cases h) rfl rfl rfl (by kernel_rfl) rfl ?_
          refine Dx.pF (i := 5) rfl (fun _ h => by cases h) rfl rfl rfl (by kernel_rfl) rfl ?_
          refine Dx.pF (i := 6) rfl (fun _ h => by cases h) rfl rfl rfl (by kernel_rfl) rfl ?_
          refine Dx.pF (i := 7) rfl (fun _ h => by cases h) rfl rfl rfl (by kernel_rfl) rfl ?_
          refine Dx.pF (i := 8) rfl (fun _ h => by cases h) rfl rfl rfl (by kernel_rfl) rfl ?_
          refine Dx.pF (i := 9) rfl (fun _ h => by cases h) rfl rfl rfl (by kernel_rfl) rfl ?_
          refine Dx.pF (i := 10) rfl (fun _ h => by cases h) rfl rfl rfl (by kernel_rfl) rfl ?_
          refine Dx.pF (i := 11) rfl (fun _ h => by cases h) rfl rfl rfl (by kernel_rfl) rfl ?_
          refine Dx.pF (i := 12) rfl (fun _ h => by cases h) rfl rfl rfl (by kernel_rfl) rfl ?_
          refine Dx.pF (i := 13) rfl (fun _ h => by cases h) rfl rfl rfl (by kernel_rfl) rfl ?_
          refine Dx.pF (i := 14) rfl (fun _ h => by cases h) rfl rfl rfl (by kernel_rfl) rfl ?_
          refine Dx.pF (i := 15) rfl (fun _ h => by cases h) rfl rfl rfl (by kernel_rfl) rfl ?_
          refine Dx.pF (i := 16) rfl (fun _ h => by cases h) rfl rfl rfl (by kernel_rfl) rfl ?_
          refine Dx.p (i := 17) rfl (by kernel_rfl) (pickF rfl rfl) rfl ?_
          refine Dx.done (by kernel_rfl) ?_
          refine Xx.tn (k17 _ _ _ _ ?_)
          refine Cx.condF rfl ?_
          refine Cx.skip ?_
          refine Xx.tn (k16 _ _ _ _ ?_)
          refine Cx.seq (fun K26 k26 => ?_)
          refine Cx.region ?_
          refine Lx.y (ldA Try.underlying30 rfl sz30 rfl (Cells.own (n := 5) PickB.eq rfl) rfl) rfl ?_
          refine Lx.cp rfl rfl rfl (RStrike_ct ⟨fl, Af, cf, room, ch, off⟩ k c0 _ h0 hk2 (by omega)) rfl ?_
          refine Lx.y (mv rfl) rfl ?_
          refine Lx.y (ext rfl rfl) rfl ?_
          refine Lx.y (ext rfl rfl) rfl ?_
          refine Lx.st (stA (d := .bool) sz30 rfl rfl rfl rfl (by show 0 + 5 ≤ 5; omega) rfl) ?_
          refine Lx.y (asg rfl) rfl ?_
          refine Lx.nil ?_
          refine Xx.tn (k26 _ _ _ _ ?_)
          refine Cx.seq (fun K27 k27 => ?_)
          refine Cx.seq (fun K28 k28 => ?_)
          refine Cx.region ?_
          refine Lx.y (mv rfl) rfl ?_
          refine Lx.nil ?_
          refine Xx.tn (k28 _ _ _ _ ?_)
          refine Cx.condF rfl ?_
          refine Cx.skip ?_
          refine Xx.tn (k27 _ _ _ _ ?_)
          refine Cx.seq (fun K29 k29 => ?_)
          refine Cx.region ?_
          refine Lx.y (fa' fo138_1 rfl) rfl ?_
          refine Lx.y (ld Try.underlying9 rfl rfl rfl) rfl ?_
          refine Lx.y (mv rfl) rfl ?_
          refine Lx.y (catS rfl rfl (by first | omega | (simp <;> omega))) rfl ?_
          refine Lx.y (fa' fo138_1 rfl) rfl ?_
          refine Lx.st (stO Try.underlying9 sz9 rfl rfl rfl (by show 1 < 4; omega) rfl) ?_
          refine Lx.nil ?_
          refine Xx.tn (k29 _ _ _ _ ?_)
          refine Cx.seq (fun K30 k30 => ?_)
          refine Cx.drawn (by kernel_rfl) ?_
          refine Dx.r (i := 0) rfl (by kernel_rfl) (ldA Try.underlying30 rfl sz30 rfl (Cells.own (n := 5) PickB.eq rfl) rfl) rfl ?_
          refine Dx.r (i := 1) rfl (by kernel_rfl) (ldA Try.underlying138 rfl sz138 rfl (Cells.own (n := 4) PickB.eq rfl) rfl) rfl ?_
          refine Dx.p (i := 2) rfl (by kernel_rfl) (mv rfl) rfl ?_
          refine Dx.p (i := 3) rfl (by kernel_rfl) (mv rfl) rfl ?_
          refine Dx.p (i := 4) rfl (by kernel_rfl) (mv rfl) rfl ?_
          refine Dx.p (i := 5) rfl (by kernel_rfl) (lenS Try.underlying9 rfl) rfl ?_
          refine Dx.p (i := 6) rfl (by kernel_rfl) (Yx.val (add rfl rfl (by first | exact wrap64 (by omega) (by omega) | rfl)) (show _ = i64 ((g.now.length + s.length : Nat) : Int) from rfl)) rfl ?_
          refine Dx.p (i := 9) rfl (by kernel_rfl) (mv rfl) rfl ?_
          refine Dx.one (i := 7) (by kernel_rfl) ?_
          refine Dstep.o (i := 7) rfl (Ox.cb rfl rfl rfl (RTouched_ct ⟨g.n, g.now ++ s, g.sure, g.Al, g.cl, g.l⟩ g.now.length (g.now.length + s.length) (k + 1) _ ⟨by simp only [List.length_append]; omega, by simp only; omega, by simp only; omega, hg4⟩ (by omega) (by simp only [List.length_append]; omega) (by omega))) rfl (fun v B' H' hΦ hB => ?_)
          obtain ⟨rfl, hΦ⟩ := hΦ
          obtain ⟨f2, rfl, _, hf2⟩ := hΦ
          have hB2 := hB
          refine ⟨JOk.edge (JOk.yes (JOk.top) (ldA Try.underlying30 rfl sz30 rfl (Cells.own (n := 5) PickB.eq rfl) rfl)) (by kernel_rfl), ?_⟩
          refine Dx.one (i := 8) (by kernel_rfl) ?_
          refine Dstep.o (i := 8) rfl (Ox.cb rfl rfl rfl (RWith_ct ⟨fl, Af, cf, room, ch + 1, off⟩ f2 k (c0 + 1) _ ⟨hro.mono hB2, hcap, hlen, fun f hf => (hfs f hf).mono hB2 (Nat.le_refl _), hroom, Nat.succ_le_succ hch⟩ (by omega) (by omega) hf2)) rfl (fun v B' H' hΦ hB => ?_)
          obtain ⟨rfl, hΦ⟩ := hΦ
          obtain ⟨d2, rfl, hd2⟩ := hΦ
          have hB3 := Frag.le_trans hB2 hB
          refine ⟨JOk.yes (JOk.edge (JOk.top) (by kernel_rfl)) (ldA Try.underlying138 rfl sz138 rfl (Cells.own (n := 4) PickB.eq rfl) rfl), ?_⟩
          refine Dx.one (i := 10) (by kernel_rfl) ?_
          refine Dstep.o0 (i := 10) rfl (stA (d := .bool) sz30 rfl rfl rfl rfl (by show 0 + 5 ≤ 5; omega) rfl) (fun v B' H' hΦ hB => ?_)
          obtain ⟨hBB, rfl⟩ := hΦ; have hBB2 := hBB.symm; subst hBB2; clear hB v
          refine ⟨JOk.edge (JOk.edge (JOk.top) (by kernel_rfl)) (by kernel_rfl), ?_⟩
          refine Dx.p (i := 11) rfl (by kernel_rfl) (asg rfl) rfl ?_
          refine Dx.p (i := 12) rfl (by kernel_rfl) (asg rfl) rfl ?_
          refine Dx.done (by kernel_rfl) ?_
          refine Xx.tn (k30 _ _ _ _ ?_)
          refine Cx.ret ?_
          refine Xx.dropB b3 (Xx.dropB b9 ?_)
          exact Xx.rBc3 rfl Try.underlying30 rfl sz30 rfl rfl rfl rfl ⟨d2, _, _, rfl, hd2⟩ hB3

set_option maxHeartbeats 8000000 in
theorem RChange_ct (d : Rd) (kind n at_ : Int) (s : List UInt8) (k c0 : Nat) (B : Frag) (h : RdOk B k c0 d) (hk : k ≤ 900) (hc0 : c0 ≤ 900000) (hs : s.length ≤ 400) : CtB Try.prog 42 [.agg (rdc d).toArray, i64 kind, i64 n, i64 at_, str s] B (fun v B' => ∃ (d' : Rd) (e : Int), v = .tuple #[.agg (rdc d').toArray, i64 e] ∧ RdOk B' (k + 1) (c0 + 1) d') := by
  have h0 := h
  have hk2 : k ≤ 1000 := by omega
  obtain ⟨fl, Af, cf, room, ch, off⟩ := d
  obtain ⟨hro, hcap, hlen, hfs, hroom, hch⟩ := h
  simp only at hro hcap hlen hfs hroom hch ⊢
  refine CtB.of_body Try.func42 rfl (nt := 137) rfl (by kernel_rfl) rfl ?_
  intro N0 w0 R
  refine Cx.seq (fun K1 k1 => ?_)
  refine Cx.region ?_
  refine Lx.new (boxA rfl) rfl (fun b5 => ?_)
  refine Lx.new (allocO ti30) rfl (fun b10 => ?_)
  refine Lx.y (asg rfl) rfl ?_
  refine Lx.nil ?_
  refine Xx.tn (k1 _ _ _ _ ?_)
  refine Cx.seq (fun K2 k2 => ?_)
  refine Cx.seq (fun K3 k3 => ?_)
  refine Cx.region ?_
  refine Lx.y (fa' fo30_4 rfl) rfl ?_
  refine Lx.y (ld Try.underlying4 rfl rfl rfl) rfl ?_
  refine Lx.nil ?_
  refine Xx.tn (k3 _ _ _ _ ?_)
  refine Cx.condB rfl (fun h4 => ?_) (fun h4 => ?_)
  · skip
    refine Cx.seq (fun K5 k5 => ?_)
    refine Cx.region ?_
    refine Lx.y (ldA Try.underlying30 rfl sz30 rfl (Cells.own (n := 5) PickB.eq rfl) rfl) rfl ?_
    refine Lx.st (stA (d := .bool) sz30 rfl rfl rfl rfl (by show 0 + 5 ≤ 5; omega) rfl) ?_
    refine Lx.y (asg rfl) rfl ?_
    refine Lx.nil ?_
    refine Xx.tn (k5 _ _ _ _ ?_)
    refine Cx.ret ?_
    refine Xx.tr ?_
    refine Xx.dropB b5 ?_
    refine Xx.rBc rfl Try.underlying30 rfl sz30 rfl rfl rfl ⟨⟨fl, Af, cf, room, ch, off⟩, _, rfl, h0.mono (Frag.le_refl _) (Nat.le_succ _) (Nat.le_succ _)⟩ (Frag.le_refl _)
  · skip
    refine Cx.skip ?_
    refine Xx.tn (k2 _ _ _ _ ?_)
    refine Cx.seq (fun K6 k6 => ?_)
    refine Cx.region ?_
    refine Lx.y (ldA Try.underlying30 rfl sz30 rfl (Cells.own (n := 5) PickB.eq rfl) rfl) rfl ?_
    refine Lx.y (mv rfl) rfl ?_
    refine Lx.cb rfl rfl rfl (RFind_ct ⟨fl, Af, cf, room, ch, off⟩ n k c0 _ h0 hk2 (by omega)) rfl ?_
    rintro v1 B1 ⟨hBB, i, is, rfl, hi, his⟩ hB1
    have hBB2 := hBB.symm
    subst hBB2
    clear hB1
    simp only at hi his
    refine Lx.y (mv rfl) rfl ?_
    refine Lx.y (ext rfl rfl) rfl ?_
    refine Lx.y (ext rfl rfl) rfl ?_
    refine Lx.y (asg rfl) rfl ?_
    refine Lx.y (asg rfl) rfl ?_
    refine Lx.nil ?_
    refine Xx.tn (k6 _ _ _ _ ?_)
    refine Cx.seq (fun K8 k8 => ?_)
    refine Cx.seq (fun K9 k9 => ?_)
    refine Cx.region ?_
    refine Lx.y (mv rfl) rfl ?_
    refine Lx.y (not' rfl) rfl ?_
    refine Lx.nil ?_
    refine Xx.tn (k9 _ _ _ _ ?_)
    refine Cx.condB rfl (fun h10 => ?_) (fun h10 => ?_)
    · skip
      skip
      refine Cx.seq (fun K11 k11 => ?_)
      refine Cx.region ?_
      refine Lx.y (ldA Try.underlying30 rfl sz30 rfl (Cells.own (n := 5) PickB.eq rfl) rfl) rfl ?_
      refine Lx.st (stA (d := .bool) sz30 rfl rfl rfl rfl (by show 0 + 5 ≤ 5; omega) rfl) ?_
      refine Lx.y (asg rfl) rfl ?_
      refine Lx.nil ?_
      refine Xx.tn (k11 _ _ _ _ ?_)
      refine Cx.ret ?_
      refine Xx.tr ?_
      refine Xx.dropB b5 ?_
      refine Xx.rBc rfl Try.underlying30 rfl sz30 rfl rfl rfl ⟨⟨fl, Af, cf, room, ch, off⟩, _, rfl, h0.mono (Frag.le_refl _) (Nat.le_succ _) (Nat.le_succ _)⟩ (Frag.le_refl _)
    · skip
      have hlt := his (by simpa using h10)
      obtain ⟨f, hf⟩ : ∃ f, f = fl[i] := ⟨_, rfl⟩
      have hfk : RfOk B k f := by rw [hf]; exact hfs _ (List.getElem_mem hlt)
      obtain ⟨bq, oq, csq, etq, fzq, hAq, hBq, hcq⟩ := flat_at rfc_len hro hlt
      rw [← hf] at hcq
      obtain ⟨hg1, hg2, hg3, hg4⟩ := hfk
      refine Cx.skip ?_
      refine Xx.tn (k8 _ _ _ _ ?_)
      refine Cx.seq (fun K12 k12 => ?_)
      refine Cx.region ?_
      refine Lx.y (fa' fo30_0 rfl) rfl ?_
      refine Lx.y (Yx.val (ld Try.underlying27 rfl rfl rfl) (show _ = Value.slice (some ⟨bq, oq, none⟩) fl.length cf from by rw [← hAq])) rfl ?_
      refine Lx.y (mv rfl) rfl ?_
      refine Lx.y (ia Try.underlying27 sz138 rfl rfl (Int.toNat_natCast _) (by omega) (by omega)) rfl ?_
      refine Lx.y (ldA Try.underlying138 rfl sz138 rfl (Cells.base (n := 4) hBq hcq) rfl) rfl ?_
      refine Lx.new (allocO ti138) rfl (fun b14 => ?_)
      refine Lx.st (stA (d := .bool) sz138 rfl rfl rfl rfl (by show 0 + 4 ≤ 4; omega) rfl) ?_
      refine Lx.nil ?_
      refine Xx.tn (k12 _ _ _ _ ?_)
      refine Cx.seq (fun K13 k13 => ?_)
      refine Cx.cutK (ds' := []) (Sub.cons (s := 0) rfl (Sub.cons (s := 1) rfl (Sub.cons (s := 2) rfl (Sub.cons (s := 3) rfl (Sub.cons (s := 4) rfl (Sub.cons (s := 5) rfl (Sub.cons (s := 10) rfl (Sub.cons (s := 11) rfl (Sub.cons (s := 12) rfl (Sub.cons (s := 13) rfl (Sub.cons (s := 14) rfl (Sub.cons (s := 16) rfl (Sub.cons (s := 17) rfl (Sub.cons (s := 19) rfl (Sub.cons (s := 20) rfl (Sub.cons (s := 21) rfl (Sub.cons (s := 22) rfl (Sub.cons (s := 23) rfl (Sub.cons (s := 24) rfl (Sub.cons (s := 25) rfl (Sub.cons (s := 26) rfl (Sub.cons (s := 28) rfl (Sub.cons (s := 29) rfl (Sub.cons (s := 30) rfl (Sub.cons (s := 31) rfl (Sub.cons (s := 32) rfl (Sub.nil _))))))))))))))))))))))))))) (fun ρ' B' H' => ∃ (bad : Bool), ρ' = [(70, .bool bad)] ∧ B = B' ∧ row b14 138 (rfc f) * (row b10 30 [.slice none 0 0, i64 0, .slice none 0 0, i64 0, .bool false] * (row b5 30 (rdc ⟨fl, Af, cf, room, ch, off⟩) * R)) = H' ∧ (bad = false → (kind = 0 → 0 ≤ at_ ∧ at_ ≤ f.now.length ∧ (s.length : Int) ≤ f.now.length - at_) ∧ (kind = 2 → 0 ≤ at_ ∧ at_ ≤ f.now.length))) ?_ ?_
      · skip
        refine Cx.region ?_
        refine Lx.y (mv rfl) rfl ?_
        refine Lx.y (eqI rfl rfl) rfl ?_
        refine Lx.y (mv rfl) rfl ?_
        refine Xx.ifD (t := 35) rfl (fun h14 => ?_) (fun h14 => ?_)
        · skip
          refine Lx.gT rfl rfl rfl ?_
          refine Lx.y (mv rfl) rfl ?_
          refine Lx.gT rfl rfl rfl ?_
          refine Lx.y (lss rfl rfl) rfl ?_
          refine Lx.gT rfl rfl rfl ?_
          refine Lx.y (mv rfl) rfl ?_
          refine Xx.ifD (t := 38) rfl (fun h15 => ?_) (fun h15 => ?_)
          · skip
            refine Lx.gF rfl rfl rfl rfl ?_
            refine Lx.gF rfl rfl rfl rfl ?_
            refine Lx.gF rfl rfl rfl rfl ?_
            refine Lx.gF rfl rfl rfl rfl ?_
            refine Lx.gF rfl rfl rfl rfl ?_
            refine Lx.gT rfl rfl rfl ?_
            refine Lx.y (pickT rfl rfl) rfl ?_
            refine Lx.gT rfl rfl rfl ?_
            refine Lx.y (mv rfl) rfl ?_
            refine Lx.gF rfl rfl rfl rfl ?_
            refine Lx.gF rfl rfl rfl rfl ?_
            refine Lx.gF rfl rfl rfl rfl ?_
            refine Lx.gF rfl rfl rfl rfl ?_
            refine Lx.gF rfl rfl rfl rfl ?_
            refine Lx.gF rfl rfl rfl rfl ?_
            refine Lx.gF rfl rfl rfl rfl ?_
            refine Lx.gF rfl rfl rfl rfl ?_
            refine Lx.gT rfl rfl rfl ?_
            refine Lx.y (pickT rfl rfl) rfl ?_
            refine Lx.y (pickT rfl rfl) rfl ?_
            refine Lx.y (mv rfl) rfl ?_
            refine Lx.gF rfl rfl rfl rfl ?_
            refine Lx.gF rfl rfl rfl rfl ?_
            refine Lx.gF rfl rfl rfl rfl ?_
            refine Lx.gU rfl rfl rfl rfl ?_
            refine Lx.gU rfl rfl rfl rfl ?_
            refine Lx.gU rfl rfl rfl rfl ?_
            refine Lx.gU rfl rfl rfl rfl ?_
            refine Lx.gU rfl rfl rfl rfl ?_
            refine Lx.gU rfl rfl rfl rfl ?_
            refine Lx.gU rfl rfl rfl rfl ?_
            refine Lx.gU rfl rfl rfl rfl ?_
            refine Lx.gU rfl rfl rfl rfl ?_
            refine Lx.gF rfl rfl rfl rfl ?_
            refine Lx.y (pickT rfl rfl) rfl ?_
            refine Lx.nil ?_
            exact Xx.mkK (⟨_, rfl, rfl, by ac_rfl, fun hb => by first | (exact absurd hb (by decide)) | (have hb2 := of_decide_eq_false hb; omega) | omega⟩) (Sub.cons (s := 70) rfl (Sub.cons (s := 0) rfl (Sub.cons (s := 1) rfl (Sub.cons (s := 2) rfl (Sub.cons (s := 3) rfl (Sub.cons (s := 4) rfl (Sub.cons (s := 5) rfl (Sub.cons (s := 10) rfl (Sub.cons (s := 11) rfl (Sub.cons (s := 12) rfl (Sub.cons (s := 13) rfl (Sub.cons (s := 14) rfl (Sub.cons (s := 16) rfl (Sub.cons (s := 17) rfl (Sub.cons (s := 19) rfl (Sub.cons (s := 20) rfl (Sub.cons (s := 21) rfl (Sub.cons (s := 22) rfl (Sub.cons (s := 23) rfl (Sub.cons (s := 24) rfl (Sub.cons (s := 25) rfl (Sub.cons (s := 26) rfl (Sub.cons (s := 28) rfl (Sub.cons (s := 29) rfl (Sub.cons (s := 30) rfl (Sub.cons (s := 31) rfl (Sub.cons (s := 32) rfl (Sub.nil _))))))))))))))))))))))))))))
          · skip
            refine Lx.gT rfl rfl rfl ?_
            refine Lx.y (mv rfl) rfl ?_
            refine Lx.gT rfl rfl rfl ?_
            refine Lx.y (fa' fo138_1 rfl) rfl ?_
            refine Lx.gT rfl rfl rfl ?_
            refine Lx.y (ld Try.underlying9 rfl rfl rfl) rfl ?_
            refine Lx.gT rfl rfl rfl ?_
            refine Lx.y (lenS Try.underlying9 rfl) rfl ?_
            refine Lx.gT rfl rfl rfl ?_
            refine Lx.y (gtr rfl rfl) rfl ?_
            refine Lx.gT rfl rfl rfl ?_
            refine Lx.y (pickF rfl rfl) rfl ?_
            refine Lx.gT rfl rfl rfl ?_
            refine Lx.y (mv rfl) rfl ?_
            refine Xx.ifD (t := 45) rfl (fun h16 => ?_) (fun h16 => ?_)
            · skip
              refine Lx.gF rfl rfl rfl rfl ?_
              refine Lx.gF rfl rfl rfl rfl ?_
              refine Lx.gF rfl rfl rfl rfl ?_
              refine Lx.gF rfl rfl rfl rfl ?_
              refine Lx.gF rfl rfl rfl rfl ?_
              refine Lx.gF rfl rfl rfl rfl ?_
              refine Lx.gF rfl rfl rfl rfl ?_
              refine Lx.gF rfl rfl rfl rfl ?_
              refine Lx.gT rfl rfl rfl ?_
              refine Lx.y (pickT rfl rfl) rfl ?_
              refine Lx.y (pickT rfl rfl) rfl ?_
              refine Lx.y (mv rfl) rfl ?_
              refine Lx.gF rfl rfl rfl rfl ?_
              refine Lx.gF rfl rfl rfl rfl ?_
              refine Lx.gF rfl rfl rfl rfl ?_
              refine Lx.gU rfl rfl rfl rfl ?_
              refine Lx.gU rfl rfl rfl rfl ?_
              refine Lx.gU rfl rfl rfl rfl ?_
              refine Lx.gU rfl rfl rfl rfl ?_
              refine Lx.gU rfl rfl rfl rfl ?_
              refine Lx.gU rfl rfl rfl rfl ?_
              refine Lx.gU rfl rfl rfl rfl ?_
              refine Lx.gU rfl rfl rfl rfl ?_
              refine Lx.gU rfl rfl rfl rfl ?_
              refine Lx.gF rfl rfl rfl rfl ?_
              refine Lx.y (pickT rfl rfl) rfl ?_
              refine Lx.nil ?_
              exact Xx.mkK (⟨_, rfl, rfl, by ac_rfl, fun hb => by first | (exact absurd hb (by decide)) | (have hb2 := of_decide_eq_false hb; omega) | omega⟩) (Sub.cons (s := 70) rfl (Sub.cons (s := 0) rfl (Sub.cons (s := 1) rfl (Sub.cons (s := 2) rfl (Sub.cons (s := 3) rfl (Sub.cons (s := 4) rfl (Sub.cons (s := 5) rfl (Sub.cons (s := 10) rfl (Sub.cons (s := 11) rfl (Sub.cons (s := 12) rfl (Sub.cons (s := 13) rfl (Sub.cons (s := 14) rfl (Sub.cons (s := 16) rfl (Sub.cons (s := 17) rfl (Sub.cons (s := 19) rfl (Sub.cons (s := 20) rfl (Sub.cons (s := 21) rfl (Sub.cons (s := 22) rfl (Sub.cons (s := 23) rfl (Sub.cons (s := 24) rfl (Sub.cons (s := 25) rfl (Sub.cons (s := 26) rfl (Sub.cons (s := 28) rfl (Sub.cons (s := 29) rfl (Sub.cons (s := 30) rfl (Sub.cons (s := 31) rfl (Sub.cons (s := 32) rfl (Sub.nil _))))))))))))))))))))))))))))
            · skip
              refine Lx.gT rfl rfl rfl ?_
              refine Lx.y (mv rfl) rfl ?_
              refine Lx.gT rfl rfl rfl ?_
              refine Lx.y (lenS Try.underlying9 rfl) rfl ?_
              refine Lx.gT rfl rfl rfl ?_
              refine Lx.y (fa' fo138_1 rfl) rfl ?_
              refine Lx.gT rfl rfl rfl ?_
              refine Lx.y (ld Try.underlying9 rfl rfl rfl) rfl ?_
              refine Lx.gT rfl rfl rfl ?_
              refine Lx.y (lenS Try.underlying9 rfl) rfl ?_
              refine Lx.gT rfl rfl rfl ?_
              refine Lx.y (mv rfl) rfl ?_
              refine Lx.gT rfl rfl rfl ?_
              refine Lx.y (sub rfl rfl (by exact wrap64 (by omega) (by omega))) rfl ?_
              refine Lx.gT rfl rfl rfl ?_
              refine Lx.y (gtr rfl rfl) rfl ?_
              refine Lx.gT rfl rfl rfl ?_
              refine Lx.y (pickF rfl rfl) rfl ?_
              refine Lx.y (pickT rfl rfl) rfl ?_
              refine Lx.y (mv rfl) rfl ?_
              refine Xx.ifD (t := 56) rfl (fun h17 => ?_) (fun h17 => ?_)
              · skip
                refine Lx.gF rfl rfl rfl rfl ?_
                refine Lx.gF rfl rfl rfl rfl ?_
                refine Lx.gF rfl rfl rfl rfl ?_
                refine Lx.gU rfl rfl rfl rfl ?_
                refine Lx.gU rfl rfl rfl rfl ?_
                refine Lx.gU rfl rfl rfl rfl ?_
                refine Lx.gU rfl rfl rfl rfl ?_
                refine Lx.gU rfl rfl rfl rfl ?_
                refine Lx.gU rfl rfl rfl rfl ?_
                refine Lx.gU rfl rfl rfl rfl ?_
                refine Lx.gU rfl rfl rfl rfl ?_
                refine Lx.gU rfl rfl rfl rfl ?_
                refine Lx.gF rfl rfl rfl rfl ?_
                refine Lx.y (pickT rfl rfl) rfl ?_
                refine Lx.nil ?_
                exact Xx.mkK (⟨_, rfl, rfl, by ac_rfl, fun hb => by first | (exact absurd hb (by decide)) | (have hb2 := of_decide_eq_false hb; omega) | omega⟩) (Sub.cons (s := 70) rfl (Sub.cons (s := 0) rfl (Sub.cons (s := 1) rfl (Sub.cons (s := 2) rfl (Sub.cons (s := 3) rfl (Sub.cons (s := 4) rfl (Sub.cons (s := 5) rfl (Sub.cons (s := 10) rfl (Sub.cons (s := 11) rfl (Sub.cons (s := 12) rfl (Sub.cons (s := 13) rfl (Sub.cons (s := 14) rfl (Sub.cons (s := 16) rfl (Sub.cons (s := 17) rfl (Sub.cons (s := 19) rfl (Sub.cons (s := 20) rfl (Sub.cons (s := 21) rfl (Sub.cons (s := 22) rfl (Sub.cons (s := 23) rfl (Sub.cons (s := 24) rfl (Sub.cons (s := 25) rfl (Sub.cons (s := 26) rfl (Sub.cons (s := 28) rfl (Sub.cons (s := 29) rfl (Sub.cons (s := 30) rfl (Sub.cons (s := 31) rfl (Sub.cons (s := 32) rfl (Sub.nil _))))))))))))))))))))))))))))
              · skip
                refine Lx.gT rfl rfl rfl ?_
                refine Lx.y (mv rfl) rfl ?_
                refine Lx.gT rfl rfl rfl ?_
                refine Lx.y (eqI rfl rfl) rfl ?_
                refine Lx.gT rfl rfl rfl ?_
                refine Lx.y (mv rfl) rfl ?_
                refine Xx.ifD (t := 59) rfl (fun h18 => ?_) (fun h18 => ?_)
                · skip
                  refine Lx.gT rfl rfl rfl ?_
                  refine Lx.y (mv rfl) rfl ?_
                  refine Lx.gT rfl rfl rfl ?_
                  refine Lx.y (lss rfl rfl) rfl ?_
                  refine Lx.gT rfl rfl rfl ?_
                  refine Lx.y (mv rfl) rfl ?_
                  refine Xx.ifD (t := 62) rfl (fun h19 => ?_) (fun h19 => ?_)
                  · skip
                    refine Lx.gF rfl rfl rfl rfl ?_
                    refine Lx.gF rfl rfl rfl rfl ?_
                    refine Lx.gF rfl rfl rfl rfl ?_
                    refine Lx.gF rfl rfl rfl rfl ?_
                    refine Lx.gF rfl rfl rfl rfl ?_
                    refine Lx.gT rfl rfl rfl ?_
                    refine Lx.y (pickT rfl rfl) rfl ?_
                    refine Lx.gT rfl rfl rfl ?_
                    refine Lx.y (pickT rfl rfl) rfl ?_
                    refine Lx.y (pickF rfl rfl) rfl ?_
                    refine Lx.nil ?_
                    exact Xx.mkK (⟨_, rfl, rfl, by ac_rfl, fun hb => by first | (exact absurd hb (by decide)) | (have hb2 := of_decide_eq_false hb; omega) | omega⟩) (Sub.cons (s := 70) rfl (Sub.cons (s := 0) rfl (Sub.cons (s := 1) rfl (Sub.cons (s := 2) rfl (Sub.cons (s := 3) rfl (Sub.cons (s := 4) rfl (Sub.cons (s := 5) rfl (Sub.cons (s := 10) rfl (Sub.cons (s := 11) rfl (Sub.cons (s := 12) rfl (Sub.cons (s := 13) rfl (Sub.cons (s := 14) rfl (Sub.cons (s := 16) rfl (Sub.cons (s := 17) rfl (Sub.cons (s := 19) rfl (Sub.cons (s := 20) rfl (Sub.cons (s := 21) rfl (Sub.cons (s := 22) rfl (Sub.cons (s := 23) rfl (Sub.cons (s := 24) rfl (Sub.cons (s := 25) rfl (Sub.cons (s := 26) rfl (Sub.cons (s := 28) rfl (Sub.cons (s := 29) rfl (Sub.cons (s := 30) rfl (Sub.cons (s := 31) rfl (Sub.cons (s := 32) rfl (Sub.nil _))))))))))))))))))))))))))))
                  · skip
                    refine Lx.gT rfl rfl rfl ?_
                    refine Lx.y (mv rfl) rfl ?_
                    refine Lx.gT rfl rfl rfl ?_
                    refine Lx.y (fa' fo138_1 rfl) rfl ?_
                    refine Lx.gT rfl rfl rfl ?_
                    refine Lx.y (ld Try.underlying9 rfl rfl rfl) rfl ?_
                    refine Lx.gT rfl rfl rfl ?_
                    refine Lx.y (lenS Try.underlying9 rfl) rfl ?_
                    refine Lx.gT rfl rfl rfl ?_
                    refine Lx.y (gtr rfl rfl) rfl ?_
                    refine Lx.gT rfl rfl rfl ?_
                    refine Lx.y (pickF rfl rfl) rfl ?_
                    refine Lx.gT rfl rfl rfl ?_
                    refine Lx.y (pickT rfl rfl) rfl ?_
                    refine Lx.y (pickF rfl rfl) rfl ?_
                    refine Lx.nil ?_
                    exact Xx.mkK (⟨_, rfl, rfl, by ac_rfl, fun hb => by first | (exact absurd hb (by decide)) | (have hb2 := of_decide_eq_false hb; omega) | omega⟩) (Sub.cons (s := 70) rfl (Sub.cons (s := 0) rfl (Sub.cons (s := 1) rfl (Sub.cons (s := 2) rfl (Sub.cons (s := 3) rfl (Sub.cons (s := 4) rfl (Sub.cons (s := 5) rfl (Sub.cons (s := 10) rfl (Sub.cons (s := 11) rfl (Sub.cons (s := 12) rfl (Sub.cons (s := 13) rfl (Sub.cons (s := 14) rfl (Sub.cons (s := 16) rfl (Sub.cons (s := 17) rfl (Sub.cons (s := 19) rfl (Sub.cons (s := 20) rfl (Sub.cons (s := 21) rfl (Sub.cons (s := 22) rfl (Sub.cons (s := 23) rfl (Sub.cons (s := 24) rfl (Sub.cons (s := 25) rfl (Sub.cons (s := 26) rfl (Sub.cons (s := 28) rfl (Sub.cons (s := 29) rfl (Sub.cons (s := 30) rfl (Sub.cons (s := 31) rfl (Sub.cons (s := 32) rfl (Sub.nil _))))))))))))))))))))))))))))
                · skip
                  refine Lx.gF rfl rfl rfl rfl ?_
                  refine Lx.gF rfl rfl rfl rfl ?_
                  refine Lx.gF rfl rfl rfl rfl ?_
                  refine Lx.gU rfl rfl rfl rfl ?_
                  refine Lx.gU rfl rfl rfl rfl ?_
                  refine Lx.gU rfl rfl rfl rfl ?_
                  refine Lx.gU rfl rfl rfl rfl ?_
                  refine Lx.gU rfl rfl rfl rfl ?_
                  refine Lx.gF rfl rfl rfl rfl ?_
                  refine Lx.gT rfl rfl rfl ?_
                  refine Lx.y (pickF rfl rfl) rfl ?_
                  refine Lx.y (pickF rfl rfl) rfl ?_
                  refine Lx.nil ?_
                  exact Xx.mkK (⟨_, rfl, rfl, by ac_rfl, fun hb => by first | (exact absurd hb (by decide)) | (have hb2 := of_decide_eq_false hb; omega) | omega⟩) (Sub.cons (s := 70) rfl (Sub.cons (s := 0) rfl (Sub.cons (s := 1) rfl (Sub.cons (s := 2) rfl (Sub.cons (s := 3) rfl (Sub.cons (s := 4) rfl (Sub.cons (s := 5) rfl (Sub.cons (s := 10) rfl (Sub.cons (s := 11) rfl (Sub.cons (s := 12) rfl (Sub.cons (s := 13) rfl (Sub.cons (s := 14) rfl (Sub.cons (s := 16) rfl (Sub.cons (s := 17) rfl (Sub.cons (s := 19) rfl (Sub.cons (s := 20) rfl (Sub.cons (s := 21) rfl (Sub.cons (s := 22) rfl (Sub.cons (s := 23) rfl (Sub.cons (s := 24) rfl (Sub.cons (s := 25) rfl (Sub.cons (s := 26) rfl (Sub.cons (s := 28) rfl (Sub.cons (s := 29) rfl (Sub.cons (s := 30) rfl (Sub.cons (s := 31) rfl (Sub.cons (s := 32) rfl (Sub.nil _))))))))))))))))))))))))))))
        · skip
          refine Lx.gF rfl rfl rfl rfl ?_
          refine Lx.gF rfl rfl rfl rfl ?_
          refine Lx.gF rfl rfl rfl rfl ?_
          refine Lx.gU rfl rfl rfl rfl ?_
          refine Lx.gU rfl rfl rfl rfl ?_
          refine Lx.gU rfl rfl rfl rfl ?_
          refine Lx.gU rfl rfl rfl rfl ?_
          refine Lx.gU rfl rfl rfl rfl ?_
          refine Lx.gF rfl rfl rfl rfl ?_
          refine Lx.gF rfl rfl rfl rfl ?_
          refine Lx.gU rfl rfl rfl rfl ?_
          refine Lx.gU rfl rfl rfl rfl ?_
          refine Lx.gU rfl rfl rfl rfl ?_
          refine Lx.gU rfl rfl rfl rfl ?_
          refine Lx.gU rfl rfl rfl rfl ?_
          refine Lx.gU rfl rfl rfl rfl ?_
          refine Lx.gU rfl rfl rfl rfl ?_
          refine Lx.gU rfl rfl rfl rfl ?_
          refine Lx.gF rfl rfl rfl rfl ?_
          refine Lx.y (pickF rfl rfl) rfl ?_
          refine Lx.y (mv rfl) rfl ?_
          refine Lx.gT rfl rfl rfl ?_
          refine Lx.y (mv rfl) rfl ?_
          refine Lx.gT rfl rfl rfl ?_
          refine Lx.y (eqI rfl rfl) rfl ?_
          refine Lx.gT rfl rfl rfl ?_
          refine Lx.y (mv rfl) rfl ?_
          refine Xx.ifD (t := 59) rfl (fun h20 => ?_) (fun h20 => ?_)
          · skip
            refine Lx.gT rfl rfl rfl ?_
            refine Lx.y (mv rfl) rfl ?_
            refine Lx.gT rfl rfl rfl ?_
            refine Lx.y (lss rfl rfl) rfl ?_
            refine Lx.gT rfl rfl rfl ?_
            refine Lx.y (mv rfl) rfl ?_
            refine Xx.ifD (t := 62) rfl (fun h21 => ?_) (fun h21 => ?_)
            · skip
              refine Lx.gF rfl rfl rfl rfl ?_
              refine Lx.gF rfl rfl rfl rfl ?_
              refine Lx.gF rfl rfl rfl rfl ?_
              refine Lx.gF rfl rfl rfl rfl ?_
              refine Lx.gF rfl rfl rfl rfl ?_
              refine Lx.gT rfl rfl rfl ?_
              refine Lx.y (pickT rfl rfl) rfl ?_
              refine Lx.gT rfl rfl rfl ?_
              refine Lx.y (pickT rfl rfl) rfl ?_
              refine Lx.y (pickF rfl rfl) rfl ?_
              refine Lx.nil ?_
              exact Xx.mkK (⟨_, rfl, rfl, by ac_rfl, fun hb => by first | (exact absurd hb (by decide)) | (have hb2 := of_decide_eq_false hb; omega) | omega⟩) (Sub.cons (s := 70) rfl (Sub.cons (s := 0) rfl (Sub.cons (s := 1) rfl (Sub.cons (s := 2) rfl (Sub.cons (s := 3) rfl (Sub.cons (s := 4) rfl (Sub.cons (s := 5) rfl (Sub.cons (s := 10) rfl (Sub.cons (s := 11) rfl (Sub.cons (s := 12) rfl (Sub.cons (s := 13) rfl (Sub.cons (s := 14) rfl (Sub.cons (s := 16) rfl (Sub.cons (s := 17) rfl (Sub.cons (s := 19) rfl (Sub.cons (s := 20) rfl (Sub.cons (s := 21) rfl (Sub.cons (s := 22) rfl (Sub.cons (s := 23) rfl (Sub.cons (s := 24) rfl (Sub.cons (s := 25) rfl (Sub.cons (s := 26) rfl (Sub.cons (s := 28) rfl (Sub.cons (s := 29) rfl (Sub.cons (s := 30) rfl (Sub.cons (s := 31) rfl (Sub.cons (s := 32) rfl (Sub.nil _))))))))))))))))))))))))))))
            · skip
              refine Lx.gT rfl rfl rfl ?_
              refine Lx.y (mv rfl) rfl ?_
              refine Lx.gT rfl rfl rfl ?_
              refine Lx.y (fa' fo138_1 rfl) rfl ?_
              refine Lx.gT rfl rfl rfl ?_
              refine Lx.y (ld Try.underlying9 rfl rfl rfl) rfl ?_
              refine Lx.gT rfl rfl rfl ?_
              refine Lx.y (lenS Try.underlying9 rfl) rfl ?_
              refine Lx.gT rfl rfl rfl ?_
              refine Lx.y (gtr rfl rfl) rfl ?_
              refine Lx.gT rfl rfl rfl ?_
              refine Lx.y (pickF rfl rfl) rfl ?_
              refine Lx.gT rfl rfl rfl ?_
              refine Lx.y (pickT rfl rfl) rfl ?_
              refine Lx.y (pickF rfl rfl) rfl ?_
              refine Lx.nil ?_
              exact Xx.mkK (⟨_, rfl, rfl, by ac_rfl, fun hb => by first | (exact absurd hb (by decide)) | (have hb2 := of_decide_eq_false hb; omega) | omega⟩) (Sub.cons (s := 70) rfl (Sub.cons (s := 0) rfl (Sub.cons (s := 1) rfl (Sub.cons (s := 2) rfl (Sub.cons (s := 3) rfl (Sub.cons (s := 4) rfl (Sub.cons (s := 5) rfl (Sub.cons (s := 10) rfl (Sub.cons (s := 11) rfl (Sub.cons (s := 12) rfl (Sub.cons (s := 13) rfl (Sub.cons (s := 14) rfl (Sub.cons (s := 16) rfl (Sub.cons (s := 17) rfl (Sub.cons (s := 19) rfl (Sub.cons (s := 20) rfl (Sub.cons (s := 21) rfl (Sub.cons (s := 22) rfl (Sub.cons (s := 23) rfl (Sub.cons (s := 24) rfl (Sub.cons (s := 25) rfl (Sub.cons (s := 26) rfl (Sub.cons (s := 28) rfl (Sub.cons (s := 29) rfl (Sub.cons (s := 30) rfl (Sub.cons (s := 31) rfl (Sub.cons (s := 32) rfl (Sub.nil _))))))))))))))))))))))))))))
          · skip
            refine Lx.gF rfl rfl rfl rfl ?_
            refine Lx.gF rfl rfl rfl rfl ?_
            refine Lx.gF rfl rfl rfl rfl ?_
            refine Lx.gU rfl rfl rfl rfl ?_
            refine Lx.gU rfl rfl rfl rfl ?_
            refine Lx.gU rfl rfl rfl rfl ?_
            refine Lx.gU rfl rfl rfl rfl ?_
            refine Lx.gU rfl rfl rfl rfl ?_
            refine Lx.gF rfl rfl rfl rfl ?_
            refine Lx.gT rfl rfl rfl ?_
            refine Lx.y (pickF rfl rfl) rfl ?_
            refine Lx.y (pickF rfl rfl) rfl ?_
            refine Lx.nil ?_
            exact Xx.mkK (⟨_, rfl, rfl, by ac_rfl, fun hb => by first | (exact absurd hb (by decide)) | (have hb2 := of_decide_eq_false hb; omega) | omega⟩) (Sub.cons (s := 70) rfl (Sub.cons (s := 0) rfl (Sub.cons (s := 1) rfl (Sub.cons (s := 2) rfl (Sub.cons (s := 3) rfl (Sub.cons (s := 4) rfl (Sub.cons (s := 5) rfl (Sub.cons (s := 10) rfl (Sub.cons (s := 11) rfl (Sub.cons (s := 12) rfl (Sub.cons (s := 13) rfl (Sub.cons (s := 14) rfl (Sub.cons (s := 16) rfl (Sub.cons (s := 17) rfl (Sub.cons (s := 19) rfl (Sub.cons (s := 20) rfl (Sub.cons (s := 21) rfl (Sub.cons (s := 22) rfl (Sub.cons (s := 23) rfl (Sub.cons (s := 24) rfl (Sub.cons (s := 25) rfl (Sub.cons (s := 26) rfl (Sub.cons (s := 28) rfl (Sub.cons (s := 29) rfl (Sub.cons (s := 30) rfl (Sub.cons (s := 31) rfl (Sub.cons (s := 32) rfl (Sub.nil _))))))))))))))))))))))))))))
      · rintro ρ' B' H' ⟨bad, rfl, rfl, rfl, hbad⟩
        refine Cx.condB rfl (fun h22 => ?_) (fun h22 => ?_)
        · skip
          refine Cx.seq (fun K23 k23 => ?_)
          refine Cx.region ?_
          refine Lx.y (ldA Try.underlying30 rfl sz30 rfl (Cells.own (n := 5) PickB.eq rfl) rfl) rfl ?_
          refine Lx.st (stA (d := .bool) sz30 rfl rfl rfl rfl (by show 0 + 5 ≤ 5; omega) rfl) ?_
          refine Lx.y (asg rfl) rfl ?_
          refine Lx.nil ?_
          refine Xx.tn (k23 _ _ _ _ ?_)
          refine Cx.ret ?_
          refine Xx.tr ?_
          refine Xx.dropB b14 ?_
          refine Xx.dropB b5 ?_
          refine Xx.rBc rfl Try.underlying30 rfl sz30 rfl rfl rfl ⟨⟨fl, Af, cf, room, ch, off⟩, _, rfl, h0.mono (Frag.le_refl _) (Nat.le_succ _) (Nat.le_succ _)⟩ (Frag.le_refl _)
        · skip
          obtain ⟨hb0, hb2⟩ := hbad h22
          refine Cx.skip ?_
          refine Xx.tn (k13 _ _ _ _ ?_)
          refine Cx.seq (fun K24 k24 => ?_)
          refine Cx.region ?_
          refine Lx.y (ldA Try.underlying30 rfl sz30 rfl (Cells.own (n := 5) PickB.eq rfl) rfl) rfl ?_
          refine Lx.cp rfl rfl rfl (RStrike_ct ⟨fl, Af, cf, room, ch, off⟩ k c0 _ h0 hk2 (by omega)) rfl ?_
          refine Lx.y (mv rfl) rfl ?_
          refine Lx.y (ext rfl rfl) rfl ?_
          refine Lx.y (ext rfl rfl) rfl ?_
          refine Lx.st (stA (d := .bool) sz30 rfl rfl rfl rfl (by show 0 + 5 ≤ 5; omega) rfl) ?_
          refine Lx.y (asg rfl) rfl ?_
          refine Lx.nil ?_
          refine Xx.tn (k24 _ _ _ _ ?_)
          refine Cx.seq (fun K25 k25 => ?_)
          refine Cx.seq (fun K26 k26 => ?_)
          refine Cx.region ?_
          refine Lx.y (mv rfl) rfl ?_
          refine Lx.nil ?_
          refine Xx.tn (k26 _ _ _ _ ?_)
          refine Cx.condF rfl ?_
          refine Cx.skip ?_
          refine Xx.tn (k25 _ _ _ _ ?_)
          refine Cx.seq (fun K27 k27 => ?_)
          refine Cx.seq (fun K28 k28 => ?_)
          refine Cx.region ?_
          refine Lx.y (mv rfl) rfl ?_
          refine Lx.nil ?_
          refine Xx.tn (k28 _ _ _ _ ?_)
          refine Cx.block ?_
          refine Cx.seq (fun K29 k29 => ?_)
          refine Cx.region ?_
          refine Lx.y (eqI rfl rfl) rfl ?_
          refine Lx.y (asg rfl) rfl ?_
          refine Lx.nil ?_
          refine Xx.tn (k29 _ _ _ _ ?_)
          refine Cx.condD rfl (fun h30 => ?_) (fun h30 => ?_)
          · skip
            have hkd : kind = 0 := h30
            obtain ⟨hp1, hp2, hp3⟩ := hb0 hkd
            refine Cx.seq (fun K31 k31 => ?_)
            refine Cx.drawn (by kernel_rfl) ?_
            refine Dx.p (i := 0) rfl (by kernel_rfl) (fa' fo138_1 rfl) rfl ?_
            refine Dx.r (i := 1) rfl (by kernel_rfl) (ld Try.underlying9 rfl rfl rfl) rfl ?_
            refine Dx.p (i := 2) rfl (by kernel_rfl) (mv rfl) rfl ?_
            refine Dx.p (i := 3) rfl (by kernel_rfl) (sl2S Try.underlying9 rfl rfl rfl (by omega) (by omega)) rfl ?_
            refine Dx.p (i := 4) rfl (by kernel_rfl) (mv rfl) rfl ?_
            refine Dx.p (i := 5) rfl (by kernel_rfl) (catS rfl rfl (by simp only [List.length_take]; omega)) rfl ?_
            refine Dx.p (i := 6) rfl (by kernel_rfl) (fa' fo138_1 rfl) rfl ?_
            refine Dx.r (i := 7) rfl (by kernel_rfl) (ld Try.underlying9 rfl rfl rfl) rfl ?_
            refine Dx.p (i := 8) rfl (by kernel_rfl) (mv rfl) rfl ?_
            refine Dx.p (i := 9) rfl (by kernel_rfl) (mv rfl) rfl ?_
            refine Dx.p (i := 10) rfl (by kernel_rfl) (lenS Try.underlying9 rfl) rfl ?_
            refine Dx.p (i := 11) rfl (by kernel_rfl) (add rfl rfl (by exact wrap64 (by omega) (by omega))) rfl ?_
            refine Dx.p (i := 12) rfl (by kernel_rfl) (sl1S (j := at_.toNat + s.length) Try.underlying9 rfl rfl (by omega) (by omega) (by omega)) rfl ?_
            refine Dx.p (i := 13) rfl (by kernel_rfl) (catS rfl rfl (by simp only [List.length_append, List.length_take, List.length_drop]; omega)) rfl ?_
            refine Dx.p (i := 14) rfl (by kernel_rfl) (fa' fo138_1 rfl) rfl ?_
            refine Dx.one (i := 15) (by kernel_rfl) ?_
            refine Dstep.o0 (i := 15) rfl (stO Try.underlying9 sz9 rfl rfl rfl (by show 1 < 4; omega) rfl) (fun v B' H' hΦ hB => ?_)
            obtain ⟨hBB, rfl⟩ := hΦ; have hBB2 := hBB.symm; subst hBB2; clear hB v
            refine ⟨JOk.edge (JOk.edge (JOk.top) (by kernel_rfl)) (by kernel_rfl), ?_⟩
            refine Dx.done (by kernel_rfl) ?_
            refine Xx.tn (k31 _ _ _ _ ?_)
            refine Cx.seq (fun K32 k32 => ?_)
            refine Cx.drawn (by kernel_rfl) ?_
            refine Dx.r (i := 0) rfl (by kernel_rfl) (ldA Try.underlying30 rfl sz30 rfl (Cells.own (n := 5) PickB.eq rfl) rfl) rfl ?_
            refine Dx.r (i := 1) rfl (by kernel_rfl) (ldA Try.underlying138 rfl sz138 rfl (Cells.own (n := 4) PickB.eq rfl) rfl) rfl ?_
            refine Dx.p (i := 2) rfl (by kernel_rfl) (Yx.val (mv rfl) (show _ = i64 ((at_.toNat : Nat) : Int) by rw [Int.toNat_of_nonneg (by omega)])) rfl ?_
            refine Dx.p (i := 3) rfl (by kernel_rfl) (Yx.val (mv rfl) (show _ = i64 ((at_.toNat : Nat) : Int) by rw [Int.toNat_of_nonneg (by omega)])) rfl ?_
            refine Dx.p (i := 4) rfl (by kernel_rfl) (mv rfl) rfl ?_
            refine Dx.p (i := 5) rfl (by kernel_rfl) (lenS Try.underlying9 rfl) rfl ?_
            refine Dx.p (i := 6) rfl (by kernel_rfl) (Yx.val (add rfl rfl (by first | exact wrap64 (by omega) (by omega) | rfl)) (show _ = i64 ((at_.toNat + s.length : Nat) : Int) from rfl)) rfl ?_
            refine Dx.one (i := 7) (by kernel_rfl) ?_
            refine Dstep.o (i := 7) rfl (Ox.cb rfl rfl rfl (RTouched_ct ⟨f.n, (f.now.take at_.toNat ++ s ++ f.now.drop (at_.toNat + s.length)), f.sure, f.Al, f.cl, f.l⟩ at_.toNat (at_.toNat + s.length) (k + 1) _ ⟨by simp only [List.length_append, List.length_take, List.length_drop]; omega, by simp only; omega, by simp only; omega, hg4⟩ (by omega) (by simp only [List.length_append, List.length_take, List.length_drop]; omega) (by omega))) rfl (fun v B' H' hΦ hB => ?_)
            obtain ⟨rfl, hΦ⟩ := hΦ
            obtain ⟨f2, rfl, _, hf2⟩ := hΦ
            have hB2 := hB
            refine ⟨JOk.edge (JOk.yes (JOk.top) (ldA Try.underlying30 rfl sz30 rfl (Cells.own (n := 5) PickB.eq rfl) rfl)) (by kernel_rfl), ?_⟩
            refine Dx.one (i := 8) (by kernel_rfl) ?_
            refine Dstep.o (i := 8) rfl (Ox.cb rfl rfl rfl (RWith_ct ⟨fl, Af, cf, room, ch + 1, off⟩ f2 k (c0 + 1) _ ⟨hro.mono hB2, hcap, hlen, fun f hf => (hfs f hf).mono hB2 (Nat.le_refl _), hroom, Nat.succ_le_succ hch⟩ (by omega) (by omega) hf2)) rfl (fun v B' H' hΦ hB => ?_)
            obtain ⟨rfl, hΦ⟩ := hΦ
            obtain ⟨d2, rfl, hd2⟩ := hΦ
            have hB3 := Frag.le_trans hB2 hB
            refine ⟨JOk.yes (JOk.edge (JOk.top) (by kernel_rfl)) (ldA Try.underlying138 rfl sz138 rfl (Cells.own (n := 4) PickB.eq rfl) rfl), ?_⟩
            refine Dx.one (i := 9) (by kernel_rfl) ?_
            refine Dstep.o0 (i := 9) rfl (stA (d := .bool) sz30 rfl rfl rfl rfl (by show 0 + 5 ≤ 5; omega) rfl) (fun v B' H' hΦ hB => ?_)
            obtain ⟨hBB, rfl⟩ := hΦ; have hBB2 := hBB.symm; subst hBB2; clear hB v
            refine ⟨JOk.edge (JOk.edge (JOk.top) (by kernel_rfl)) (by kernel_rfl), ?_⟩
            refine Dx.p (i := 10) rfl (by kernel_rfl) (asg rfl) rfl ?_
            refine Dx.done (by kernel_rfl) ?_
            refine Xx.tn (k32 _ _ _ _ ?_)
            refine Cx.ret ?_
            refine Xx.br ?_
            refine Xx.tr ?_
            refine Xx.dropB b14 ?_
            refine Xx.dropB b5 ?_
            refine Xx.rBc rfl Try.underlying30 rfl sz30 rfl rfl rfl ⟨d2, _, rfl, hd2⟩ (hB3)
          · skip
            refine Cx.seq (fun K33 k33 => ?_)
            refine Cx.region ?_
            refine Lx.y (eqI rfl rfl) rfl ?_
            refine Lx.y (asg rfl) rfl ?_
            refine Lx.nil ?_
            refine Xx.tn (k33 _ _ _ _ ?_)
            refine Cx.condD rfl (fun h34 => ?_) (fun h34 => ?_)
            · skip
              have hkd : kind = 2 := h34
              obtain ⟨hp1, hp2⟩ := hb2 hkd
              refine Cx.region ?_
              refine Lx.y (fa' fo138_1 rfl) rfl ?_
              refine Lx.y (ld Try.underlying9 rfl rfl rfl) rfl ?_
              refine Lx.y (mv rfl) rfl ?_
              refine Lx.y (sl2S Try.underlying9 rfl rfl rfl (by omega) (by omega)) rfl ?_
              refine Lx.y (fa' fo138_1 rfl) rfl ?_
              refine Lx.st (stO Try.underlying9 sz9 rfl rfl rfl (by show 1 < 4; omega) rfl) ?_
              refine Lx.nil ?_
              refine Xx.bn ?_
              refine Xx.tn (k27 _ _ _ _ ?_)
              refine Cx.seq (fun K35 k35 => ?_)
              refine Cx.region ?_
              refine Lx.y (ldA Try.underlying30 rfl sz30 rfl (Cells.own (n := 5) PickB.eq rfl) rfl) rfl ?_
              refine Lx.y (mv rfl) rfl ?_
              refine Lx.y (fa' fo138_1 rfl) rfl ?_
              refine Lx.y (ld Try.underlying9 rfl rfl rfl) rfl ?_
              refine Lx.y (fa' fo138_1 rfl) rfl ?_
              refine Lx.y (ld Try.underlying9 rfl rfl rfl) rfl ?_
              refine Lx.y (bld ti138 pl138 rfl rfl) rfl ?_
              refine Lx.cb rfl rfl rfl (RWith_ct ⟨fl, Af, cf, room, ch + 1, off⟩ ⟨n, (f.now.take at_.toNat), (f.now.take at_.toNat), none, 0, []⟩ k (c0 + 1) _ ⟨hro, hcap, hlen, hfs, hroom, Nat.succ_le_succ hch⟩ (by omega) (by omega) ⟨by simp only [List.length_take]; omega, by simp only [List.length_take]; omega, Nat.zero_le _, RoS.nil _ _⟩) rfl ?_
              rintro v2 B2 ⟨d2, rfl, hd2⟩ hB2
              refine Lx.st (stA (d := .bool) sz30 rfl rfl rfl rfl (by show 0 + 5 ≤ 5; omega) rfl) ?_
              refine Lx.y (asg rfl) rfl ?_
              refine Lx.nil ?_
              refine Xx.tn (k35 _ _ _ _ ?_)
              refine Cx.ret ?_
              refine Xx.dropB b14 ?_
              refine Xx.dropB b5 ?_
              refine Xx.rBc rfl Try.underlying30 rfl sz30 rfl rfl rfl ⟨d2, _, rfl, hd2⟩ (hB2)
            · skip
              refine Cx.seq (fun K37 k37 => ?_)
              refine Cx.region ?_
              refine Lx.y (eqI rfl rfl) rfl ?_
              refine Lx.y (asg rfl) rfl ?_
              refine Lx.nil ?_
              refine Xx.tn (k37 _ _ _ _ ?_)
              refine Cx.condD rfl (fun h38 => ?_) (fun h38 => ?_)
              · skip
                have hr1 : RoS B 4 Af i ((fl.take i).flatMap rfc) := by rw [flat_take rfc_len]; exact RoS.take hro hi
                have hr2 : RoS B 4 (subA Af cf (i + 1) 4) (fl.length - (i + 1)) ((fl.drop (i + 1)).flatMap rfc) := by rw [flat_drop rfc_len]; exact RoS.sub hro hlt hcap
                refine Cx.seq (fun K39 k39 => ?_)
                refine Cx.drawn (by kernel_rfl) ?_
                refine Dx.p (i := 1) rfl (by kernel_rfl) (fa' fo30_0 rfl) rfl ?_
                refine Dx.r (i := 2) rfl (by kernel_rfl) (Yx.val (ld Try.underlying27 rfl rfl rfl) (show _ = Value.slice Af fl.length cf from rfl)) rfl ?_
                refine Dx.p (i := 3) rfl (by kernel_rfl) (mv rfl) rfl ?_
                refine Dx.p (i := 4) rfl (by kernel_rfl) (sl2V Try.underlying27 sz138 rfl rfl (Int.toNat_natCast i) (by omega) (by omega)) rfl ?_
                refine Dx.p (i := 6) rfl (by kernel_rfl) (fa' fo30_0 rfl) rfl ?_
                refine Dx.r (i := 7) rfl (by kernel_rfl) (Yx.val (ld Try.underlying27 rfl rfl rfl) (show _ = Value.slice Af fl.length cf from rfl)) rfl ?_
                refine Dx.p (i := 8) rfl (by kernel_rfl) (mv rfl) rfl ?_
                refine Dx.p (i := 9) rfl (by kernel_rfl) (Yx.val (add rfl rfl (by first | exact wrap64 (by omega) (by omega) | rfl)) (show _ = i64 ((i + 1 : Nat) : Int) from rfl)) rfl ?_
                refine Dx.p (i := 10) rfl (by kernel_rfl) (sl1V Try.underlying27 sz138 rfl rfl (Int.toNat_natCast (i + 1)) (by omega) (by omega)) rfl ?_
                refine Dx.one (i := 0) (by kernel_rfl) ?_
                refine Dstep.o (i := 0) rfl (bslZ Try.underlying27 ti138) rfl (fun v B' H' hΦ hB => ?_)
                obtain ⟨bz, rfl, hBB, rfl⟩ := hΦ
                have hBB2 := hBB.symm
                subst hBB2
                refine ⟨JOk.yes (JOk.yes (JOk.top) (Yx.val (ld Try.underlying27 rfl rfl rfl) (show _ = Value.slice Af fl.length cf from rfl))) (Yx.val (ld Try.underlying27 rfl rfl rfl) (show _ = Value.slice Af fl.length cf from rfl)), ?_⟩
                refine Dx.one (i := 5) (by kernel_rfl) ?_
                refine Dstep.o (i := 5) rfl (appB (A := some ⟨bz, 0, none⟩) i ((fl.take i).flatMap rfc) Try.underlying27 Try.underlying27 ti138 rfl rfl hr1 (rfc_all _) (by omega) (by omega) (by omega) rfl) rfl (fun v B' H' hΦ hB => ?_)
                obtain ⟨A1, c1, rfl, hA1, hc1, hBB, rfl⟩ := hΦ
                have hBB2 := hBB.symm
                subst hBB2
                refine ⟨JOk.yes (JOk.yes (JOk.top) (Yx.val (ld Try.underlying27 rfl rfl rfl) (show _ = Value.slice Af fl.length cf from rfl))) (Yx.val (ld Try.underlying27 rfl rfl rfl) (show _ = Value.slice Af fl.length cf from rfl)), ?_⟩
                refine Dx.one (i := 11) (by kernel_rfl) ?_
                refine Dstep.o (i := 11) rfl (appB (A := A1) (i + (fl.length - (i + 1))) ((fl.take i ++ fl.drop (i + 1)).flatMap rfc) Try.underlying27 Try.underlying27 ti138 rfl rfl hr2 (rfc_all _) (by omega) (by omega) (by omega) (by simp)) rfl (fun v B' H' hΦ hB => ?_)
                obtain ⟨A3, c3, rfl, hA3, hc3, hBB, rfl⟩ := hΦ
                have hBB2 := hBB.symm
                subst hBB2
                refine ⟨JOk.yes (JOk.yes (JOk.top) (Yx.val (ld Try.underlying27 rfl rfl rfl) (show _ = Value.slice Af fl.length cf from rfl))) (Yx.val (ld Try.underlying27 rfl rfl rfl) (show _ = Value.slice Af fl.length cf from rfl)), ?_⟩
                refine Dx.p (i := 12) rfl (by kernel_rfl) (fa' fo30_0 rfl) rfl ?_
                refine Dx.one (i := 13) (by kernel_rfl) ?_
                refine Dstep.o0 (i := 13) rfl (stO Try.underlying27 sz27 rfl rfl rfl (by show 0 < 5; omega) rfl) (fun v B' H' hΦ hB => ?_)
                obtain ⟨hBB, rfl⟩ := hΦ; have hBB2 := hBB.symm; subst hBB2; clear hB v
                refine ⟨JOk.edge (JOk.edge (JOk.top) (by kernel_rfl)) (by kernel_rfl), ?_⟩
                refine Dx.done (by kernel_rfl) ?_
                refine Xx.tn (k39 _ _ _ _ ?_)
                refine Cx.seq (fun K40 k40 => ?_)
                refine Cx.region ?_
                refine Lx.y (ldA Try.underlying30 rfl sz30 rfl (Cells.own (n := 5) PickB.eq rfl) rfl) rfl ?_
                refine Lx.st (stA (d := .bool) sz30 rfl rfl rfl rfl (by show 0 + 5 ≤ 5; omega) rfl) ?_
                refine Lx.y (asg rfl) rfl ?_
                refine Lx.nil ?_
                refine Xx.tn (k40 _ _ _ _ ?_)
                refine Cx.ret ?_
                refine Xx.br ?_
                refine Xx.tr ?_
                refine Xx.freezeT A3 fun B3 hB3 hRo hnc _ => ?_
                have hgl : (fl.take i ++ fl.drop (i + 1)).length = i + (fl.length - (i + 1)) := by simp only [List.length_append, List.length_take, List.length_drop]; omega
                refine Xx.dropB b14 (Xx.dropB b5 ?_)
                refine Xx.rBc rfl Try.underlying30 rfl sz30 rfl rfl rfl ⟨⟨fl.take i ++ fl.drop (i + 1), A3, c3, room, ch + 1, off⟩, _, by unfold rdc; rw [hgl], ⟨by rw [hgl]; exact hRo, by rw [hgl]; exact hnc, by rw [hgl]; omega, fun g hg => by
                  rcases List.mem_append.1 hg with hg | hg
                  · exact (hfs g (List.mem_of_mem_take hg)).mono hB3 (by omega)
                  · exact (hfs g (List.mem_of_mem_drop hg)).mono hB3 (by omega), hroom, Nat.succ_le_succ hch⟩⟩ hB3
              · skip
                refine Cx.skip ?_
                refine Xx.bn ?_
                refine Xx.tn (k27 _ _ _ _ ?_)
                refine Cx.seq (fun K41 k41 => ?_)
                refine Cx.region ?_
                refine Lx.y (ldA Try.underlying30 rfl sz30 rfl (Cells.own (n := 5) PickB.eq rfl) rfl) rfl ?_
                refine Lx.y (mv rfl) rfl ?_
                refine Lx.y (fa' fo138_1 rfl) rfl ?_
                refine Lx.y (ld Try.underlying9 rfl rfl rfl) rfl ?_
                refine Lx.y (fa' fo138_1 rfl) rfl ?_
                refine Lx.y (ld Try.underlying9 rfl rfl rfl) rfl ?_
                refine Lx.y (bld ti138 pl138 rfl rfl) rfl ?_
                refine Lx.cb rfl rfl rfl (RWith_ct ⟨fl, Af, cf, room, ch + 1, off⟩ ⟨n, f.now, f.now, none, 0, []⟩ k (c0 + 1) _ ⟨hro, hcap, hlen, hfs, hroom, Nat.succ_le_succ hch⟩ (by omega) (by omega) ⟨by simp only [List.length_take]; omega, by simp only [List.length_take]; omega, Nat.zero_le _, RoS.nil _ _⟩) rfl ?_
                rintro v2 B2 ⟨d2, rfl, hd2⟩ hB2
                refine Lx.st (stA (d := .bool) sz30 rfl rfl rfl rfl (by show 0 + 5 ≤ 5; omega) rfl) ?_
                refine Lx.y (asg rfl) rfl ?_
                refine Lx.nil ?_
                refine Xx.tn (k41 _ _ _ _ ?_)
                refine Cx.ret ?_
                refine Xx.dropB b14 ?_
                refine Xx.dropB b5 ?_
                refine Xx.rBc rfl Try.underlying30 rfl sz30 rfl rfl rfl ⟨d2, _, rfl, hd2⟩ (hB2)
end DkP
end Go.Proofs.Ytgcebieihmlaoaa
