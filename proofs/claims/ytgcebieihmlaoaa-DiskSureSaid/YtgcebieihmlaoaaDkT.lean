/-
  The walk of the law of what was synced.
-/
import Derived.Test.YtgcebieihmlaoaaProg
import Derived.Test.YtgcebieihmlaoaaSlj
import Derived.Test.YtgcebieihmlaoaaDkS
namespace Go.Proofs.Ytgcebieihmlaoaa
open Go.SL Go.RowKit
set_option linter.unusedVariables false
set_option linter.unusedSimpArgs false
set_option maxRecDepth 100000
open DkA DkB DkC DkD DkE DkF DkG DkH DkI DkJ DkK DkL DkM DkN DkO DkP DkQ DkR DkS
namespace DkT
theorem sz3 : (Try.prog.info? 3).map (·.size) = some 1 := by kernel_rfl
theorem sz4 : (Try.prog.info? 4).map (·.size) = some 1 := by kernel_rfl
theorem sz9 : (Try.prog.info? 9).map (·.size) = some 1 := by kernel_rfl
theorem sz23 : (Try.prog.info? 23).map (·.size) = some 1 := by kernel_rfl
theorem sz25 : (Try.prog.info? 25).map (·.size) = some 3 := by kernel_rfl
theorem sz30 : (Try.prog.info? 30).map (·.size) = some 5 := by kernel_rfl
theorem sz32 : (Try.prog.info? 32).map (·.size) = some 6 := by kernel_rfl
theorem sz37 : (Try.prog.info? 37).map (·.size) = some 7 := by kernel_rfl
theorem ti3 : TI Try.prog 3 [.int .i64 0] 1 8 := TI.of (by kernel_rfl) rfl rfl
theorem ti4 : TI Try.prog 4 [.bool false] 1 1 := TI.of (by kernel_rfl) rfl rfl
theorem ti5 : TI Try.prog 5 [.int .u8 0] 1 1 := TI.of (by kernel_rfl) rfl rfl
theorem ti30 : TI Try.prog 30 [.slice none 0 0, .int .i64 0, .slice none 0 0, .int .i64 0, .bool false] 5 72 := TI.of (by kernel_rfl) rfl rfl
theorem ti32 : TI Try.prog 32 [.pointer none, .slice none 0 0, .int .i64 0, .slice none 0 0, .int .i64 0, .bool false] 6 80 := TI.of (by kernel_rfl) rfl rfl
theorem ti37 : TI Try.prog 37 [.int .i64 0, .int .i64 0, .int .i64 0, .int .i64 0, .int .i64 0, .int .u64 0, .int .i64 0] 7 56 := TI.of (by kernel_rfl) rfl rfl
theorem fo25_1 : FO Try.prog 25 1 1 1 false := FO.of Try.underlying25 rfl rfl (by kernel_rfl) Try.underlying23 rfl rfl
theorem fo25_2 : FO Try.prog 25 2 2 1 false := FO.of Try.underlying25 rfl rfl (by kernel_rfl) Try.underlying3 rfl rfl
theorem fo32_0 : FO Try.prog 32 0 0 1 false := FO.of Try.underlying32 rfl rfl (by kernel_rfl) Try.underlying26 rfl rfl
theorem fo37_0 : FO Try.prog 37 0 0 1 false := FO.of Try.underlying37 rfl rfl (by kernel_rfl) Try.underlying3 rfl rfl
theorem fo37_1 : FO Try.prog 37 1 1 1 false := FO.of Try.underlying37 rfl rfl (by kernel_rfl) Try.underlying3 rfl rfl
theorem fo37_3 : FO Try.prog 37 3 3 1 false := FO.of Try.underlying37 rfl rfl (by kernel_rfl) Try.underlying3 rfl rfl

set_option maxHeartbeats 16000000 in
theorem DiskSure_ct (l more : List Ac) (A1 A2 : Option Addr) (c1 c2 : Nat) (x : Sk) (B : Frag) (hl : 0 < l.length → RoS B 7 A1 l.length (l.flatMap acs)) (hm : 0 < more.length → RoS B 7 A2 more.length (more.flatMap acs)) (hn1 : l.length ≤ 9223372036854775807) (hn2 : more.length ≤ 9223372036854775807) : CtB Try.prog 3 [.slice A1 l.length c1, .slice A2 more.length c2, .agg (scs x).toArray] B (fun v B' => v = .bool true) := by
  refine CtB.of_body Try.func3 rfl (nt := 171) rfl (by kernel_rfl) rfl ?_
  intro N0 w0 R
  refine Cx.seq (fun K1 k1 => ?_)
  refine Cx.region ?_
  refine Lx.new (boxA rfl) rfl (fun b5 => ?_)
  refine Lx.y (asg rfl) rfl ?_
  refine Lx.nil ?_
  refine Xx.tn (k1 _ _ _ _ ?_)
  refine Cx.seq (fun K2 k2 => ?_)
  refine Cx.region ?_
  refine Lx.c rfl rfl rfl (begun_ct 1000 _ (by decide)) ((one_star _).symm) rfl ?_
  rintro v1 B1 H1 ⟨hBB, db, mb, rfl, rfl⟩ hB1
  have hBB2 := hBB.symm
  subst hBB2
  clear hB1
  obtain ⟨d0, hd0⟩ : ∃ d0 : Dk, d0 = ⟨[], 1000, false, [], 0, mb, none, 0⟩ := ⟨_, rfl⟩
  rw [← hd0]
  have hcd0 : DkN.Calm 0 0 0 d0.abs := by rw [hd0]; exact ⟨rfl, rfl, List.nodup_nil, fun f hf => (by cases hf), fun f hf => (by cases hf), Nat.le_refl _, fun f hf => (by cases hf), fun f hf => (by cases hf), ⟨by show (0 : Int) ≤ 1000; decide, by show (1000 : Int) ≤ _; decide⟩, Nat.le_refl _⟩
  refine Lx.y (mv rfl) rfl ?_
  refine Lx.y (ext rfl rfl) rfl ?_
  refine Lx.y (ext rfl rfl) rfl ?_
  refine Lx.new (allocO ti32) rfl (fun b7 => ?_)
  refine Lx.st (stA (d := .bool) sz32 rfl rfl rfl rfl (by show 0 + 6 ≤ 6; omega) rfl) ?_
  refine Lx.y (asg rfl) rfl ?_
  refine Lx.nil ?_
  refine Xx.tn (k2 _ _ _ _ ?_)
  refine Cx.seq (fun K3 k3 => ?_)
  refine Cx.seq (fun K4 k4 => ?_)
  refine Cx.region ?_
  refine Lx.cb rfl rfl rfl (awake_ct _) rfl ?_
  rintro v2 B2 rfl hB2
  refine Lx.y (not' rfl) rfl ?_
  refine Lx.y (mv rfl) rfl ?_
  refine Lx.gT rfl rfl rfl ?_
  refine Lx.y (mv rfl) rfl ?_
  refine Lx.gT rfl rfl rfl ?_
  refine Lx.y (not' rfl) rfl ?_
  refine Lx.y (pickF rfl rfl) rfl ?_
  refine Lx.nil ?_
  refine Xx.tn (k4 _ _ _ _ ?_)
  refine Cx.condF rfl ?_
  refine Cx.skip ?_
  refine Xx.tn (k3 _ _ _ _ ?_)
  refine Cx.cutK (ds' := []) (Sub.cons (s := 0) rfl (Sub.cons (s := 1) rfl (Sub.cons (s := 2) rfl (Sub.cons (s := 5) rfl (Sub.cons (s := 6) rfl (Sub.cons (s := 7) rfl (Sub.cons (s := 8) rfl (Sub.cons (s := 18) rfl (Sub.cons (s := 19) rfl (Sub.cons (s := 20) rfl (Sub.cons (s := 21) rfl (Sub.cons (s := 22) rfl (Sub.cons (s := 23) rfl (Sub.cons (s := 24) rfl (Sub.cons (s := 25) rfl (Sub.cons (s := 26) rfl (Sub.cons (s := 27) rfl (Sub.nil _)))))))))))))))))) (fun ρ' B' H' => ∃ (d : Dk) (r : Rd), ρ' = [] ∧ row b7 32 (bcs db r) * (dkH db d * (row b5 25 (scs x) * R)) = H' ∧ DkN.Calm 20 8000 20 d.abs ∧ B.le B') ?_ ?_
  · skip
    refine Cx.seq (fun K6 k6 => ?_)
    have hrd0 : RdOk B2 0 0 ⟨[], none, 0, 1000, 0, false⟩ := ⟨RoS.nil _ _, Nat.le_refl _, Nat.le_refl _, fun f hf => (by cases hf), ⟨by decide, by decide⟩, Nat.le_refl _⟩
    refine Cx.region ?_
    refine Lx.y (asg rfl) rfl ?_
    refine Lx.nil ?_
    refine Xx.tn (k6 _ _ _ _ ?_)
    refine Cx.block ?_
    refine Cx.loopK (Sub.cons (s := 0) rfl (Sub.cons (s := 1) rfl (Sub.cons (s := 2) rfl (Sub.cons (s := 5) rfl (Sub.cons (s := 6) rfl (Sub.cons (s := 7) rfl (Sub.cons (s := 8) rfl (Sub.cons (s := 18) rfl (Sub.cons (s := 19) rfl (Sub.cons (s := 20) rfl (Sub.cons (s := 21) rfl (Sub.cons (s := 22) rfl (Sub.cons (s := 23) rfl (Sub.cons (s := 24) rfl (Sub.cons (s := 25) rfl (Sub.cons (s := 26) rfl (Sub.cons (s := 27) rfl (Sub.nil _)))))))))))))))))) (fun m ρ' B' H' => ∃ (i : Nat) (d : Dk) (r : Rd) (B3 : Frag), (i ≤ 20 ∧ DkN.Calm i (400 * i) i d.abs ∧ RdOk B3 i i r ∧ B.le B3) ∧ m = 20 - i ∧ ρ' = [(9, i64 (i : Int))] ∧ B3 = B' ∧ row b7 32 (bcs db r) * (dkH db d * (row b5 25 (scs x) * R)) = H') ⟨0, d0, _, _, ⟨Nat.zero_le _, hcd0, hrd0, hB2⟩, rfl, rfl, rfl, by ac_rfl⟩ (Sub.cons (s := 9) rfl (Sub.cons (s := 0) rfl (Sub.cons (s := 1) rfl (Sub.cons (s := 2) rfl (Sub.cons (s := 5) rfl (Sub.cons (s := 6) rfl (Sub.cons (s := 7) rfl (Sub.cons (s := 8) rfl (Sub.cons (s := 18) rfl (Sub.cons (s := 19) rfl (Sub.cons (s := 20) rfl (Sub.cons (s := 21) rfl (Sub.cons (s := 22) rfl (Sub.cons (s := 23) rfl (Sub.cons (s := 24) rfl (Sub.cons (s := 25) rfl (Sub.cons (s := 26) rfl (Sub.cons (s := 27) rfl (Sub.nil _))))))))))))))))))) ?_
    rintro m ρ' B' H' ⟨i, d, r, B3, ⟨hi, hcd, hrd, hBle⟩, rfl, rfl, rfl, rfl⟩
    refine Cx.seq (fun K7 k7 => ?_)
    refine Cx.seq (fun K8 k8 => ?_)
    refine Cx.region ?_
    refine Lx.y (mv rfl) rfl ?_
    refine Lx.y (mv rfl) rfl ?_
    refine Lx.y (lenV (ty' := 0) Try.underlying22 rfl) rfl ?_
    refine Lx.y (lss rfl rfl) rfl ?_
    refine Lx.y (mv rfl) rfl ?_
    refine Xx.ifD (t := 32) rfl (fun h9 => ?_) (fun h9 => ?_)
    · skip
      have hlt := h9
      have hlt : i < l.length := by omega
      refine Lx.gT rfl rfl rfl ?_
      refine Lx.y (mv rfl) rfl ?_
      refine Lx.gT rfl rfl rfl ?_
      refine Lx.y (lss rfl rfl) rfl ?_
      refine Lx.y (pickT rfl rfl) rfl ?_
      refine Lx.nil ?_
      refine Xx.tn (k8 _ _ _ _ ?_)
      refine Cx.condD rfl (fun h10 => ?_) (fun h10 => ?_)
      · skip
        have h20 := h10
        have h20 : i < 20 := by omega
        obtain ⟨b0, o0, cs0, et0, fz0, hA0, hB0, hc0⟩ := flat_at (show ∀ x, (acs x).length = 7 from fun _ => rfl) (hl (by omega)) hlt
        have hB0 := hBle _ _ hB0
        refine Cx.skip ?_
        refine Xx.tn (k7 _ _ _ _ ?_)
        refine Cx.seq (fun K11 k11 => ?_)
        refine Cx.block ?_
        refine Cx.seq (fun K12 k12 => ?_)
        refine Cx.region ?_
        refine Lx.y (Yx.val (mv rfl) (show _ = Value.slice (some ⟨b0, o0, none⟩) l.length c1 from by rw [← hA0])) rfl ?_
        refine Lx.y (mv rfl) rfl ?_
        refine Lx.y (ia Try.underlying22 sz37 rfl rfl (by first | exact Int.toNat_natCast _ | rfl) (by omega) (by omega)) rfl ?_
        refine Lx.y (fa' fo37_0 rfl) rfl ?_
        refine Lx.y (ldB Try.underlying3 rfl rfl hB0 (cell_of hc0 0 (by omega) rfl)) rfl ?_
        refine Lx.y (lss rfl rfl) rfl ?_
        refine Lx.nil ?_
        refine Xx.tn (k12 _ _ _ _ ?_)
        refine Cx.condD rfl (fun h13 => ?_) (fun h13 => ?_)
        · skip
          have hkk : l[i].kind < 7 := h13
          refine Cx.drawn (by kernel_rfl) ?_
          refine Dx.r (i := 0) rfl (by kernel_rfl) (ldA Try.underlying32 rfl sz32 rfl (Cells.own (n := 6) PickB.eq rfl) rfl) rfl ?_
          refine Dx.p (i := 1) rfl (by kernel_rfl) (Yx.val (mv rfl) (show _ = Value.slice (some ⟨b0, o0, none⟩) l.length c1 from by rw [← hA0])) rfl ?_
          refine Dx.p (i := 2) rfl (by kernel_rfl) (mv rfl) rfl ?_
          refine Dx.p (i := 3) rfl (by kernel_rfl) (ia Try.underlying22 sz37 rfl rfl (by first | exact Int.toNat_natCast _ | rfl) (by omega) (by omega)) rfl ?_
          refine Dx.r (i := 4) rfl (by kernel_rfl) (ldA Try.underlying37 rfl sz37 rfl (Cells.base (n := 7) hB0 hc0) rfl) rfl ?_
          refine Dx.p (i := 5) rfl (by kernel_rfl) (mv rfl) rfl ?_
          refine Dx.one (i := 6) (by kernel_rfl) ?_
          refine Dstep.o (i := 6) rfl (Ox.call rfl rfl rfl (do_ct d db r l[i] i i _ hcd hrd (by omega) (by omega) hkk) ((show _ = dkH db d * (row b7 32 (bcs db r) * (row b5 25 (scs x) * R)) by ac_rfl))) rfl (fun v B' H' hΦ hB => ?_)
          obtain ⟨_, rfl, hΦ⟩ := hΦ
          obtain ⟨d2, r2, ok, rfl, hc2, hr2, rfl⟩ := hΦ
          have hB4 := hB
          refine ⟨JOk.edge (JOk.edge (JOk.top) (by kernel_rfl)) (by kernel_rfl), ?_⟩
          refine Dx.p (i := 7) rfl (by kernel_rfl) (mv rfl) rfl ?_
          refine Dx.p (i := 8) rfl (by kernel_rfl) (ext rfl rfl) rfl ?_
          refine Dx.p (i := 9) rfl (by kernel_rfl) (ext rfl rfl) rfl ?_
          refine Dx.one (i := 10) (by kernel_rfl) ?_
          refine Dstep.o0 (i := 10) rfl (stA (d := .bool) sz32 rfl rfl rfl rfl (by show 0 + 6 ≤ 6; omega) rfl) (fun v B' H' hΦ hB => ?_)
          obtain ⟨hBB, rfl⟩ := hΦ; have hBB2 := hBB.symm; subst hBB2; clear hB v
          refine ⟨JOk.edge (JOk.edge (JOk.top) (by kernel_rfl)) (by kernel_rfl), ?_⟩
          refine Dx.done (by kernel_rfl) ?_
          refine Xx.bn ?_
          refine Xx.tn (k11 _ _ _ _ ?_)
          refine Cx.region ?_
          refine Lx.y (mv rfl) rfl ?_
          refine Lx.y (Yx.val (add rfl rfl (by first | exact wrap64 (by omega) (by omega) | rfl)) (show _ = i64 ((i + 1 : Nat) : Int) from rfl)) rfl ?_
          refine Lx.y (asg rfl) rfl ?_
          refine Lx.nil ?_
          exact Xx.againK ⟨i + 1, d2, r2, _, ⟨by omega, hc2, hr2, Frag.le_trans hBle hB4⟩, rfl, rfl, rfl, (by ac_rfl)⟩ (by omega) (Sub.cons (s := 9) rfl (Sub.cons (s := 0) rfl (Sub.cons (s := 1) rfl (Sub.cons (s := 2) rfl (Sub.cons (s := 5) rfl (Sub.cons (s := 6) rfl (Sub.cons (s := 7) rfl (Sub.cons (s := 8) rfl (Sub.cons (s := 18) rfl (Sub.cons (s := 19) rfl (Sub.cons (s := 20) rfl (Sub.cons (s := 21) rfl (Sub.cons (s := 22) rfl (Sub.cons (s := 23) rfl (Sub.cons (s := 24) rfl (Sub.cons (s := 25) rfl (Sub.cons (s := 26) rfl (Sub.cons (s := 27) rfl (Sub.nil _)))))))))))))))))))
        · skip
          refine Cx.skip ?_
          refine Xx.bn ?_
          refine Xx.tn (k11 _ _ _ _ ?_)
          refine Cx.region ?_
          refine Lx.y (mv rfl) rfl ?_
          refine Lx.y (Yx.val (add rfl rfl (by first | exact wrap64 (by omega) (by omega) | rfl)) (show _ = i64 ((i + 1 : Nat) : Int) from rfl)) rfl ?_
          refine Lx.y (asg rfl) rfl ?_
          refine Lx.nil ?_
          exact Xx.againK ⟨i + 1, d, r, _, ⟨by omega, hcd.mono (Nat.le_succ _) (by omega) (Nat.le_succ _), hrd.mono (Frag.le_refl _) (Nat.le_succ _) (Nat.le_succ _), hBle⟩, rfl, rfl, rfl, rfl⟩ (by omega) (Sub.cons (s := 9) rfl (Sub.cons (s := 0) rfl (Sub.cons (s := 1) rfl (Sub.cons (s := 2) rfl (Sub.cons (s := 5) rfl (Sub.cons (s := 6) rfl (Sub.cons (s := 7) rfl (Sub.cons (s := 8) rfl (Sub.cons (s := 18) rfl (Sub.cons (s := 19) rfl (Sub.cons (s := 20) rfl (Sub.cons (s := 21) rfl (Sub.cons (s := 22) rfl (Sub.cons (s := 23) rfl (Sub.cons (s := 24) rfl (Sub.cons (s := 25) rfl (Sub.cons (s := 26) rfl (Sub.cons (s := 27) rfl (Sub.nil _)))))))))))))))))))
      · skip
        refine Cx.exit ?_
        refine Xx.te ?_
        refine Xx.te ?_
        refine Xx.bh ?_
        exact Xx.mkK (⟨d, r, rfl, rfl, hcd.mono hi (by omega) hi, hBle⟩) (Sub.cons (s := 0) rfl (Sub.cons (s := 1) rfl (Sub.cons (s := 2) rfl (Sub.cons (s := 5) rfl (Sub.cons (s := 6) rfl (Sub.cons (s := 7) rfl (Sub.cons (s := 8) rfl (Sub.cons (s := 18) rfl (Sub.cons (s := 19) rfl (Sub.cons (s := 20) rfl (Sub.cons (s := 21) rfl (Sub.cons (s := 22) rfl (Sub.cons (s := 23) rfl (Sub.cons (s := 24) rfl (Sub.cons (s := 25) rfl (Sub.cons (s := 26) rfl (Sub.cons (s := 27) rfl (Sub.nil _))))))))))))))))))
    · skip
      skip
      refine Lx.gF rfl rfl rfl rfl ?_
      refine Lx.gF rfl rfl rfl rfl ?_
      refine Lx.y (pickF rfl rfl) rfl ?_
      refine Lx.nil ?_
      refine Xx.tn (k8 _ _ _ _ ?_)
      refine Cx.condF rfl ?_
      refine Cx.exit ?_
      refine Xx.te ?_
      refine Xx.te ?_
      refine Xx.bh ?_
      exact Xx.mkK (⟨d, r, rfl, rfl, hcd.mono hi (by omega) hi, hBle⟩) (Sub.cons (s := 0) rfl (Sub.cons (s := 1) rfl (Sub.cons (s := 2) rfl (Sub.cons (s := 5) rfl (Sub.cons (s := 6) rfl (Sub.cons (s := 7) rfl (Sub.cons (s := 8) rfl (Sub.cons (s := 18) rfl (Sub.cons (s := 19) rfl (Sub.cons (s := 20) rfl (Sub.cons (s := 21) rfl (Sub.cons (s := 22) rfl (Sub.cons (s := 23) rfl (Sub.cons (s := 24) rfl (Sub.cons (s := 25) rfl (Sub.cons (s := 26) rfl (Sub.cons (s := 27) rfl (Sub.nil _))))))))))))))))))
  · rintro ρ' B' H' ⟨d, r, rfl, rfl, hcd, hBle⟩
    rename Frag => B3
    have hF := hcd.fit (by decide) (by decide) (by decide)
    have hkl : (kys d.abs).length = d.fs.length := by rw [kys_len]; exact List.length_map _
    have hk20 : d.fs.length ≤ 20 := by have := hcd.len; rwa [show d.abs.fs.length = d.fs.length from List.length_map _] at this
    have hknd := kys_nodup hcd.nd
    refine Cx.seq (fun K14 k14 => ?_)
    refine Cx.region ?_
    refine Lx.y (fa' fo32_0 rfl) rfl ?_
    refine Lx.y (Yx.val (ld Try.underlying26 rfl rfl rfl) (show _ = Value.pointer (some ⟨db, 0, none⟩) from rfl)) rfl ?_
    refine Lx.c rfl rfl rfl (Files_ct d db _ (by omega)) ((show _ = dkH db d * (row b7 32 (bcs db r) * (row b5 25 (scs x) * R)) by ac_rfl)) rfl ?_
    rintro v3 B4 H4 ⟨Ak, ck, rfl, rfl⟩ hB4
    rw [show sortI (d.fs.map (·.m.n)) = (kys d.abs) from by unfold kys Dk.abs; rw [List.map_map]; rfl]
    simp only [star_assoc]
    refine Lx.y (asg rfl) rfl ?_
    refine Lx.nil ?_
    refine Xx.tn (k14 _ _ _ _ ?_)
    refine Cx.seq (fun K15 k15 => ?_)
    refine Cx.region ?_
    refine Lx.o (mkM) rfl (fun v B' H' hΦ hB => ?_)
    obtain ⟨wb, rfl, hBB, rfl⟩ := hΦ
    have hBB2 := hBB.symm
    subst hBB2
    clear hB
    refine Lx.y (asg rfl) rfl ?_
    refine Lx.nil ?_
    refine Xx.tn (k15 _ _ _ _ ?_)
    refine Cx.seq (fun K16 k16 => ?_)
    refine Cx.seq (fun K17 k17 => ?_)
    refine Cx.region ?_
    refine Lx.y (asg rfl) rfl ?_
    refine Lx.nil ?_
    refine Xx.tn (k17 _ _ _ _ ?_)
    refine Cx.block ?_
    refine Cx.loopK (Sub.cons (s := 0) rfl (Sub.cons (s := 1) rfl (Sub.cons (s := 2) rfl (Sub.cons (s := 5) rfl (Sub.cons (s := 7) rfl (Sub.cons (s := 8) rfl (Sub.cons (s := 10) rfl (Sub.cons (s := 11) rfl (Sub.cons (s := 18) rfl (Sub.cons (s := 19) rfl (Sub.cons (s := 20) rfl (Sub.cons (s := 21) rfl (Sub.cons (s := 22) rfl (Sub.cons (s := 23) rfl (Sub.cons (s := 24) rfl (Sub.cons (s := 25) rfl (Sub.cons (s := 26) rfl (Sub.cons (s := 27) rfl (Sub.cons (s := 54) rfl (Sub.cons (s := 55) rfl (Sub.cons (s := 56) rfl (Sub.cons (s := 57) rfl (Sub.nil _))))))))))))))))))))))) (fun m ρ' B' H' => ∃ (i : Nat) (d2 : Dk) (B5 : Frag), (i ≤ (kys d.abs).length ∧ DkN.Calm (20 + i) 8000 (20 + i) d2.abs ∧ d2.abs.fs.map (·.n) = d.abs.fs.map (·.n) ∧ (∀ m, nowOf d2.abs.fs m = (nowOf d.abs.fs) m) ∧ (∀ m ∈ (kys d.abs).take i, SureL d2.abs.fs m ((nowOf d.abs.fs) m)) ∧ B.le B5) ∧ m = (kys d.abs).length - i ∧ ρ' = [(12, i64 (i : Int))] ∧ B5 = B' ∧ row b7 32 (bcs db r) * (dkH db d2 * (sbuf 3 1 Ak d.fs.length ck (ints (kys d.abs)) * (imap wb (wasL (nowOf d.abs.fs) ((kys d.abs).take i)) * (row b5 25 (scs x) * R)))) = H') ⟨0, d, _, ⟨Nat.zero_le _, hcd, rfl, fun m => rfl, fun m hm => (by cases hm), Frag.le_trans hBle hB4⟩, rfl, rfl, rfl, (by rw [List.take_zero, show wasL (nowOf d.abs.fs) [] = [] from rfl]; ac_rfl)⟩ (Sub.cons (s := 12) rfl (Sub.cons (s := 0) rfl (Sub.cons (s := 1) rfl (Sub.cons (s := 2) rfl (Sub.cons (s := 5) rfl (Sub.cons (s := 7) rfl (Sub.cons (s := 8) rfl (Sub.cons (s := 10) rfl (Sub.cons (s := 11) rfl (Sub.cons (s := 18) rfl (Sub.cons (s := 19) rfl (Sub.cons (s := 20) rfl (Sub.cons (s := 21) rfl (Sub.cons (s := 22) rfl (Sub.cons (s := 23) rfl (Sub.cons (s := 24) rfl (Sub.cons (s := 25) rfl (Sub.cons (s := 26) rfl (Sub.cons (s := 27) rfl (Sub.cons (s := 54) rfl (Sub.cons (s := 55) rfl (Sub.cons (s := 56) rfl (Sub.cons (s := 57) rfl (Sub.nil _)))))))))))))))))))))))) ?_
    rintro m ρ' B' H' ⟨i, d2, B5, ⟨hi, hcd2, hnum, hnow, hsure, hBle2⟩, rfl, rfl, rfl, rfl⟩
    refine Cx.seq (fun K18 k18 => ?_)
    refine Cx.seq (fun K19 k19 => ?_)
    refine Cx.region ?_
    refine Lx.y (mv rfl) rfl ?_
    refine Lx.y (mv rfl) rfl ?_
    refine Lx.y (lenV (ty' := 0) Try.underlying39 rfl) rfl ?_
    refine Lx.y (lss rfl rfl) rfl ?_
    refine Lx.nil ?_
    refine Xx.tn (k19 _ _ _ _ ?_)
    refine Cx.condD rfl (fun h20 => ?_) (fun h20 => ?_)
    · skip
      have hlt := h20
      have hlt : i < (kys d.abs).length := by omega
      have hF2 := hcd2.fit (by omega) (by omega) (by omega)
      have hkn : (kys d.abs)[i] ∈ d2.abs.fs.map (·.n) := by rw [hnum]; exact kys_mem.1 (List.getElem_mem hlt)
      obtain ⟨hp1, hp2, hp3, hp4, hp5⟩ := sync_props hcd2 hkn
      refine Xx.addrT Ak (by omega) (fun bk hAk hkx hkc => ?_)
      refine Xx.perm (H' := row b7 32 (bcs db r) * (dkH db d2 * (sbuf 3 1 (some ⟨bk, 0, none⟩) d.fs.length ck (ints (kys d.abs)) * (imap wb (wasL (nowOf d.abs.fs) ((kys d.abs).take i)) * (row b5 25 (scs x) * R))))) ?_ (by rw [hAk])
      refine Cx.skip ?_
      refine Xx.tn (k18 _ _ _ _ ?_)
      refine Cx.seq (fun K21 k21 => ?_)
      refine Cx.block ?_
      refine Cx.seq (fun K22 k22 => ?_)
      refine Cx.seq (fun K23 k23 => ?_)
      refine Cx.drawn (by kernel_rfl) ?_
      refine Dx.p (i := 0) rfl (by kernel_rfl) (fa' fo32_0 rfl) rfl ?_
      refine Dx.r (i := 1) rfl (by kernel_rfl) (Yx.val (ld Try.underlying26 rfl rfl rfl) (show _ = Value.pointer (some ⟨db, 0, none⟩) from rfl)) rfl ?_
      refine Dx.p (i := 2) rfl (by kernel_rfl) (Yx.val (mv rfl) (show _ = Value.slice (some ⟨bk, 0, none⟩) d.fs.length ck from by rw [← hAk])) rfl ?_
      refine Dx.p (i := 3) rfl (by kernel_rfl) (mv rfl) rfl ?_
      refine Dx.p (i := 4) rfl (by kernel_rfl) (ia Try.underlying39 sz3 rfl rfl (by first | exact Int.toNat_natCast _ | rfl) (by omega) (by omega)) rfl ?_
      refine Dx.r (i := 5) rfl (by kernel_rfl) (ldC Try.underlying3 rfl rfl (Cells.buf (b := bk) (m := 1) (DkE.ints_at (j := i) (l := (kys d.abs)) (by omega)) (by rw [intsN]; omega))) rfl ?_
      refine Dx.one (i := 6) (by kernel_rfl) ?_
      refine Dstep.o (i := 6) rfl (Ox.call rfl rfl rfl (Sync_ct d2 db (kys d.abs)[i] _ hF2) ((star_left _ _ _))) rfl (fun v B' H' hΦ hB => ?_)
      obtain ⟨_, rfl, hΦ⟩ := hΦ
      obtain ⟨rfl, d3, hd3, rfl⟩ := hΦ
      have hB6 := hB
      rw [hp1]
      have hc3 := hcd2.sync (kys d.abs)[i]
      rw [← hd3] at hc3
      refine ⟨JOk.edge (JOk.edge (JOk.top) (by kernel_rfl)) (by kernel_rfl), ?_⟩
      refine Dx.p (i := 7) rfl (by kernel_rfl) (Yx.ff (neI rfl rfl) rfl) rfl ?_
      refine Dx.done (by kernel_rfl) ?_
      refine Xx.tn (k23 _ _ _ _ ?_)
      refine Cx.condF rfl ?_
      refine Cx.skip ?_
      refine Xx.tn (k22 _ _ _ _ ?_)
      refine Cx.drawn (by kernel_rfl) ?_
      refine Dx.p (i := 0) rfl (by kernel_rfl) (mv rfl) rfl ?_
      refine Dx.p (i := 1) rfl (by kernel_rfl) (Yx.val (mv rfl) (show _ = Value.slice (some ⟨bk, 0, none⟩) d.fs.length ck from by rw [← hAk])) rfl ?_
      refine Dx.p (i := 2) rfl (by kernel_rfl) (mv rfl) rfl ?_
      refine Dx.p (i := 3) rfl (by kernel_rfl) (ia Try.underlying39 sz3 rfl rfl (by first | exact Int.toNat_natCast _ | rfl) (by omega) (by omega)) rfl ?_
      refine Dx.r (i := 4) rfl (by kernel_rfl) (ldC Try.underlying3 rfl rfl (Cells.buf (b := bk) (m := 1) (DkE.ints_at (j := i) (l := (kys d.abs)) (by omega)) (by rw [intsN]; omega))) rfl ?_
      refine Dx.p (i := 5) rfl (by kernel_rfl) (fa' fo32_0 rfl) rfl ?_
      refine Dx.r (i := 6) rfl (by kernel_rfl) (Yx.val (ld Try.underlying26 rfl rfl rfl) (show _ = Value.pointer (some ⟨db, 0, none⟩) from rfl)) rfl ?_
      refine Dx.p (i := 7) rfl (by kernel_rfl) (Yx.val (mv rfl) (show _ = Value.slice (some ⟨bk, 0, none⟩) d.fs.length ck from by rw [← hAk])) rfl ?_
      refine Dx.p (i := 8) rfl (by kernel_rfl) (mv rfl) rfl ?_
      refine Dx.p (i := 9) rfl (by kernel_rfl) (ia Try.underlying39 sz3 rfl rfl (by first | exact Int.toNat_natCast _ | rfl) (by omega) (by omega)) rfl ?_
      refine Dx.r (i := 10) rfl (by kernel_rfl) (ldC Try.underlying3 rfl rfl (Cells.buf (b := bk) (m := 1) (DkE.ints_at (j := i) (l := (kys d.abs)) (by omega)) (by rw [intsN]; omega))) rfl ?_
      refine Dx.one (i := 11) (by kernel_rfl) ?_
      refine Dstep.o (i := 11) rfl (Ox.co rfl rfl rfl (Read_ct d3 db (kys d.abs)[i] _ (hc3.fit (by omega) (by omega) (by omega))) (rfl)) rfl (fun v B' H' hΦ hB => ?_)
      obtain ⟨rfl, hBB, rfl⟩ := hΦ; have hBB2 := hBB.symm; subst hBB2; clear hB
      rw [show (if errM d3.abs (kys d.abs)[i] = 0 then (fileM (kys d.abs)[i] d3.abs.fs).now else []) = (nowOf d.abs.fs) (kys d.abs)[i] from by
        rw [if_pos (err_of_sure hc3.dead (by rw [hd3]; exact hp4)).1]
        show nowOf d3.abs.fs _ = _
        rw [hd3, hp3, hnow]]
      refine ⟨JOk.edge (JOk.edge (JOk.yes (JOk.top) (ldC Try.underlying3 rfl rfl (Cells.buf (b := bk) (m := 1) (DkE.ints_at (j := i) (l := (kys d.abs)) (by omega)) (by rw [intsN]; omega)))) (by kernel_rfl)) (by kernel_rfl), ?_⟩
      refine Dx.p (i := 12) rfl (by kernel_rfl) (mv rfl) rfl ?_
      refine Dx.p (i := 13) rfl (by kernel_rfl) (Yx.val (ext rfl rfl) (show _ = str ((nowOf d.abs.fs) (kys d.abs)[i]) from rfl)) rfl ?_
      refine Dx.p (i := 14) rfl (by kernel_rfl) (ext rfl rfl) rfl ?_
      refine Dx.one (i := 15) (by kernel_rfl) ?_
      refine Dstep.o0 (i := 15) rfl (stM Try.underlying41 Try.underlying3 rfl rfl rfl) (fun v B' H' hΦ hB => ?_)
      obtain ⟨hBB, rfl⟩ := hΦ
      have hBB2 := hBB.symm
      subst hBB2
      refine ⟨JOk.edge (JOk.edge (JOk.edge (JOk.top) (by kernel_rfl)) (by kernel_rfl)) (by kernel_rfl), ?_⟩
      refine Dx.done (by kernel_rfl) ?_
      refine Xx.bn ?_
      refine Xx.tn (k21 _ _ _ _ ?_)
      refine Cx.region ?_
      refine Lx.y (mv rfl) rfl ?_
      refine Lx.y (Yx.val (add rfl rfl (by first | exact wrap64 (by omega) (by omega) | rfl)) (show _ = i64 ((i + 1 : Nat) : Int) from rfl)) rfl ?_
      refine Lx.y (asg rfl) rfl ?_
      refine Lx.nil ?_
      exact Xx.againK ⟨i + 1, d3, _, ⟨by omega, hc3, by rw [hd3, hp2]; exact hnum, fun m => by rw [hd3, hp3]; exact hnow m, fun m hm => by
  rw [List.take_succ_eq_append_getElem (by omega), List.mem_append] at hm
  rw [hd3]
  rcases hm with hm | hm
  · exact hp5 _ _ (hsure m hm)
  · rw [List.mem_singleton.1 hm]; have h9 := hp4; rw [hnow] at h9; exact h9, Frag.le_trans hBle2 hB6⟩, rfl, rfl, rfl, (by rw [List.take_succ_eq_append_getElem (by omega), ← was_set (nodup_take hknd (by omega)), hAk]; ac_rfl)⟩ (by omega) (Sub.cons (s := 12) rfl (Sub.cons (s := 0) rfl (Sub.cons (s := 1) rfl (Sub.cons (s := 2) rfl (Sub.cons (s := 5) rfl (Sub.cons (s := 7) rfl (Sub.cons (s := 8) rfl (Sub.cons (s := 10) rfl (Sub.cons (s := 11) rfl (Sub.cons (s := 18) rfl (Sub.cons (s := 19) rfl (Sub.cons (s := 20) rfl (Sub.cons (s := 21) rfl (Sub.cons (s := 22) rfl (Sub.cons (s := 23) rfl (Sub.cons (s := 24) rfl (Sub.cons (s := 25) rfl (Sub.cons (s := 26) rfl (Sub.cons (s := 27) rfl (Sub.cons (s := 54) rfl (Sub.cons (s := 55) rfl (Sub.cons (s := 56) rfl (Sub.cons (s := 57) rfl (Sub.nil _))))))))))))))))))))))))
    · skip
      have hge := h20
      obtain rfl : i = (kys d.abs).length := by omega
      have hti : (kys d.abs).take (kys d.abs).length = (kys d.abs) := List.take_length
      refine Cx.exit ?_
      refine Xx.te ?_
      refine Xx.te ?_
      refine Xx.bh ?_
      refine Xx.tn (k16 _ _ _ _ ?_)
      refine Cx.cutK (ds' := []) (Sub.cons (s := 0) rfl (Sub.cons (s := 1) rfl (Sub.cons (s := 2) rfl (Sub.cons (s := 5) rfl (Sub.cons (s := 7) rfl (Sub.cons (s := 8) rfl (Sub.cons (s := 10) rfl (Sub.cons (s := 11) rfl (Sub.cons (s := 12) rfl (Sub.cons (s := 18) rfl (Sub.cons (s := 19) rfl (Sub.cons (s := 20) rfl (Sub.cons (s := 21) rfl (Sub.cons (s := 22) rfl (Sub.cons (s := 23) rfl (Sub.cons (s := 24) rfl (Sub.cons (s := 25) rfl (Sub.cons (s := 26) rfl (Sub.cons (s := 27) rfl (Sub.cons (s := 54) rfl (Sub.cons (s := 55) rfl (Sub.cons (s := 56) rfl (Sub.cons (s := 57) rfl (Sub.cons (s := 58) rfl (Sub.cons (s := 59) rfl (Sub.cons (s := 60) rfl (Sub.cons (s := 61) rfl (Sub.nil _)))))))))))))))))))))))))))) (fun ρ' B' H' => ∃ (d3 : Dk), ρ' = [] ∧ row b7 32 (bcs db r) * (dkH db d3 * (sbuf 3 1 Ak d.fs.length ck (ints (kys d.abs)) * (imap wb (wasL (nowOf d.abs.fs) (kys d.abs)) * (row b5 25 (scs x) * R)))) = H' ∧ DkN.Calm 60 13100 60 d3.abs ∧ (∀ m ∈ (kys d.abs), SureL d3.abs.fs m ((nowOf d.abs.fs) m)) ∧ B.le B') ?_ ?_
      · skip
        refine Cx.seq (fun K24 k24 => ?_)
        refine Cx.region ?_
        refine Lx.y (asg rfl) rfl ?_
        refine Lx.nil ?_
        refine Xx.tn (k24 _ _ _ _ ?_)
        refine Cx.block ?_
        refine Cx.loopK (Sub.cons (s := 0) rfl (Sub.cons (s := 1) rfl (Sub.cons (s := 2) rfl (Sub.cons (s := 5) rfl (Sub.cons (s := 7) rfl (Sub.cons (s := 8) rfl (Sub.cons (s := 10) rfl (Sub.cons (s := 11) rfl (Sub.cons (s := 12) rfl (Sub.cons (s := 18) rfl (Sub.cons (s := 19) rfl (Sub.cons (s := 20) rfl (Sub.cons (s := 21) rfl (Sub.cons (s := 22) rfl (Sub.cons (s := 23) rfl (Sub.cons (s := 24) rfl (Sub.cons (s := 25) rfl (Sub.cons (s := 26) rfl (Sub.cons (s := 27) rfl (Sub.cons (s := 54) rfl (Sub.cons (s := 55) rfl (Sub.cons (s := 56) rfl (Sub.cons (s := 57) rfl (Sub.cons (s := 58) rfl (Sub.cons (s := 59) rfl (Sub.cons (s := 60) rfl (Sub.cons (s := 61) rfl (Sub.nil _)))))))))))))))))))))))))))) (fun m ρ' B' H' => ∃ (i : Nat) (d3 : Dk) (B5 : Frag), (i ≤ 20 ∧ DkN.Calm (40 + i) (8000 + 255 * i) (40 + i) d3.abs ∧ (∀ m ∈ (kys d.abs), SureL d3.abs.fs m ((nowOf d.abs.fs) m)) ∧ B.le B5) ∧ m = 20 - i ∧ ρ' = [(13, i64 (i : Int))] ∧ B5 = B' ∧ row b7 32 (bcs db r) * (dkH db d3 * (sbuf 3 1 Ak d.fs.length ck (ints (kys d.abs)) * (imap wb (wasL (nowOf d.abs.fs) (kys d.abs)) * (row b5 25 (scs x) * R)))) = H') ⟨0, d2, _, ⟨Nat.zero_le _, hcd2.mono (by omega) (by omega) (by omega), fun m hm => hsure m (by rw [hti]; exact hm), hBle2⟩, rfl, rfl, rfl, (by rw [hti])⟩ (Sub.cons (s := 13) rfl (Sub.cons (s := 0) rfl (Sub.cons (s := 1) rfl (Sub.cons (s := 2) rfl (Sub.cons (s := 5) rfl (Sub.cons (s := 7) rfl (Sub.cons (s := 8) rfl (Sub.cons (s := 10) rfl (Sub.cons (s := 11) rfl (Sub.cons (s := 12) rfl (Sub.cons (s := 18) rfl (Sub.cons (s := 19) rfl (Sub.cons (s := 20) rfl (Sub.cons (s := 21) rfl (Sub.cons (s := 22) rfl (Sub.cons (s := 23) rfl (Sub.cons (s := 24) rfl (Sub.cons (s := 25) rfl (Sub.cons (s := 26) rfl (Sub.cons (s := 27) rfl (Sub.cons (s := 54) rfl (Sub.cons (s := 55) rfl (Sub.cons (s := 56) rfl (Sub.cons (s := 57) rfl (Sub.cons (s := 58) rfl (Sub.cons (s := 59) rfl (Sub.cons (s := 60) rfl (Sub.cons (s := 61) rfl (Sub.nil _))))))))))))))))))))))))))))) ?_
        rintro m ρ' B' H' ⟨i, d3, B5, ⟨hi3, hcd3, hsure3, hBle3⟩, rfl, rfl, rfl, rfl⟩
        refine Cx.seq (fun K25 k25 => ?_)
        refine Cx.seq (fun K26 k26 => ?_)
        refine Cx.region ?_
        refine Lx.y (mv rfl) rfl ?_
        refine Lx.y (mv rfl) rfl ?_
        refine Lx.y (lenV (ty' := 0) Try.underlying22 rfl) rfl ?_
        refine Lx.y (lss rfl rfl) rfl ?_
        refine Lx.y (mv rfl) rfl ?_
        refine Xx.ifD (t := 91) rfl (fun h27 => ?_) (fun h27 => ?_)
        · skip
          have hlt := h27
          have hlt : i < more.length := by omega
          refine Lx.gT rfl rfl rfl ?_
          refine Lx.y (mv rfl) rfl ?_
          refine Lx.gT rfl rfl rfl ?_
          refine Lx.y (lss rfl rfl) rfl ?_
          refine Lx.y (pickT rfl rfl) rfl ?_
          refine Lx.nil ?_
          refine Xx.tn (k26 _ _ _ _ ?_)
          refine Cx.condD rfl (fun h28 => ?_) (fun h28 => ?_)
          · skip
            have h20 := h28
            have h20 : i < 20 := by omega
            obtain ⟨b0, o0, cs0, et0, fz0, hA0, hB0, hc0⟩ := flat_at (show ∀ x, (acs x).length = 7 from fun _ => rfl) (hm (by omega)) hlt
            have hB0 := hBle3 _ _ hB0
            refine Cx.skip ?_
            refine Xx.tn (k25 _ _ _ _ ?_)
            refine Cx.seq (fun K29 k29 => ?_)
            refine Cx.block ?_
            refine Cx.seq (fun K30 k30 => ?_)
            refine Cx.region ?_
            refine Lx.y (Yx.val (mv rfl) (show _ = Value.slice (some ⟨b0, o0, none⟩) more.length c2 from by rw [← hA0])) rfl ?_
            refine Lx.y (mv rfl) rfl ?_
            refine Lx.y (ia Try.underlying22 sz37 rfl rfl (by first | exact Int.toNat_natCast _ | rfl) (by omega) (by omega)) rfl ?_
            refine Lx.y (fa' fo37_0 rfl) rfl ?_
            refine Lx.y (ldB Try.underlying3 rfl rfl hB0 (cell_of hc0 0 (by omega) rfl)) rfl ?_
            refine Lx.y (lss rfl rfl) rfl ?_
            refine Lx.nil ?_
            refine Xx.tn (k30 _ _ _ _ ?_)
            refine Cx.condD rfl (fun h31 => ?_) (fun h31 => ?_)
            · skip
              obtain ⟨mm, hmm, hmm5⟩ := band255 more[i].n
              have hF3 := hcd3.fit (by omega) (by omega) (by omega)
              refine Cx.drawn (by kernel_rfl) ?_
              refine Dx.p (i := 0) rfl (by kernel_rfl) (fa' fo32_0 rfl) rfl ?_
              refine Dx.r (i := 1) rfl (by kernel_rfl) (Yx.val (ld Try.underlying26 rfl rfl rfl) (show _ = Value.pointer (some ⟨db, 0, none⟩) from rfl)) rfl ?_
              refine Dx.p (i := 2) rfl (by kernel_rfl) (Yx.val (mv rfl) (show _ = Value.slice (some ⟨b0, o0, none⟩) more.length c2 from by rw [← hA0])) rfl ?_
              refine Dx.p (i := 3) rfl (by kernel_rfl) (mv rfl) rfl ?_
              refine Dx.p (i := 4) rfl (by kernel_rfl) (ia Try.underlying22 sz37 rfl rfl (by first | exact Int.toNat_natCast _ | rfl) (by omega) (by omega)) rfl ?_
              refine Dx.p (i := 5) rfl (by kernel_rfl) (fa' fo37_1 rfl) rfl ?_
              refine Dx.r (i := 6) rfl (by kernel_rfl) (ldB Try.underlying3 rfl rfl hB0 (cell_of hc0 1 (by omega) rfl)) rfl ?_
              refine Dx.p (i := 7) rfl (by kernel_rfl) (Yx.val (mv rfl) (show _ = Value.slice (some ⟨b0, o0, none⟩) more.length c2 from by rw [← hA0])) rfl ?_
              refine Dx.p (i := 8) rfl (by kernel_rfl) (mv rfl) rfl ?_
              refine Dx.p (i := 9) rfl (by kernel_rfl) (ia Try.underlying22 sz37 rfl rfl (by first | exact Int.toNat_natCast _ | rfl) (by omega) (by omega)) rfl ?_
              refine Dx.p (i := 10) rfl (by kernel_rfl) (fa' fo37_3 rfl) rfl ?_
              refine Dx.r (i := 11) rfl (by kernel_rfl) (ldB Try.underlying3 rfl rfl hB0 (cell_of hc0 3 (by omega) rfl)) rfl ?_
              refine Dx.p (i := 12) rfl (by kernel_rfl) (Yx.val (band rfl rfl rfl) (show _ = i64 (mm : Int) from by rw [hmm])) rfl ?_
              refine Dx.one (i := 13) (by kernel_rfl) ?_
              refine Dstep.o (i := 13) rfl (Ox.cb rfl rfl rfl (text_ct 122 mm _ (by omega))) rfl (fun v B' H' hΦ hB => ?_)
              obtain ⟨rfl, rfl, hBB⟩ := hΦ; have hBB2 := hBB.symm; subst hBB2; clear hB
              refine ⟨JOk.yes (JOk.yes (JOk.yes (JOk.top) (Yx.val (ld Try.underlying26 rfl rfl rfl) (show _ = Value.pointer (some ⟨db, 0, none⟩) from rfl))) (ldB Try.underlying3 rfl rfl hB0 (cell_of hc0 1 (by omega) rfl))) (ldB Try.underlying3 rfl rfl hB0 (cell_of hc0 3 (by omega) rfl)), ?_⟩
              refine Dx.one (i := 14) (by kernel_rfl) ?_
              refine Dstep.o (i := 14) rfl (Ox.call rfl rfl rfl (Append_ct d3 db more[i].file (List.replicate mm 122) _ hF3 (by rw [List.length_replicate]; omega)) ((star_left _ _ _))) rfl (fun v B' H' hΦ hB => ?_)
              obtain ⟨_, rfl, hΦ⟩ := hΦ
              obtain ⟨rfl, d4, hd4, rfl⟩ := hΦ
              have hB6 := hB
              have hB0 := hB6 _ _ hB0
              have hc4 := hcd3.append more[i].file (List.replicate mm 122)
              rw [← hd4] at hc4
              have hc4 := hc4.mono (Nat.le_refl (40 + i + 1)) (show _ ≤ 8000 + 255 * (i + 1) by rw [List.length_replicate]; omega) (Nat.le_refl (40 + i + 1))
              refine ⟨JOk.yes (JOk.edge (JOk.edge (JOk.top) (by kernel_rfl)) (by kernel_rfl)) (ldB Try.underlying3 rfl rfl hB0 (cell_of hc0 3 (by omega) rfl)), ?_⟩
              refine Dx.done (by kernel_rfl) ?_
              refine Xx.bn ?_
              refine Xx.tn (k29 _ _ _ _ ?_)
              refine Cx.region ?_
              refine Lx.y (mv rfl) rfl ?_
              refine Lx.y (Yx.val (add rfl rfl (by first | exact wrap64 (by omega) (by omega) | rfl)) (show _ = i64 ((i + 1 : Nat) : Int) from rfl)) rfl ?_
              refine Lx.y (asg rfl) rfl ?_
              refine Lx.nil ?_
              exact Xx.againK ⟨i + 1, d4, _, ⟨by omega, hc4, fun m hm => by rw [hd4]; exact sure_append hcd3 (hsure3 m hm), Frag.le_trans hBle3 hB6⟩, rfl, rfl, rfl, (by ac_rfl)⟩ (by omega) (Sub.cons (s := 13) rfl (Sub.cons (s := 0) rfl (Sub.cons (s := 1) rfl (Sub.cons (s := 2) rfl (Sub.cons (s := 5) rfl (Sub.cons (s := 7) rfl (Sub.cons (s := 8) rfl (Sub.cons (s := 10) rfl (Sub.cons (s := 11) rfl (Sub.cons (s := 12) rfl (Sub.cons (s := 18) rfl (Sub.cons (s := 19) rfl (Sub.cons (s := 20) rfl (Sub.cons (s := 21) rfl (Sub.cons (s := 22) rfl (Sub.cons (s := 23) rfl (Sub.cons (s := 24) rfl (Sub.cons (s := 25) rfl (Sub.cons (s := 26) rfl (Sub.cons (s := 27) rfl (Sub.cons (s := 54) rfl (Sub.cons (s := 55) rfl (Sub.cons (s := 56) rfl (Sub.cons (s := 57) rfl (Sub.cons (s := 58) rfl (Sub.cons (s := 59) rfl (Sub.cons (s := 60) rfl (Sub.cons (s := 61) rfl (Sub.nil _)))))))))))))))))))))))))))))
            · skip
              refine Cx.skip ?_
              refine Xx.bn ?_
              refine Xx.tn (k29 _ _ _ _ ?_)
              refine Cx.region ?_
              refine Lx.y (mv rfl) rfl ?_
              refine Lx.y (Yx.val (add rfl rfl (by first | exact wrap64 (by omega) (by omega) | rfl)) (show _ = i64 ((i + 1 : Nat) : Int) from rfl)) rfl ?_
              refine Lx.y (asg rfl) rfl ?_
              refine Lx.nil ?_
              exact Xx.againK ⟨i + 1, d3, _, ⟨by omega, hcd3.mono (by omega) (by omega) (by omega), hsure3, hBle3⟩, rfl, rfl, rfl, rfl⟩ (by omega) (Sub.cons (s := 13) rfl (Sub.cons (s := 0) rfl (Sub.cons (s := 1) rfl (Sub.cons (s := 2) rfl (Sub.cons (s := 5) rfl (Sub.cons (s := 7) rfl (Sub.cons (s := 8) rfl (Sub.cons (s := 10) rfl (Sub.cons (s := 11) rfl (Sub.cons (s := 12) rfl (Sub.cons (s := 18) rfl (Sub.cons (s := 19) rfl (Sub.cons (s := 20) rfl (Sub.cons (s := 21) rfl (Sub.cons (s := 22) rfl (Sub.cons (s := 23) rfl (Sub.cons (s := 24) rfl (Sub.cons (s := 25) rfl (Sub.cons (s := 26) rfl (Sub.cons (s := 27) rfl (Sub.cons (s := 54) rfl (Sub.cons (s := 55) rfl (Sub.cons (s := 56) rfl (Sub.cons (s := 57) rfl (Sub.cons (s := 58) rfl (Sub.cons (s := 59) rfl (Sub.cons (s := 60) rfl (Sub.cons (s := 61) rfl (Sub.nil _)))))))))))))))))))))))))))))
          · skip
            refine Cx.exit ?_
            refine Xx.te ?_
            refine Xx.te ?_
            refine Xx.bh ?_
            exact Xx.mkK (⟨d3, rfl, rfl, hcd3.mono (by omega) (by omega) (by omega), hsure3, hBle3⟩) (Sub.cons (s := 0) rfl (Sub.cons (s := 1) rfl (Sub.cons (s := 2) rfl (Sub.cons (s := 5) rfl (Sub.cons (s := 7) rfl (Sub.cons (s := 8) rfl (Sub.cons (s := 10) rfl (Sub.cons (s := 11) rfl (Sub.cons (s := 12) rfl (Sub.cons (s := 18) rfl (Sub.cons (s := 19) rfl (Sub.cons (s := 20) rfl (Sub.cons (s := 21) rfl (Sub.cons (s := 22) rfl (Sub.cons (s := 23) rfl (Sub.cons (s := 24) rfl (Sub.cons (s := 25) rfl (Sub.cons (s := 26) rfl (Sub.cons (s := 27) rfl (Sub.cons (s := 54) rfl (Sub.cons (s := 55) rfl (Sub.cons (s := 56) rfl (Sub.cons (s := 57) rfl (Sub.cons (s := 58) rfl (Sub.cons (s := 59) rfl (Sub.cons (s := 60) rfl (Sub.cons (s := 61) rfl (Sub.nil _))))))))))))))))))))))))))))
        · skip
          refine Lx.gF rfl rfl rfl rfl ?_
          refine Lx.gF rfl rfl rfl rfl ?_
          refine Lx.y (pickF rfl rfl) rfl ?_
          refine Lx.nil ?_
          refine Xx.tn (k26 _ _ _ _ ?_)
          refine Cx.condF rfl ?_
          refine Cx.exit ?_
          refine Xx.te ?_
          refine Xx.te ?_
          refine Xx.bh ?_
          exact Xx.mkK (⟨d3, rfl, rfl, hcd3.mono (by omega) (by omega) (by omega), hsure3, hBle3⟩) (Sub.cons (s := 0) rfl (Sub.cons (s := 1) rfl (Sub.cons (s := 2) rfl (Sub.cons (s := 5) rfl (Sub.cons (s := 7) rfl (Sub.cons (s := 8) rfl (Sub.cons (s := 10) rfl (Sub.cons (s := 11) rfl (Sub.cons (s := 12) rfl (Sub.cons (s := 18) rfl (Sub.cons (s := 19) rfl (Sub.cons (s := 20) rfl (Sub.cons (s := 21) rfl (Sub.cons (s := 22) rfl (Sub.cons (s := 23) rfl (Sub.cons (s := 24) rfl (Sub.cons (s := 25) rfl (Sub.cons (s := 26) rfl (Sub.cons (s := 27) rfl (Sub.cons (s := 54) rfl (Sub.cons (s := 55) rfl (Sub.cons (s := 56) rfl (Sub.cons (s := 57) rfl (Sub.cons (s := 58) rfl (Sub.cons (s := 59) rfl (Sub.cons (s := 60) rfl (Sub.cons (s := 61) rfl (Sub.nil _))))))))))))))))))))))))))))
      · rintro ρ' B' H' ⟨d3, rfl, rfl, hcd3, hsure3, hBle3⟩
        rename Frag => B6
        have hF3 := hcd3.fit (by decide) (by decide) (by decide)
        obtain ⟨hcc, hcdd, hcn, hcs, hcl⟩ := crash_calm hcd3 (by decide) x.mask x.torn
        refine Cx.seq (fun K32 k32 => ?_)
        refine Cx.region ?_
        refine Lx.y (fa' fo32_0 rfl) rfl ?_
        refine Lx.y (Yx.val (ld Try.underlying26 rfl rfl rfl) (show _ = Value.pointer (some ⟨db, 0, none⟩) from rfl)) rfl ?_
        refine Lx.y (fa' fo25_1 rfl) rfl ?_
        refine Lx.y (ld Try.underlying23 rfl rfl rfl) rfl ?_
        refine Lx.y (fa' fo25_2 rfl) rfl ?_
        refine Lx.y (ld Try.underlying3 rfl rfl rfl) rfl ?_
        refine Lx.c rfl rfl rfl (Crash_ct d3 db x.mask x.torn _ hF3) ((star_left _ _ _)) rfl ?_
        rintro v7 B7 H7 ⟨rfl, d4, hd4, rfl⟩ hB7
        refine Lx.nil ?_
        refine Xx.tn (k32 _ _ _ _ ?_)
        refine Cx.seq (fun K33 k33 => ?_)
        refine Cx.region ?_
        refine Lx.y (fa' fo32_0 rfl) rfl ?_
        refine Lx.y (Yx.val (ld Try.underlying26 rfl rfl rfl) (show _ = Value.pointer (some ⟨db, 0, none⟩) from rfl)) rfl ?_
        refine Lx.co rfl rfl rfl (Up_ct d4 db _) (rfl) rfl ?_
        obtain ⟨d5, hd5⟩ : ∃ d5 : Dk, d5 = { d4 with dead := false } := ⟨_, rfl⟩
        rw [← hd5]
        have hab : d5.abs = { crashD d3.abs x.mask x.torn with dead := false } := by rw [hd5, ← hd4]; rfl
        rw [← hab] at hcc
        have hF5 := hcc.fit (by decide) (by decide) (by decide)
        have hsure5 : ∀ m ∈ (kys d.abs), SureL d5.abs.fs m ((nowOf d.abs.fs) m) := fun m hm => by rw [hab]; exact hcs m _ (hsure3 m hm)
        have hBl7 := Frag.le_trans hBle3 hB7
        refine Lx.nil ?_
        refine Xx.tn (k33 _ _ _ _ ?_)
        refine Cx.seq (fun K34 k34 => ?_)
        refine Cx.seq (fun K35 k35 => ?_)
        refine Cx.region ?_
        refine Lx.y (asg rfl) rfl ?_
        refine Lx.nil ?_
        refine Xx.tn (k35 _ _ _ _ ?_)
        refine Cx.block ?_
        refine Cx.loopK (Sub.cons (s := 0) rfl (Sub.cons (s := 1) rfl (Sub.cons (s := 2) rfl (Sub.cons (s := 5) rfl (Sub.cons (s := 7) rfl (Sub.cons (s := 8) rfl (Sub.cons (s := 10) rfl (Sub.cons (s := 11) rfl (Sub.cons (s := 12) rfl (Sub.cons (s := 18) rfl (Sub.cons (s := 19) rfl (Sub.cons (s := 20) rfl (Sub.cons (s := 21) rfl (Sub.cons (s := 22) rfl (Sub.cons (s := 23) rfl (Sub.cons (s := 24) rfl (Sub.cons (s := 25) rfl (Sub.cons (s := 26) rfl (Sub.cons (s := 27) rfl (Sub.cons (s := 54) rfl (Sub.cons (s := 55) rfl (Sub.cons (s := 56) rfl (Sub.cons (s := 57) rfl (Sub.cons (s := 58) rfl (Sub.cons (s := 59) rfl (Sub.cons (s := 60) rfl (Sub.cons (s := 61) rfl (Sub.cons (s := 118) rfl (Sub.cons (s := 119) rfl (Sub.cons (s := 120) rfl (Sub.cons (s := 121) rfl (Sub.cons (s := 122) rfl (Sub.cons (s := 123) rfl (Sub.cons (s := 125) rfl (Sub.cons (s := 126) rfl (Sub.nil _)))))))))))))))))))))))))))))))))))) (fun m ρ' B' H' => ∃ (i : Nat), (i ≤ (kys d.abs).length) ∧ m = (kys d.abs).length - i ∧ ρ' = [(14, i64 (i : Int))] ∧ B7 = B' ∧ row b7 32 (bcs db r) * (dkH db d5 * (sbuf 3 1 Ak d.fs.length ck (ints (kys d.abs)) * (imap wb (wasL (nowOf d.abs.fs) (kys d.abs)) * (row b5 25 (scs x) * R)))) = H') ⟨0, Nat.zero_le _, rfl, rfl, rfl, by ac_rfl⟩ (Sub.cons (s := 14) rfl (Sub.cons (s := 0) rfl (Sub.cons (s := 1) rfl (Sub.cons (s := 2) rfl (Sub.cons (s := 5) rfl (Sub.cons (s := 7) rfl (Sub.cons (s := 8) rfl (Sub.cons (s := 10) rfl (Sub.cons (s := 11) rfl (Sub.cons (s := 12) rfl (Sub.cons (s := 18) rfl (Sub.cons (s := 19) rfl (Sub.cons (s := 20) rfl (Sub.cons (s := 21) rfl (Sub.cons (s := 22) rfl (Sub.cons (s := 23) rfl (Sub.cons (s := 24) rfl (Sub.cons (s := 25) rfl (Sub.cons (s := 26) rfl (Sub.cons (s := 27) rfl (Sub.cons (s := 54) rfl (Sub.cons (s := 55) rfl (Sub.cons (s := 56) rfl (Sub.cons (s := 57) rfl (Sub.cons (s := 58) rfl (Sub.cons (s := 59) rfl (Sub.cons (s := 60) rfl (Sub.cons (s := 61) rfl (Sub.cons (s := 118) rfl (Sub.cons (s := 119) rfl (Sub.cons (s := 120) rfl (Sub.cons (s := 121) rfl (Sub.cons (s := 122) rfl (Sub.cons (s := 123) rfl (Sub.cons (s := 125) rfl (Sub.cons (s := 126) rfl (Sub.nil _))))))))))))))))))))))))))))))))))))) ?_
        rintro m ρ' B' H' ⟨i, hi6, rfl, rfl, rfl, rfl⟩
        refine Cx.seq (fun K36 k36 => ?_)
        refine Cx.seq (fun K37 k37 => ?_)
        refine Cx.region ?_
        refine Lx.y (mv rfl) rfl ?_
        refine Lx.y (mv rfl) rfl ?_
        refine Lx.y (lenV (ty' := 0) Try.underlying39 rfl) rfl ?_
        refine Lx.y (lss rfl rfl) rfl ?_
        refine Lx.nil ?_
        refine Xx.tn (k37 _ _ _ _ ?_)
        refine Cx.condD rfl (fun h38 => ?_) (fun h38 => ?_)
        · skip
          have hlt := h38
          have hlt : i < (kys d.abs).length := by omega
          obtain ⟨he5, hp5⟩ := err_of_sure hcc.dead (hsure5 _ (List.getElem_mem hlt))
          refine Xx.addrT Ak (by omega) (fun bk hAk hkx hkc => ?_)
          refine Xx.perm (H' := row b7 32 (bcs db r) * (dkH db d5 * (sbuf 3 1 (some ⟨bk, 0, none⟩) d.fs.length ck (ints (kys d.abs)) * (imap wb (wasL (nowOf d.abs.fs) (kys d.abs)) * (row b5 25 (scs x) * R))))) ?_ (by rw [hAk])
          obtain ⟨rr, hrr⟩ := hp5
          refine Cx.skip ?_
          refine Xx.tn (k36 _ _ _ _ ?_)
          refine Cx.seq (fun K39 k39 => ?_)
          refine Cx.block ?_
          refine Cx.seq (fun K40 k40 => ?_)
          refine Cx.drawn (by kernel_rfl) ?_
          refine Dx.p (i := 0) rfl (by kernel_rfl) (fa' fo32_0 rfl) rfl ?_
          refine Dx.r (i := 1) rfl (by kernel_rfl) (Yx.val (ld Try.underlying26 rfl rfl rfl) (show _ = Value.pointer (some ⟨db, 0, none⟩) from rfl)) rfl ?_
          refine Dx.p (i := 2) rfl (by kernel_rfl) (Yx.val (mv rfl) (show _ = Value.slice (some ⟨bk, 0, none⟩) d.fs.length ck from by rw [← hAk])) rfl ?_
          refine Dx.p (i := 3) rfl (by kernel_rfl) (mv rfl) rfl ?_
          refine Dx.p (i := 4) rfl (by kernel_rfl) (ia Try.underlying39 sz3 rfl rfl (by first | exact Int.toNat_natCast _ | rfl) (by omega) (by omega)) rfl ?_
          refine Dx.r (i := 5) rfl (by kernel_rfl) (ldC Try.underlying3 rfl rfl (Cells.buf (b := bk) (m := 1) (DkE.ints_at (j := i) (l := (kys d.abs)) (by omega)) (by rw [intsN]; omega))) rfl ?_
          refine Dx.one (i := 6) (by kernel_rfl) ?_
          refine Dstep.o (i := 6) rfl (Ox.co rfl rfl rfl (Read_ct d5 db (kys d.abs)[i] _ hF5) ((star_left _ _ _))) rfl (fun v B' H' hΦ hB => ?_)
          obtain ⟨rfl, hBB, rfl⟩ := hΦ; have hBB2 := hBB.symm; subst hBB2; clear hB
          rw [show (if errM d5.abs (kys d.abs)[i] = 0 then (fileM (kys d.abs)[i] d5.abs.fs).now else []) = (nowOf d.abs.fs) (kys d.abs)[i] ++ rr from by rw [if_pos he5, ← hrr], he5]
          refine ⟨JOk.edge (JOk.edge (JOk.top) (by kernel_rfl)) (by kernel_rfl), ?_⟩
          refine Dx.p (i := 7) rfl (by kernel_rfl) (mv rfl) rfl ?_
          refine Dx.p (i := 8) rfl (by kernel_rfl) (ext rfl rfl) rfl ?_
          refine Dx.p (i := 9) rfl (by kernel_rfl) (ext rfl rfl) rfl ?_
          refine Dx.p (i := 10) rfl (by kernel_rfl) (asg rfl) rfl ?_
          refine Dx.p (i := 11) rfl (by kernel_rfl) (asg rfl) rfl ?_
          refine Dx.done (by kernel_rfl) ?_
          refine Xx.tn (k40 _ _ _ _ ?_)
          refine Cx.seq (fun K41 k41 => ?_)
          refine Cx.region ?_
          refine Lx.y (mv rfl) rfl ?_
          refine Lx.y (Yx.val (mv rfl) (show _ = Value.slice (some ⟨bk, 0, none⟩) d.fs.length ck from by rw [← hAk])) rfl ?_
          refine Lx.y (mv rfl) rfl ?_
          refine Lx.y (ia Try.underlying39 sz3 rfl rfl (by first | exact Int.toNat_natCast _ | rfl) (by omega) (by omega)) rfl ?_
          refine Lx.y (ldC Try.underlying3 rfl rfl (Cells.buf (b := bk) (m := 1) (DkE.ints_at (j := i) (l := (kys d.abs)) (by omega)) (by rw [intsN]; omega))) rfl ?_
          refine Lx.y (lkM (v := str ((nowOf d.abs.fs) (kys d.abs)[i])) Try.underlying41 Try.underlying3 Try.zeroValue9 rfl rfl (by rw [was_get (List.getElem_mem hlt)]; rfl)) rfl ?_
          refine Lx.y (asg rfl) rfl ?_
          refine Lx.nil ?_
          refine Xx.tn (k41 _ _ _ _ ?_)
          refine Cx.seq (fun K42 k42 => ?_)
          refine Cx.region ?_
          refine Lx.y (mv rfl) rfl ?_
          refine Lx.y (Yx.ff (neI rfl rfl) rfl) rfl ?_
          refine Lx.y (mv rfl) rfl ?_
          refine Lx.gT rfl rfl rfl ?_
          refine Lx.y (mv rfl) rfl ?_
          refine Lx.gT rfl rfl rfl ?_
          refine Lx.y (lenS Try.underlying9 rfl) rfl ?_
          refine Lx.gT rfl rfl rfl ?_
          refine Lx.y (mv rfl) rfl ?_
          refine Lx.gT rfl rfl rfl ?_
          refine Lx.y (lenS Try.underlying9 rfl) rfl ?_
          refine Lx.gT rfl rfl rfl ?_
          refine Lx.y (Yx.ff (lss rfl rfl) (by rw [List.length_append]; exact decide_eq_false (by omega))) rfl ?_
          refine Lx.y (pickF rfl rfl) rfl ?_
          refine Lx.y (mv rfl) rfl ?_
          refine Lx.gT rfl rfl rfl ?_
          refine Lx.y (mv rfl) rfl ?_
          refine Lx.gT rfl rfl rfl ?_
          refine Lx.y (mv rfl) rfl ?_
          refine Lx.gT rfl rfl rfl ?_
          refine Lx.y (lenS Try.underlying9 rfl) rfl ?_
          refine Lx.gT rfl rfl rfl ?_
          refine Lx.y (Yx.val (sl2S Try.underlying9 rfl rfl (Int.toNat_natCast _) (by omega) (by rw [List.length_append]; omega)) (show _ = str ((nowOf d.abs.fs) (kys d.abs)[i]) from by rw [List.take_left])) rfl ?_
          refine Lx.gT rfl rfl rfl ?_
          refine Lx.y (mv rfl) rfl ?_
          refine Lx.gT rfl rfl rfl ?_
          refine Lx.y (Yx.ff (neS rfl rfl) (by simp)) rfl ?_
          refine Lx.y (pickF rfl rfl) rfl ?_
          refine Lx.nil ?_
          refine Xx.tn (k42 _ _ _ _ ?_)
          refine Cx.condF rfl ?_
          refine Cx.skip ?_
          refine Xx.bn ?_
          refine Xx.tn (k39 _ _ _ _ ?_)
          refine Cx.region ?_
          refine Lx.y (mv rfl) rfl ?_
          refine Lx.y (Yx.val (add rfl rfl (by first | exact wrap64 (by omega) (by omega) | rfl)) (show _ = i64 ((i + 1 : Nat) : Int) from rfl)) rfl ?_
          refine Lx.y (asg rfl) rfl ?_
          refine Lx.nil ?_
          exact Xx.againK ⟨i + 1, (by omega), rfl, rfl, rfl, (by rw [hAk]; ac_rfl)⟩ (by omega) (Sub.cons (s := 14) rfl (Sub.cons (s := 0) rfl (Sub.cons (s := 1) rfl (Sub.cons (s := 2) rfl (Sub.cons (s := 5) rfl (Sub.cons (s := 7) rfl (Sub.cons (s := 8) rfl (Sub.cons (s := 10) rfl (Sub.cons (s := 11) rfl (Sub.cons (s := 12) rfl (Sub.cons (s := 18) rfl (Sub.cons (s := 19) rfl (Sub.cons (s := 20) rfl (Sub.cons (s := 21) rfl (Sub.cons (s := 22) rfl (Sub.cons (s := 23) rfl (Sub.cons (s := 24) rfl (Sub.cons (s := 25) rfl (Sub.cons (s := 26) rfl (Sub.cons (s := 27) rfl (Sub.cons (s := 54) rfl (Sub.cons (s := 55) rfl (Sub.cons (s := 56) rfl (Sub.cons (s := 57) rfl (Sub.cons (s := 58) rfl (Sub.cons (s := 59) rfl (Sub.cons (s := 60) rfl (Sub.cons (s := 61) rfl (Sub.cons (s := 118) rfl (Sub.cons (s := 119) rfl (Sub.cons (s := 120) rfl (Sub.cons (s := 121) rfl (Sub.cons (s := 122) rfl (Sub.cons (s := 123) rfl (Sub.cons (s := 125) rfl (Sub.cons (s := 126) rfl (Sub.nil _)))))))))))))))))))))))))))))))))))))
        · skip
          refine Cx.exit ?_
          refine Xx.te ?_
          refine Xx.te ?_
          refine Xx.bh ?_
          refine Xx.tn (k34 _ _ _ _ ?_)
          refine Cx.seq (fun K43 k43 => ?_)
          refine Cx.region ?_
          refine Lx.y (fa' fo32_0 rfl) rfl ?_
          refine Lx.y (Yx.val (ld Try.underlying26 rfl rfl rfl) (show _ = Value.pointer (some ⟨db, 0, none⟩) from rfl)) rfl ?_
          refine Lx.co rfl rfl rfl (Loose_ct d5 db _ hF5) ((star_left _ _ _)) rfl ?_
          rw [looseM_zero (fs := d5.abs.fs) (by rw [hab]; exact hcl)]
          refine Lx.y (Yx.tt (eqI rfl rfl) rfl) rfl ?_
          refine Lx.y (asg rfl) rfl ?_
          refine Lx.nil ?_
          refine Xx.tn (k43 _ _ _ _ ?_)
          refine Cx.ret ?_
          repeat refine Xx.drop ?_
          exact Xx.rB1 rfl rfl rfl (by first | exact hBl7 | exact Frag.le_trans hBl7 (by assumption)) rfl
end DkT
end Go.Proofs.Ytgcebieihmlaoaa
