/-
  The walk of the law of a disk that is none.
-/
import Derived.Test.YtgcebieihmlaoaaProg
import Derived.Test.YtgcebieihmlaoaaSlj
import Derived.Test.YtgcebieihmlaoaaDkQ
namespace Go.Proofs.Ytgcebieihmlaoaa
open Go.SL Go.RowKit
set_option linter.unusedVariables false
set_option linter.unusedSimpArgs false
set_option maxRecDepth 100000
open DkA DkB DkC DkD DkE DkF DkG DkH DkI DkJ DkK DkL DkM DkN DkO DkP DkQ
namespace DkR
theorem sz25 : (Try.prog.info? 25).map (·.size) = some 3 := by kernel_rfl
theorem ti25 : TI Try.prog 25 [.int .i64 0, .int .u64 0, .int .i64 0] 3 24 := TI.of (by kernel_rfl) rfl rfl
theorem pl25 : PL Try.prog 25 [(0, 1), (1, 1), (2, 1)] := PL.of Try.underlying25 (by kernel_rfl)

theorem calm0 {mb : Nat} : DkN.Calm 0 0 0 (Dk.abs ⟨[], 9, false, [], 0, mb, none, 0⟩) := ⟨rfl, rfl, List.nodup_nil, fun f hf => (by cases hf), fun f hf => (by cases hf), Nat.le_refl _, fun f hf => (by cases hf), fun f hf => (by cases hf), ⟨by show (0 : Int) ≤ 9; decide, by show (9 : Int) ≤ _; decide⟩, Nat.le_refl _⟩
theorem calm4 {mb : Nat} : DkN.Calm 0 0 0 (Dk.abs ⟨[], 4, false, [], 0, mb, none, 0⟩) := ⟨rfl, rfl, List.nodup_nil, fun f hf => (by cases hf), fun f hf => (by cases hf), Nat.le_refl _, fun f hf => (by cases hf), fun f hf => (by cases hf), ⟨by show (0 : Int) ≤ 4; decide, by show (4 : Int) ≤ _; decide⟩, Nat.le_refl _⟩
theorem crash0 : crashD ⟨[⟨1, List.replicate 150 97, [], [0, 1, 2]⟩], 9, false, [], 1⟩ 4#64 0 = ⟨[⟨1, (List.replicate 128 (0 : UInt8) ++ List.replicate 22 97), (List.replicate 128 (0 : UInt8) ++ List.replicate 22 97), []⟩], 9, true, [], 1⟩ := by
  unfold crashD
  rw [if_neg Bool.false_ne_true]
  unfold crashFs
  rw [show sortI (List.map (fun f : Fm => f.n) [⟨1, List.replicate 150 97, [], [0, 1, 2]⟩]) = [1] from by simp [List.mergeSort_singleton]]
  kernel_rfl
theorem fit0 : Dm.Fit ⟨[⟨1, (List.replicate 128 (0 : UInt8) ++ List.replicate 22 97), (List.replicate 128 (0 : UInt8) ++ List.replicate 22 97), []⟩], 9, false, [], 1⟩ := by
  have h1 : ∀ f ∈ ([⟨1, (List.replicate 128 (0 : UInt8) ++ List.replicate 22 97), (List.replicate 128 (0 : UInt8) ++ List.replicate 22 97), []⟩] : List Fm), f = ⟨1, (List.replicate 128 (0 : UInt8) ++ List.replicate 22 97), (List.replicate 128 (0 : UInt8) ++ List.replicate 22 97), []⟩ := fun f hf => List.mem_singleton.1 hf
  refine ⟨by decide, fun f hf => ?_, fun f hf => ?_, by decide, fun f hf => ?_, fun f hf => ?_, by decide, by decide, by decide⟩
  · rw [h1 f hf]; exact List.Pairwise.nil
  · rw [h1 f hf]; exact fun i hi => (by cases hi)
  · rw [h1 f hf]; decide
  · rw [h1 f hf]; exact Nat.le_refl _

set_option maxHeartbeats 4000000 in
theorem awake_ct (B : Frag) : CtB Try.prog 10 [] B (fun v B' => v = .bool true) := by
  refine CtB.of_body Try.func10 rfl (nt := 60) rfl (by kernel_rfl) rfl ?_
  intro N0 w0 R
  refine Cx.seq (fun K1 k1 => ?_)
  refine Cx.region ?_
  refine Lx.y (asg rfl) rfl ?_
  refine Lx.nil ?_
  refine Xx.tn (k1 _ _ _ _ ?_)
  refine Cx.seq (fun K2 k2 => ?_)
  refine Cx.region ?_
  refine Lx.c rfl rfl rfl (New_ct 9 _) ((one_star _).symm) rfl ?_
  rintro vdb Bdb Hdb ⟨hBB, hor⟩ hBdb
  obtain ⟨_, db, mb, rfl, rfl⟩ := hor.resolve_left (fun h => absurd h.1 (by decide))
  have hBB2 := hBB.symm
  subst hBB2
  clear hBdb
  refine Lx.y (mv rfl) rfl ?_
  refine Lx.y (ext rfl rfl) rfl ?_
  refine Lx.y (ext rfl rfl) rfl ?_
  refine Lx.y (asg rfl) rfl ?_
  refine Lx.y (asg rfl) rfl ?_
  refine Lx.nil ?_
  refine Xx.tn (k2 _ _ _ _ ?_)
  refine Cx.seq (fun K3 k3 => ?_)
  refine Cx.region ?_
  refine Lx.y (mv rfl) rfl ?_
  refine Lx.cp rfl rfl rfl (text_ct 97 150 _ (by decide)) rfl ?_
  refine Lx.c rfl rfl rfl (Append_ct ⟨[], 9, false, [], 0, mb, none, 0⟩ db 1 (List.replicate 150 97) _ (calm0.fit (by decide) (by decide) (by decide)) (by decide)) (rfl) rfl ?_
  rintro v1 B1 H1 ⟨rfl, d1, hd1, rfl⟩ hB1
  have hap : appendD (Dk.abs ⟨[], 9, false, [], 0, mb, none, 0⟩) 1 (List.replicate 150 97) = (⟨[⟨1, List.replicate 150 97, [], [0, 1, 2]⟩], 9, false, [], 1⟩, 0, 0) := by kernel_rfl
  rw [hap] at hd1 ⊢
  have hc1 := (calm0 (mb := mb)).append 1 (List.replicate 150 97)
  rw [hap] at hc1
  refine Lx.y (mv rfl) rfl ?_
  refine Lx.y (ext rfl rfl) rfl ?_
  refine Lx.y (ext rfl rfl) rfl ?_
  refine Lx.y (asg rfl) rfl ?_
  refine Lx.y (asg rfl) rfl ?_
  refine Lx.nil ?_
  refine Xx.tn (k3 _ _ _ _ ?_)
  refine Cx.seq (fun K4 k4 => ?_)
  refine Cx.region ?_
  refine Lx.y (mv rfl) rfl ?_
  refine Lx.c rfl rfl rfl (Crash_ct d1 db 4#64 0 _ (by rw [hd1]; exact hc1.fit (by decide) (by rw [List.length_replicate]; decide) (by decide))) (rfl) rfl ?_
  rintro v2 B2 H2 ⟨rfl, d2, hd2, rfl⟩ hB2
  rw [hd1, crash0] at hd2
  refine Lx.nil ?_
  refine Xx.tn (k4 _ _ _ _ ?_)
  refine Cx.seq (fun K5 k5 => ?_)
  refine Cx.region ?_
  refine Lx.y (mv rfl) rfl ?_
  refine Lx.co rfl rfl rfl (Up_ct d2 db _) (rfl) rfl ?_
  refine Lx.nil ?_
  refine Xx.tn (k5 _ _ _ _ ?_)
  refine Cx.seq (fun K6 k6 => ?_)
  refine Cx.region ?_
  refine Lx.y (mv rfl) rfl ?_
  refine Lx.co rfl rfl rfl (Read_ct { d2 with dead := false } db 1 _ (by rw [show Dk.abs { d2 with dead := false } = { d2.abs with dead := false } from rfl, hd2]; exact fit0)) (rfl) rfl ?_
  have hab : Dk.abs { d2 with dead := false } = ⟨[⟨1, (List.replicate 128 (0 : UInt8) ++ List.replicate 22 97), (List.replicate 128 (0 : UInt8) ++ List.replicate 22 97), []⟩], 9, false, [], 1⟩ := by rw [show Dk.abs { d2 with dead := false } = { d2.abs with dead := false } from rfl, hd2]
  rw [hab, show (if errM ⟨[⟨1, (List.replicate 128 (0 : UInt8) ++ List.replicate 22 97), (List.replicate 128 (0 : UInt8) ++ List.replicate 22 97), []⟩], 9, false, [], 1⟩ 1 = 0 then (fileM 1 [⟨1, (List.replicate 128 (0 : UInt8) ++ List.replicate 22 97), (List.replicate 128 (0 : UInt8) ++ List.replicate 22 97), []⟩]).now else []) = (List.replicate 128 (0 : UInt8) ++ List.replicate 22 97) from by kernel_rfl, show errM ⟨[⟨1, (List.replicate 128 (0 : UInt8) ++ List.replicate 22 97), (List.replicate 128 (0 : UInt8) ++ List.replicate 22 97), []⟩], 9, false, [], 1⟩ 1 = 0 from by kernel_rfl]
  refine Lx.y (mv rfl) rfl ?_
  refine Lx.y (ext rfl rfl) rfl ?_
  refine Lx.y (ext rfl rfl) rfl ?_
  refine Lx.y (asg rfl) rfl ?_
  refine Lx.y (asg rfl) rfl ?_
  refine Lx.nil ?_
  refine Xx.tn (k6 _ _ _ _ ?_)
  refine Cx.seq (fun K7 k7 => ?_)
  refine Cx.region ?_
  refine Lx.y (mv rfl) rfl ?_
  refine Lx.y (Yx.tt (eqI rfl rfl) rfl) rfl ?_
  refine Lx.y (mv rfl) rfl ?_
  refine Lx.gT rfl rfl rfl ?_
  refine Lx.y (mv rfl) rfl ?_
  refine Lx.gT rfl rfl rfl ?_
  refine Lx.y (Yx.tt (eqI rfl rfl) rfl) rfl ?_
  refine Lx.y (pickT rfl rfl) rfl ?_
  refine Lx.y (mv rfl) rfl ?_
  refine Lx.gT rfl rfl rfl ?_
  refine Lx.y (mv rfl) rfl ?_
  refine Lx.gT rfl rfl rfl ?_
  refine Lx.y (Yx.tt (eqI rfl rfl) rfl) rfl ?_
  refine Lx.y (pickT rfl rfl) rfl ?_
  refine Lx.y (mv rfl) rfl ?_
  refine Lx.gT rfl rfl rfl ?_
  refine Lx.y (mv rfl) rfl ?_
  refine Lx.gT rfl rfl rfl ?_
  refine Lx.y (Yx.tt (eqI rfl rfl) rfl) rfl ?_
  refine Lx.y (pickT rfl rfl) rfl ?_
  refine Lx.y (mv rfl) rfl ?_
  refine Lx.gT rfl rfl rfl ?_
  refine Lx.y (mv rfl) rfl ?_
  refine Lx.gT rfl rfl rfl ?_
  refine Lx.y (Yx.val (lenS Try.underlying9 rfl) (show _ = i64 150 from by rfl)) rfl ?_
  refine Lx.gT rfl rfl rfl ?_
  refine Lx.y (Yx.tt (eqI rfl rfl) rfl) rfl ?_
  refine Lx.y (pickT rfl rfl) rfl ?_
  refine Lx.y (mv rfl) rfl ?_
  refine Lx.gT rfl rfl rfl ?_
  refine Lx.y (mv rfl) rfl ?_
  refine Lx.gT rfl rfl rfl ?_
  refine Lx.y (Yx.val (ixS (j := 0) Try.underlying9 rfl rfl rfl (by decide) (by decide)) (show _ = Value.int .u8 0 from by rfl)) rfl ?_
  refine Lx.gT rfl rfl rfl ?_
  refine Lx.y (Yx.tt (eqI rfl rfl) rfl) rfl ?_
  refine Lx.y (pickT rfl rfl) rfl ?_
  refine Lx.y (mv rfl) rfl ?_
  refine Lx.gT rfl rfl rfl ?_
  refine Lx.y (mv rfl) rfl ?_
  refine Lx.gT rfl rfl rfl ?_
  refine Lx.y (Yx.val (ixS (j := 127) Try.underlying9 rfl rfl rfl (by decide) (by decide)) (show _ = Value.int .u8 0 from by rfl)) rfl ?_
  refine Lx.gT rfl rfl rfl ?_
  refine Lx.y (Yx.tt (eqI rfl rfl) rfl) rfl ?_
  refine Lx.y (pickT rfl rfl) rfl ?_
  refine Lx.y (mv rfl) rfl ?_
  refine Lx.gT rfl rfl rfl ?_
  refine Lx.y (mv rfl) rfl ?_
  refine Lx.gT rfl rfl rfl ?_
  refine Lx.y (Yx.val (ixS (j := 128) Try.underlying9 rfl rfl rfl (by decide) (by decide)) (show _ = Value.int .u8 97 from by rfl)) rfl ?_
  refine Lx.gT rfl rfl rfl ?_
  refine Lx.y (Yx.tt (eqI rfl rfl) rfl) rfl ?_
  refine Lx.y (pickT rfl rfl) rfl ?_
  refine Lx.y (asg rfl) rfl ?_
  refine Lx.nil ?_
  refine Xx.tn (k7 _ _ _ _ ?_)
  refine Cx.ret ?_
  refine Xx.drop ?_
  exact Xx.rB1 rfl rfl rfl (by first | exact Frag.le_trans hB1 hB2 | exact hB1) rfl

set_option maxHeartbeats 8000000 in
theorem DiskNone_ct (n a : Int) (s : List UInt8) (B : Frag) : CtB Try.prog 4 [i64 n, i64 a, str s] B (fun v B' => v = .bool true) := by
  refine CtB.of_body Try.func4 rfl (nt := 174) rfl (by kernel_rfl) rfl ?_
  intro N0 w0 R
  refine Cx.seq (fun K1 k1 => ?_)
  refine Cx.region ?_
  refine Lx.y (asg rfl) rfl ?_
  refine Lx.nil ?_
  refine Xx.tn (k1 _ _ _ _ ?_)
  refine Cx.seq (fun K2 k2 => ?_)
  refine Cx.region ?_
  refine Lx.y (asg rfl) rfl ?_
  refine Lx.nil ?_
  refine Xx.tn (k2 _ _ _ _ ?_)
  refine Cx.seq (fun K3 k3 => ?_)
  refine Cx.region ?_
  refine Lx.y (mv rfl) rfl ?_
  refine Lx.y (mv rfl) rfl ?_
  refine Lx.cp rfl rfl rfl (CtP.of_c (Room_nil0 n _)) rfl ?_
  refine Lx.nil ?_
  refine Xx.tn (k3 _ _ _ _ ?_)
  refine Cx.seq (fun K4 k4 => ?_)
  refine Cx.region ?_
  refine Lx.y (mv rfl) rfl ?_
  refine Lx.y (mv rfl) rfl ?_
  refine Lx.y (bld ti25 pl25 rfl rfl) rfl ?_
  refine Lx.bsl (bslA Try.underlying54 ti25 rfl rfl (by decide)) rfl (fun b1 => ?_)
  refine Lx.cp rfl rfl rfl (CtP.of_c (Plan_nil0 _ _)) rfl ?_
  refine Lx.nil ?_
  refine Xx.tn (k4 _ _ _ _ ?_)
  refine Cx.seq (fun K5 k5 => ?_)
  refine Cx.region ?_
  refine Lx.y (mv rfl) rfl ?_
  refine Lx.y (mv rfl) rfl ?_
  refine Lx.cp rfl rfl rfl (Crash_nil 1#64 n _) rfl ?_
  refine Lx.nil ?_
  refine Xx.tn (k5 _ _ _ _ ?_)
  refine Cx.seq (fun K6 k6 => ?_)
  refine Cx.region ?_
  refine Lx.y (mv rfl) rfl ?_
  refine Lx.y (mv rfl) rfl ?_
  refine Lx.y (mv rfl) rfl ?_
  refine Lx.cp rfl rfl rfl (Append_nil n s _) rfl ?_
  refine Lx.y (mv rfl) rfl ?_
  refine Lx.y (ext rfl rfl) rfl ?_
  refine Lx.y (ext rfl rfl) rfl ?_
  refine Lx.y (asg rfl) rfl ?_
  refine Lx.y (asg rfl) rfl ?_
  refine Lx.nil ?_
  refine Xx.tn (k6 _ _ _ _ ?_)
  refine Cx.seq (fun K7 k7 => ?_)
  refine Cx.region ?_
  refine Lx.y (mv rfl) rfl ?_
  refine Lx.y (mv rfl) rfl ?_
  refine Lx.cp rfl rfl rfl (Read_nil n _) rfl ?_
  refine Lx.y (mv rfl) rfl ?_
  refine Lx.y (ext rfl rfl) rfl ?_
  refine Lx.y (ext rfl rfl) rfl ?_
  refine Lx.y (asg rfl) rfl ?_
  refine Lx.y (asg rfl) rfl ?_
  refine Lx.nil ?_
  refine Xx.tn (k7 _ _ _ _ ?_)
  refine Cx.seq (fun K8 k8 => ?_)
  refine Cx.region ?_
  refine Lx.y (mv rfl) rfl ?_
  refine Lx.c rfl rfl rfl (New_ct n _) ((one_star _).symm) rfl ?_
  rintro v3 B3 H3 ⟨hBB, hor⟩ hB3
  obtain ⟨p, rfl, hp⟩ : ∃ p : Option Addr, v3 = .tuple #[.pointer p, i64 (if n < 0 then 1 else 0)] ∧ p.isNone = decide (n < 0) := by
    rcases hor with ⟨h1, h2, _⟩ | ⟨h1, db, mb, h2, _⟩
    · exact ⟨none, by rw [h2, if_pos h1], (decide_eq_true h1).symm⟩
    · exact ⟨some ⟨db, 0, none⟩, by rw [h2, if_neg (by omega)], (decide_eq_false (by omega)).symm⟩
  have hBB2 := hBB.symm
  subst hBB2
  clear hB3 hor
  refine Xx.drop ?_
  refine Lx.y (mv rfl) rfl ?_
  refine Lx.y (ext rfl rfl) rfl ?_
  refine Lx.y (ext rfl rfl) rfl ?_
  refine Lx.y (asg rfl) rfl ?_
  refine Lx.y (asg rfl) rfl ?_
  refine Lx.nil ?_
  refine Xx.tn (k8 _ _ _ _ ?_)
  refine Cx.seq (fun K9 k9 => ?_)
  refine Cx.region ?_
  refine Lx.c rfl rfl rfl (New_ct 4 _) ((one_star _).symm) rfl ?_
  rintro vdb Bdb Hdb ⟨hBB, hor⟩ hBdb
  obtain ⟨_, db, mb, rfl, rfl⟩ := hor.resolve_left (fun h => absurd h.1 (by decide))
  have hBB2 := hBB.symm
  subst hBB2
  clear hBdb
  refine Lx.y (mv rfl) rfl ?_
  refine Lx.y (ext rfl rfl) rfl ?_
  refine Lx.y (ext rfl rfl) rfl ?_
  refine Lx.y (asg rfl) rfl ?_
  refine Lx.y (asg rfl) rfl ?_
  refine Lx.nil ?_
  refine Xx.tn (k9 _ _ _ _ ?_)
  refine Cx.seq (fun K10 k10 => ?_)
  refine Cx.region ?_
  refine Lx.y (mv rfl) rfl ?_
  refine Lx.c rfl rfl rfl (Append_ct ⟨[], 4, false, [], 0, mb, none, 0⟩ db 3 [49] _ (calm4.fit (by decide) (by decide) (by decide)) (by decide)) (rfl) rfl ?_
  rintro v1 B1 H1 ⟨rfl, d1, hd1, rfl⟩ hB1
  have hap : appendD (Dk.abs ⟨[], 4, false, [], 0, mb, none, 0⟩) 3 [49] = (⟨[⟨3, [49], [], [0]⟩], 4, false, [], 1⟩, 0, 0) := by kernel_rfl
  rw [hap] at hd1 ⊢
  have hc1 := (calm4 (mb := mb)).append 3 [49]
  rw [hap] at hc1
  rw [← show d1.abs = _ from hd1] at hc1
  have hF1 := hc1.fit (by decide) (by decide) (by decide)
  refine Lx.y (mv rfl) rfl ?_
  refine Lx.y (ext rfl rfl) rfl ?_
  refine Lx.y (ext rfl rfl) rfl ?_
  refine Lx.y (asg rfl) rfl ?_
  refine Lx.y (asg rfl) rfl ?_
  refine Lx.nil ?_
  refine Xx.tn (k10 _ _ _ _ ?_)
  refine Cx.seq (fun K11 k11 => ?_)
  refine Cx.region ?_
  refine Lx.y (mv rfl) rfl ?_
  refine Lx.c rfl rfl rfl (Clone_ct d1 db _ hF1) (rfl) rfl ?_
  rintro v2 B2 H2 ⟨hBB, cb, d2, rfl, hper, hab, rfl⟩ hB2
  have hd2 : d2.abs = d1.abs := by
    rw [hab, hd1]
    rw [hd1] at hper
    rw [List.perm_singleton.1 hper]
  have hBB2 := hBB.symm
  subst hBB2
  clear hB2
  simp only [star_assoc]
  refine Lx.y (asg rfl) rfl ?_
  refine Lx.nil ?_
  refine Xx.tn (k11 _ _ _ _ ?_)
  refine Cx.seq (fun K12 k12 => ?_)
  refine Cx.region ?_
  refine Lx.y (mv rfl) rfl ?_
  refine Lx.c rfl rfl rfl (Write_ct d2 cb 3 0 [50] _ (by rw [hd2]; exact hF1) (by decide)) (star_left _ _ _) rfl ?_
  rintro v4 B4 H4 ⟨rfl, d3, hd3, rfl⟩ hB4
  rw [hd2, hd1, show (writeD ⟨[⟨3, [49], [], [0]⟩], 4, false, [], 1⟩ 3 0 [50]).2 = 0 from by kernel_rfl]
  refine Lx.y (asg rfl) rfl ?_
  refine Lx.nil ?_
  refine Xx.tn (k12 _ _ _ _ ?_)
  refine Cx.seq (fun K13 k13 => ?_)
  refine Cx.region ?_
  refine Lx.y (mv rfl) rfl ?_
  refine Lx.co rfl rfl rfl (Read_ct d1 db 3 _ hF1) (star_left _ _ _) rfl ?_
  rw [hd1, show (if errM ⟨[⟨3, [49], [], [0]⟩], 4, false, [], 1⟩ 3 = 0 then (fileM 3 [⟨3, [49], [], [0]⟩]).now else []) = [49] from by kernel_rfl, show errM ⟨[⟨3, [49], [], [0]⟩], 4, false, [], 1⟩ 3 = 0 from by kernel_rfl]
  refine Lx.y (mv rfl) rfl ?_
  refine Lx.y (ext rfl rfl) rfl ?_
  refine Lx.y (ext rfl rfl) rfl ?_
  refine Lx.y (asg rfl) rfl ?_
  refine Lx.y (asg rfl) rfl ?_
  refine Lx.nil ?_
  refine Xx.tn (k13 _ _ _ _ ?_)
  refine Cx.seq (fun K14 k14 => ?_)
  refine Cx.region ?_
  refine Lx.cb rfl rfl rfl (awake_ct _) rfl ?_
  rintro v9 B9 rfl hB9
  refine Lx.y (mv rfl) rfl ?_
  refine Lx.gT rfl rfl rfl ?_
  refine Lx.y (mv rfl) rfl ?_
  refine Lx.gT rfl rfl rfl ?_
  refine Lx.y (Yx.tt (eqI rfl rfl) rfl) rfl ?_
  refine Lx.y (pickT rfl rfl) rfl ?_
  refine Lx.y (mv rfl) rfl ?_
  refine Lx.gT rfl rfl rfl ?_
  refine Lx.y (mv rfl) rfl ?_
  refine Lx.gT rfl rfl rfl ?_
  refine Lx.y (Yx.tt (eqI rfl rfl) rfl) rfl ?_
  refine Lx.y (pickT rfl rfl) rfl ?_
  refine Lx.y (mv rfl) rfl ?_
  refine Lx.gT rfl rfl rfl ?_
  refine Lx.y (mv rfl) rfl ?_
  refine Lx.gT rfl rfl rfl ?_
  refine Lx.y (mv rfl) rfl ?_
  refine Lx.gT rfl rfl rfl ?_
  refine Lx.y (mv rfl) rfl ?_
  refine Lx.gT rfl rfl rfl ?_
  refine Lx.y (mv rfl) rfl ?_
  refine Lx.gT rfl rfl rfl ?_
  refine Lx.cp rfl rfl rfl (Write_nil n a s _) rfl ?_
  refine Lx.gT rfl rfl rfl ?_
  refine Lx.y (Yx.tt (eqI rfl rfl) rfl) rfl ?_
  refine Lx.y (pickT rfl rfl) rfl ?_
  refine Lx.y (mv rfl) rfl ?_
  refine Lx.gT rfl rfl rfl ?_
  refine Lx.y (mv rfl) rfl ?_
  refine Lx.gT rfl rfl rfl ?_
  refine Lx.y (mv rfl) rfl ?_
  refine Lx.gT rfl rfl rfl ?_
  refine Lx.cp rfl rfl rfl (Sync_nil n _) rfl ?_
  refine Lx.gT rfl rfl rfl ?_
  refine Lx.y (Yx.tt (eqI rfl rfl) rfl) rfl ?_
  refine Lx.y (pickT rfl rfl) rfl ?_
  refine Lx.y (mv rfl) rfl ?_
  refine Lx.gT rfl rfl rfl ?_
  refine Lx.y (mv rfl) rfl ?_
  refine Lx.gT rfl rfl rfl ?_
  refine Lx.y (mv rfl) rfl ?_
  refine Lx.gT rfl rfl rfl ?_
  refine Lx.y (mv rfl) rfl ?_
  refine Lx.gT rfl rfl rfl ?_
  refine Lx.cp rfl rfl rfl (Cut_nil n a _) rfl ?_
  refine Lx.gT rfl rfl rfl ?_
  refine Lx.y (Yx.tt (eqI rfl rfl) rfl) rfl ?_
  refine Lx.y (pickT rfl rfl) rfl ?_
  refine Lx.y (mv rfl) rfl ?_
  refine Lx.gT rfl rfl rfl ?_
  refine Lx.y (mv rfl) rfl ?_
  refine Lx.gT rfl rfl rfl ?_
  refine Lx.y (mv rfl) rfl ?_
  refine Lx.gT rfl rfl rfl ?_
  refine Lx.cp rfl rfl rfl (Remove_nil n _) rfl ?_
  refine Lx.gT rfl rfl rfl ?_
  refine Lx.y (Yx.tt (eqI rfl rfl) rfl) rfl ?_
  refine Lx.y (pickT rfl rfl) rfl ?_
  refine Lx.y (mv rfl) rfl ?_
  refine Lx.gT rfl rfl rfl ?_
  refine Lx.y (mv rfl) rfl ?_
  refine Lx.gT rfl rfl rfl ?_
  refine Lx.cp rfl rfl rfl (Files_nil _) rfl ?_
  refine Lx.gT rfl rfl rfl ?_
  refine Lx.y (lenV (ty' := 0) Try.underlying39 rfl) rfl ?_
  refine Lx.gT rfl rfl rfl ?_
  refine Lx.y (Yx.tt (eqI rfl rfl) rfl) rfl ?_
  refine Lx.y (pickT rfl rfl) rfl ?_
  refine Lx.y (mv rfl) rfl ?_
  refine Lx.gT rfl rfl rfl ?_
  refine Lx.y (mv rfl) rfl ?_
  refine Lx.gT rfl rfl rfl ?_
  refine Lx.cp rfl rfl rfl (Used_nil _) rfl ?_
  refine Lx.gT rfl rfl rfl ?_
  refine Lx.y (Yx.tt (eqI rfl rfl) rfl) rfl ?_
  refine Lx.y (pickT rfl rfl) rfl ?_
  refine Lx.y (mv rfl) rfl ?_
  refine Lx.gT rfl rfl rfl ?_
  refine Lx.y (mv rfl) rfl ?_
  refine Lx.gT rfl rfl rfl ?_
  refine Lx.cp rfl rfl rfl (Dead_nil _) rfl ?_
  refine Lx.y (pickT rfl rfl) rfl ?_
  refine Lx.y (mv rfl) rfl ?_
  refine Lx.gT rfl rfl rfl ?_
  refine Lx.y (mv rfl) rfl ?_
  refine Lx.gT rfl rfl rfl ?_
  refine Lx.cp rfl rfl rfl (Up_nil _) rfl ?_
  refine Lx.gT rfl rfl rfl ?_
  refine Lx.y (not' rfl) rfl ?_
  refine Lx.y (pickT rfl rfl) rfl ?_
  refine Lx.y (mv rfl) rfl ?_
  refine Lx.gT rfl rfl rfl ?_
  refine Lx.y (mv rfl) rfl ?_
  refine Lx.gT rfl rfl rfl ?_
  refine Lx.cp rfl rfl rfl (Changes_nil _) rfl ?_
  refine Lx.gT rfl rfl rfl ?_
  refine Lx.y (Yx.tt (eqI rfl rfl) rfl) rfl ?_
  refine Lx.y (pickT rfl rfl) rfl ?_
  refine Lx.y (mv rfl) rfl ?_
  refine Lx.gT rfl rfl rfl ?_
  refine Lx.y (mv rfl) rfl ?_
  refine Lx.gT rfl rfl rfl ?_
  refine Lx.cp rfl rfl rfl (Loose_nil _) rfl ?_
  refine Lx.gT rfl rfl rfl ?_
  refine Lx.y (Yx.tt (eqI rfl rfl) rfl) rfl ?_
  refine Lx.y (pickT rfl rfl) rfl ?_
  refine Lx.y (mv rfl) rfl ?_
  refine Lx.gT rfl rfl rfl ?_
  refine Lx.y (mv rfl) rfl ?_
  refine Lx.gT rfl rfl rfl ?_
  refine Lx.cp rfl rfl rfl (Clone_nil _) rfl ?_
  refine Lx.gT rfl rfl rfl ?_
  refine Lx.y (Yx.tt (eqNilP Try.underlying26 rfl rfl) rfl) rfl ?_
  refine Lx.y (pickT rfl rfl) rfl ?_
  refine Lx.y (mv rfl) rfl ?_
  refine Lx.gT rfl rfl rfl ?_
  refine Lx.y (mv rfl) rfl ?_
  refine Lx.gT rfl rfl rfl ?_
  refine Lx.y (eqI rfl rfl) rfl ?_
  refine Lx.gT rfl rfl rfl ?_
  refine Lx.y (mv rfl) rfl ?_
  refine Lx.gT rfl rfl rfl ?_
  refine Lx.y (geq rfl rfl) rfl ?_
  refine Lx.gT rfl rfl rfl ?_
  refine Lx.y (Yx.tt (eqB Try.underlying4 rfl rfl) (by by_cases h : n < 0 <;> simp [h] <;> omega)) rfl ?_
  refine Lx.y (pickT rfl rfl) rfl ?_
  refine Lx.y (mv rfl) rfl ?_
  refine Lx.gT rfl rfl rfl ?_
  refine Lx.y (mv rfl) rfl ?_
  refine Lx.gT rfl rfl rfl ?_
  refine Lx.y (neNilP Try.underlying26 rfl rfl) rfl ?_
  refine Lx.gT rfl rfl rfl ?_
  refine Lx.y (mv rfl) rfl ?_
  refine Lx.gT rfl rfl rfl ?_
  refine Lx.y (geq rfl rfl) rfl ?_
  refine Lx.gT rfl rfl rfl ?_
  refine Lx.y (Yx.tt (eqB Try.underlying4 rfl rfl) (by rw [hp]; by_cases h : n < 0 <;> simp [h] <;> omega)) rfl ?_
  refine Lx.y (pickT rfl rfl) rfl ?_
  refine Lx.y (mv rfl) rfl ?_
  refine Lx.gT rfl rfl rfl ?_
  refine Lx.y (mv rfl) rfl ?_
  refine Lx.gT rfl rfl rfl ?_
  refine Lx.y (Yx.tt (eqI rfl rfl) rfl) rfl ?_
  refine Lx.y (pickT rfl rfl) rfl ?_
  refine Lx.y (mv rfl) rfl ?_
  refine Lx.gT rfl rfl rfl ?_
  refine Lx.y (mv rfl) rfl ?_
  refine Lx.gT rfl rfl rfl ?_
  refine Lx.y (Yx.tt (eqI rfl rfl) rfl) rfl ?_
  refine Lx.y (pickT rfl rfl) rfl ?_
  refine Lx.y (mv rfl) rfl ?_
  refine Lx.gT rfl rfl rfl ?_
  refine Lx.y (mv rfl) rfl ?_
  refine Lx.gT rfl rfl rfl ?_
  refine Lx.y (Yx.tt (eqI rfl rfl) rfl) rfl ?_
  refine Lx.y (pickT rfl rfl) rfl ?_
  refine Lx.y (mv rfl) rfl ?_
  refine Lx.gT rfl rfl rfl ?_
  refine Lx.y (mv rfl) rfl ?_
  refine Lx.gT rfl rfl rfl ?_
  refine Lx.y (Yx.tt (eqI rfl rfl) rfl) rfl ?_
  refine Lx.y (pickT rfl rfl) rfl ?_
  refine Lx.y (mv rfl) rfl ?_
  refine Lx.gT rfl rfl rfl ?_
  refine Lx.y (mv rfl) rfl ?_
  refine Lx.gT rfl rfl rfl ?_
  refine Lx.y (Yx.tt (eqS rfl rfl) (by decide)) rfl ?_
  refine Lx.y (pickT rfl rfl) rfl ?_
  refine Lx.y (asg rfl) rfl ?_
  refine Lx.nil ?_
  refine Xx.tn (k14 _ _ _ _ ?_)
  refine Cx.ret ?_
  repeat refine Xx.drop ?_
  exact Xx.rB1 rfl rfl rfl (by first | exact Frag.le_trans hB1 (Frag.le_trans hB4 hB9) | exact Frag.le_trans (Frag.le_trans hB1 hB4) hB9) rfl
end DkR
end Go.Proofs.Ytgcebieihmlaoaa
