/-
  RowsOwn: whatever the input, the law answers true, and the input reads as it did.
-/
import Derived.Test.YtdidpocakipinaaGreatDoorProg
import Derived.Test.YtdidpocakipinaaGreatDoorRows
import Derived.Test.YtdidpocakipinaaGreatDoorCards
import Derived.Test.YtdidpocakipinaaGreatDoorTie
import Derived.Deep.DeepHandedRow
import Derived.Lib.LaidTab
import Derived.Test.YtdidpocakipinaaGreatDoorMo6

/-
  Values whose list of parts is one's own: cloned, put, checked, told to the reference; a struct of one part.
-/
namespace Go.Proofs.YtdidpocakipinaaGreatDoor
open Go.SL Go.RowKit
set_option linter.unusedVariables false
set_option linter.unusedSimpArgs false
set_option maxRecDepth 100000
open Ke1 Ke3 Ke4 Ke5 Ke6 Ke7 Ke8 Ke9 KeA KeB KeC KeD KeE KeF KeG KeI RgA RgB BtB BtC BtD BtE BtG BtX BtH BtI BtF BtJ BtK BtL BtM BtN BtO BtR BtY BtZ DrA DrB DrC DrD DrE DrF RwA RwB BtQ BtS RwC RwD RwE RwF RwG RwH RwI
namespace RwM
theorem sz9 : (Tryz.prog.info? 9).map (·.size) = some 1 := by kernel_rfl
theorem sz22 : (Tryz.prog.info? 22).map (·.size) = some 1 := by kernel_rfl
theorem sz23 : (Tryz.prog.info? 23).map (·.size) = some 1 := by kernel_rfl
theorem sz25 : (Tryz.prog.info? 25).map (·.size) = some 6 := by kernel_rfl
theorem sz36 : (Tryz.prog.info? 36).map (·.size) = some 8 := by kernel_rfl
theorem sz37 : (Tryz.prog.info? 37).map (·.size) = some 1 := by kernel_rfl
theorem sz39 : (Tryz.prog.info? 39).map (·.size) = some 6 := by kernel_rfl
theorem sz76 : (Tryz.prog.info? 76).map (·.size) = some 7 := by kernel_rfl
theorem ti9 : TI Tryz.prog 9 [str []] 1 16 := TI.of (by kernel_rfl) rfl rfl
theorem ti25 : TI Tryz.prog 25 [.int .i64 0, .bool false, .int .i64 0, str [], .slice none 0 0, .slice none 0 0] 6 88 := TI.of (by kernel_rfl) rfl rfl
theorem ti36 : TI Tryz.prog 36 [.int .u64 0, .int .u64 0, .int .i64 0, .bool false, .int .i64 0, str [], .slice none 0 0, .slice none 0 0] 8 104 := TI.of (by kernel_rfl) rfl rfl
theorem ti39 : TI Tryz.prog 39 [.int .i64 0, .bool false, .int .i64 0, str [], .slice none 0 0, .slice none 0 0] 6 88 := TI.of (by kernel_rfl) rfl rfl
theorem ti76 : TI Tryz.prog 76 [str [], .int .i64 0, .bool false, .int .i64 0, str [], .slice none 0 0, .slice none 0 0] 7 104 := TI.of (by kernel_rfl) rfl rfl
theorem fo25_0 : FO Tryz.prog 25 0 0 1 false := FO.of Tryz.underlying25 rfl rfl (by kernel_rfl) Tryz.underlying3 rfl rfl
theorem fo25_1 : FO Tryz.prog 25 1 1 1 false := FO.of Tryz.underlying25 rfl rfl (by kernel_rfl) Tryz.underlying4 rfl rfl
theorem fo25_2 : FO Tryz.prog 25 2 2 1 false := FO.of Tryz.underlying25 rfl rfl (by kernel_rfl) Tryz.underlying2 rfl rfl
theorem fo25_3 : FO Tryz.prog 25 3 3 1 false := FO.of Tryz.underlying25 rfl rfl (by kernel_rfl) Tryz.underlying9 rfl rfl
theorem fo25_4 : FO Tryz.prog 25 4 4 1 false := FO.of Tryz.underlying25 rfl rfl (by kernel_rfl) Tryz.underlying22 rfl rfl
theorem fo25_5 : FO Tryz.prog 25 5 5 1 false := FO.of Tryz.underlying25 rfl rfl (by kernel_rfl) Tryz.underlying23 rfl rfl
theorem fo36_0 : FO Tryz.prog 36 0 0 1 false := FO.of Tryz.underlying36 rfl rfl (by kernel_rfl) Tryz.underlying34 rfl rfl
theorem fo36_2 : FO Tryz.prog 36 2 2 6 true := FO.of Tryz.underlying36 rfl rfl (by kernel_rfl) Tryz.underlying25 rfl rfl
theorem fo39_4 : FO Tryz.prog 39 4 4 1 false := FO.of Tryz.underlying39 rfl rfl (by kernel_rfl) Tryz.underlying37 rfl rfl
theorem fo76_0 : FO Tryz.prog 76 0 0 1 false := FO.of Tryz.underlying76 rfl rfl (by kernel_rfl) Tryz.underlying9 rfl rfl
theorem fo76_1 : FO Tryz.prog 76 1 1 6 true := FO.of Tryz.underlying76 rfl rfl (by kernel_rfl) Tryz.underlying25 rfl rfl
theorem fo87_0 : FO Tryz.prog 87 0 0 1 false := FO.of Tryz.underlying87 rfl rfl (by kernel_rfl) Tryz.underlying82 rfl rfl
theorem fo87_1 : FO Tryz.prog 87 1 1 1 false := FO.of Tryz.underlying87 rfl rfl (by kernel_rfl) Tryz.underlying83 rfl rfl
theorem fo87_2 : FO Tryz.prog 87 2 2 1 false := FO.of Tryz.underlying87 rfl rfl (by kernel_rfl) Tryz.underlying85 rfl rfl
theorem pl25 : PL Tryz.prog 25 [(0, 1), (1, 1), (2, 1), (3, 1), (4, 1), (5, 1)] := PL.of Tryz.underlying25 (by kernel_rfl)
theorem pl39 : PL Tryz.prog 39 [(0, 1), (1, 1), (2, 1), (3, 1), (4, 1), (5, 1)] := PL.of Tryz.underlying39 (by kernel_rfl)
theorem pl76 : PL Tryz.prog 76 [(0, 1), (1, 6)] := PL.of Tryz.underlying76 (by kernel_rfl)

theorem CloneVo_ct (A : Option Addr) (n c : Nat) (xs : List Value) (B : Frag) (h1 : xs.all (·.oneCell') = true) (hbd : n ≤ 1000000) : Ct Tryz.prog 60 [.slice A n c] B (sbuf 25 6 A n c xs) (fun v B' H' => B' = B ∧ ∃ H0, (∃ A' c', v = .slice A' n c' ∧ H0 = sbuf 25 6 A' n c' xs ∧ n ≤ c') ∧ H' = sbuf 25 6 A n c xs * H0) := by
  have h := Ct.lend (p := sbuf 25 6 A n c xs) (q := 1) (B := B) (args := [.slice A n c]) (Φ := fun v H0 => ∃ A' c', v = .slice A' n c' ∧ H0 = sbuf 25 6 A' n c' xs ∧ n ≤ c') (Go.SL.enters_of Tryz.func60 rfl (by kernel_rfl)) (fun k hk ha => CloneV_ct A n c xs _ (.inr (sbuf_ro hk ha).1) h1 hbd)
  rw [star_comm, one_star] at h
  exact h

set_option maxHeartbeats 4000000 in
theorem CloneO_step (d : Nat) (ih : ∀ (v : V) (cs : List Value) (deep : Int) (B : Frag), ValR B d v cs → checkF d v deep = 0 → CtB Tryz.prog 35 [.agg cs.toArray] B (fun r B' => ∃ cs', r = .agg cs'.toArray ∧ ValR B' d v cs')) (v : V) (Ap : Option Addr) (cp : Nat) (An : Option Addr) (cn : Nat) (ys0 : List Value) (deep : Int) (B : Frag) (hc : ClR B d v cp An cn ys0) (hok : checkF (d + 1) v deep = 0) : Ct Tryz.prog 35 [.agg (vcs v Ap cp An cn).toArray] B (sbuf 25 6 Ap v.parts.length cp ys0) (fun r B' H' => ∃ Ap2 cp2 An2 cn2 ys, r = .agg (vcs v Ap2 cp2 An2 cn2).toArray ∧ ClR B' d v cp2 An2 cn2 ys ∧ H' = sbuf 25 6 Ap v.parts.length cp ys0 * sbuf 25 6 Ap2 v.parts.length cp2 ys) := by
  obtain ⟨hnm6, hnm0⟩ := names_many hok
  obtain ⟨_, _, _, _, hal, _, hap⟩ := chk_ok hok
  obtain ⟨⟨hsl, hn1, hn2, hcn, hcp⟩, hpl, hnl, hns, hnx, hyl0, hyv0⟩ := hc
  have hy10 : ys0.all (·.oneCell') = true := blocks_one hyl0 fun k hk => by
    obtain ⟨_, _, _, _, e⟩ := ValR.shape (hyv0 k hk)
    rw [e]; rfl
  have hnm : v.names.length ≤ 32 := by
    by_cases k6 : v.kind = 6
    · have := hnm6 k6; omega
    · have := hnm0 k6; omega
  refine Ct.of_body Tryz.func35 rfl (nt := 29) rfl (by kernel_rfl) rfl ?_
  intro N0 w0 R
  skip
  refine Cx.seq (fun K1 k1 => ?_)
  refine Cx.region ?_
  refine Lx.new (boxA rfl) rfl (fun b1 => ?_)
  refine Lx.new (allocO ti25) rfl (fun b2 => ?_)
  refine Lx.nil ?_
  refine Xx.tn (k1 _ _ _ _ ?_)
  refine Cx.seq (fun K2 k2 => ?_)
  refine Cx.drawn (by kernel_rfl) ?_
  refine Dx.p (i := 0) rfl (by kernel_rfl) (fa' fo25_5 rfl) rfl ?_
  refine Dx.r (i := 1) rfl (by kernel_rfl) (ld Tryz.underlying23 rfl rfl rfl) rfl ?_
  refine Dx.p (i := 3) rfl (by kernel_rfl) (fa' fo25_4 rfl) rfl ?_
  refine Dx.r (i := 4) rfl (by kernel_rfl) (ld Tryz.underlying22 rfl rfl rfl) rfl ?_
  refine Dx.one (i := 2) (by kernel_rfl) ?_
  refine Dstep.o (i := 2) rfl (Ox.call rfl rfl rfl (CloneST_ct An v.names.length cn (v.names.map str) _ (roe_ros hns) (strs_all2 _) (by omega)) ((one_star _).symm)) rfl (fun v B' H' hΦ hB => ?_)
  obtain ⟨_, rfl, hΦ⟩ := hΦ
  obtain ⟨hBB, An2, cn2, rfl, rfl, hcn2⟩ := hΦ
  subst hBB
  rename Frag => B
  clear hB
  refine ⟨JOk.yes (JOk.edge (JOk.top) (by kernel_rfl)) (ld Tryz.underlying22 rfl rfl rfl), ?_⟩
  refine Dx.p (i := 6) rfl (by kernel_rfl) (fa' fo25_5 rfl) rfl ?_
  refine Dx.one (i := 5) (by kernel_rfl) ?_
  refine Dstep.o (i := 5) rfl (Ox.call rfl rfl rfl (CloneVo_ct Ap v.parts.length cp ys0 _ hy10 (by omega)) (pickS Ap)) rfl (fun v B' H' hΦ hB => ?_)
  obtain ⟨_, rfl, hΦ⟩ := hΦ
  obtain ⟨hBB, H0, ⟨Ap2, cp2, rfl, rfl, hcp2⟩, rfl⟩ := hΦ
  have hBB2 := hBB.symm
  subst hBB2
  clear hB
  simp only [star_assoc]
  refine ⟨JOk.edge (JOk.yes (JOk.top) (ld Tryz.underlying23 rfl rfl rfl)) (by kernel_rfl), ?_⟩
  refine Dx.one (i := 7) (by kernel_rfl) ?_
  refine Dstep.o0 (i := 7) rfl (stO (cs' := vcs v Ap cp An2 cn2) Tryz.underlying23 sz23 rfl rfl rfl (by show 5 < 6; omega) rfl) (fun v B' H' hΦ hB => ?_)
  obtain ⟨hBB, rfl⟩ := hΦ; have hBB2 := hBB.symm; subst hBB2; clear hB v
  refine ⟨JOk.edge (JOk.edge (JOk.top) (by kernel_rfl)) (by kernel_rfl), ?_⟩
  refine Dx.p (i := 8) rfl (by kernel_rfl) (fa' fo25_4 rfl) rfl ?_
  refine Dx.one (i := 9) (by kernel_rfl) ?_
  refine Dstep.o0 (i := 9) rfl (stO (cs' := vcs v Ap2 cp2 An2 cn2) Tryz.underlying22 sz22 rfl rfl rfl (by show 4 < 6; omega) rfl) (fun v B' H' hΦ hB => ?_)
  obtain ⟨hBB, rfl⟩ := hΦ; have hBB2 := hBB.symm; subst hBB2; clear hB v
  refine ⟨JOk.edge (JOk.edge (JOk.top) (by kernel_rfl)) (by kernel_rfl), ?_⟩
  refine Dx.done (by kernel_rfl) ?_
  refine Xx.tn (k2 _ _ _ _ ?_)
  refine Cx.seq (fun K3 k3 => ?_)
  refine Cx.seq (fun K4 k4 => ?_)
  refine Xx.freezeT An2 fun B3 hB3 hRn hnc3 _ => ?_
  have hcl0 : ClR B3 d v cp2 An2 cn2 ys0 := ⟨⟨hsl, hn1, hn2, hcn2, hcp2⟩, hpl, hnl, RoS.roe hRn, hnx, hyl0, fun k hk => (hyv0 k hk).mono hB3⟩
  obtain ⟨Bz, rfl⟩ : ∃ Bz, Bz = B3 := ⟨_, rfl⟩
  refine Cx.region ?_
  refine Lx.y (fa' fo25_4 rfl) rfl ?_
  refine Lx.y (ld Tryz.underlying22 rfl rfl rfl) rfl ?_
  refine Lx.y (lenV (ty' := 0) Tryz.underlying22 rfl) rfl ?_
  refine Lx.y (mv rfl) rfl ?_
  refine Lx.nil ?_
  refine Xx.tn (k4 _ _ _ _ ?_)
  refine Cx.block ?_
  refine Cx.loopK (Sub.cons (s := 0) rfl (Sub.cons (s := 1) rfl (Sub.cons (s := 2) rfl (Sub.cons (s := 5) rfl (Sub.cons (s := 6) rfl (Sub.cons (s := 7) rfl (Sub.cons (s := 8) rfl (Sub.cons (s := 9) rfl (Sub.cons (s := 10) rfl (Sub.cons (s := 11) rfl (Sub.cons (s := 12) rfl (Sub.cons (s := 13) rfl (Sub.cons (s := 14) rfl (Sub.cons (s := 15) rfl (Sub.nil _))))))))))))))) (fun m ρ' B' H' => ∃ (i : Nat) (ys : List Value) (B2 : Frag), (i ≤ v.parts.length ∧ ClR B2 d v cp2 An2 cn2 ys ∧ Bz.le B2) ∧ m = v.parts.length - i ∧ ρ' = [(16, i64 i)] ∧ B2 = B' ∧ sbuf 25 6 Ap2 v.parts.length cp2 ys * (row b1 25 (vcs v Ap2 cp2 An2 cn2) * (row b2 25 [i64 0, .bool false, i64 0, str [], .slice none 0 0, .slice none 0 0] * (sbuf 25 6 Ap v.parts.length cp ys0 * R))) = H') ⟨0, _, _, ⟨Nat.zero_le _, hcl0, Frag.le_refl _⟩, rfl, rfl, rfl, by ac_rfl⟩ (Sub.cons (s := 16) rfl (Sub.cons (s := 0) rfl (Sub.cons (s := 1) rfl (Sub.cons (s := 2) rfl (Sub.cons (s := 5) rfl (Sub.cons (s := 6) rfl (Sub.cons (s := 7) rfl (Sub.cons (s := 8) rfl (Sub.cons (s := 9) rfl (Sub.cons (s := 10) rfl (Sub.cons (s := 11) rfl (Sub.cons (s := 12) rfl (Sub.cons (s := 13) rfl (Sub.cons (s := 14) rfl (Sub.cons (s := 15) rfl (Sub.nil _)))))))))))))))) ?_
  rintro m ρ' B' H' ⟨i, ys, B2, ⟨hi, hcl, hB2⟩, rfl, rfl, rfl, rfl⟩
  refine Cx.seq (fun K5 k5 => ?_)
  refine Cx.region ?_
  refine Lx.y (lss rfl rfl) rfl ?_
  refine Lx.nil ?_
  refine Xx.tn (k5 _ _ _ _ ?_)
  refine Cx.seq (fun K6 k6 => ?_)
  refine Cx.condD rfl (fun h7 => ?_) (fun h7 => ?_)
  · skip
    have hlt := h7
    have hlt : i < v.parts.length := by omega
    obtain ⟨g1, g2, g3, g4, g5, hyl, hyv⟩ := hcl
    have hvi := hyv i hlt
    obtain ⟨Ap3, cp3, An3, cn3, hsh⟩ := ValR.shape hvi
    rw [hsh] at hvi
    refine Xx.openT Ap2 (by omega) (fun bp sp hAp hyl2 hyc hycl => ?_)
    subst hAp
    have hat : ((ys ++ sp).drop (0 + i * 6)).take 6 = vcs v.parts[i] Ap3 cp3 An3 cn3 := by rw [Nat.zero_add, List.drop_append_of_le_length (by omega), List.take_append_of_le_length (by rw [List.length_drop]; omega)]; exact hsh
    refine Cx.skip ?_
    refine Xx.tn (k6 _ _ _ _ ?_)
    refine Cx.seq (fun K8 k8 => ?_)
    refine Cx.block ?_
    refine Cx.seq (fun K9 k9 => ?_)
    refine Cx.region ?_
    refine Lx.y (mv rfl) rfl ?_
    refine Lx.y (ia Tryz.underlying22 sz25 rfl rfl (Int.toNat_natCast _) (by omega) (by omega)) rfl ?_
    refine Lx.y (ldA Tryz.underlying25 rfl sz25 rfl (Cells.own (n := 6) PickB.eq hat) rfl) rfl ?_
    refine Lx.new (allocO ti25) rfl (fun b4 => ?_)
    refine Lx.y (asg rfl) rfl ?_
    refine Lx.st (stA (d := .bool) sz25 rfl rfl rfl rfl (by show 0 + 6 ≤ 6; omega) rfl) ?_
    refine Lx.nil ?_
    refine Xx.tn (k9 _ _ _ _ ?_)
    refine Cx.drawn (by kernel_rfl) ?_
    refine Dx.p (i := 0) rfl (by kernel_rfl) (fa' fo25_4 rfl) rfl ?_
    refine Dx.r (i := 1) rfl (by kernel_rfl) (ld Tryz.underlying22 rfl rfl rfl) rfl ?_
    refine Dx.p (i := 2) rfl (by kernel_rfl) (mv rfl) rfl ?_
    refine Dx.r (i := 3) rfl (by kernel_rfl) (ldA Tryz.underlying25 rfl sz25 rfl (Cells.own (n := 6) PickB.eq rfl) rfl) rfl ?_
    refine Dx.one (i := 4) (by kernel_rfl) ?_
    refine Dstep.o (i := 4) rfl (Ox.cb rfl rfl rfl (ih v.parts[i] _ _ _ hvi (hap i hlt))) rfl (fun v B' H' hΦ hB => ?_)
    obtain ⟨rfl, hΦ⟩ := hΦ
    obtain ⟨cs9, rfl, hv9⟩ := hΦ
    obtain ⟨Ap4, cp4, An4, cn4, rfl⟩ := ValR.shape hv9
    obtain ⟨B9, he9⟩ : ∃ B9, B9 = B' := ⟨_, rfl⟩
    subst he9
    have hB9 := hB
    refine ⟨JOk.edge (JOk.yes (JOk.top) (ld Tryz.underlying22 rfl rfl rfl)) (by kernel_rfl), ?_⟩
    refine Dx.p (i := 5) rfl (by kernel_rfl) (ia Tryz.underlying22 sz25 rfl rfl (Int.toNat_natCast _) (by omega) (by omega)) rfl ?_
    refine Dx.one (i := 6) (by kernel_rfl) ?_
    refine Dstep.o0 (i := 6) rfl (stA (d := .bool) (cs' := (ys.take (i * 6) ++ vcs v.parts[i] Ap4 cp4 An4 cn4 ++ ys.drop (i * 6 + 6)) ++ sp) sz25 rfl rfl rfl rfl (by rw [List.length_append]; show 0 + i * 6 + 6 ≤ _; omega) (by rw [frc_gen]; exact congrArg some (part_set hyl rfl hlt))) (fun v B' H' hΦ hB => ?_)
    obtain ⟨hBB, rfl⟩ := hΦ; have hBB2 := hBB.symm; subst hBB2; clear hB v
    refine ⟨JOk.edge (JOk.edge (JOk.top) (by kernel_rfl)) (by kernel_rfl), ?_⟩
    refine Dx.done (by kernel_rfl) ?_
    refine Xx.bn ?_
    refine Xx.tn (k8 _ _ _ _ ?_)
    refine Xx.dropB b4 ?_
    refine Xx.closeT bp (ys.take (i * 6) ++ vcs v.parts[i] Ap4 cp4 An4 cn4 ++ ys.drop (i * 6 + 6)) sp 6 v.parts.length cp2 rfl (part_len hyl rfl hlt) hyc (by rw [List.length_append, part_len hyl rfl hlt]; rw [List.length_append] at hycl; omega) ?_
    have hcl9 : ClR B9 d v cp2 An2 cn2 (ys.take (i * 6) ++ vcs v.parts[i] Ap4 cp4 An4 cn4 ++ ys.drop (i * 6 + 6)) := ⟨g1, g2, g3, g4.mono hB9, g5, part_len hyl rfl hlt, fun k hk => by
      rw [part_at hyl rfl hlt hk]
      split
      · rename_i e; subst e; exact hv9
      · exact (hyv k hk).mono hB9⟩
    refine Cx.region ?_
    refine Lx.y (Yx.val (add rfl rfl (by first | exact wrap64 (by omega) (by omega) | rfl)) (show _ = i64 ((i + 1 : Nat) : Int) from rfl)) rfl ?_
    refine Lx.y (mv rfl) rfl ?_
    refine Lx.nil ?_
    exact Xx.againK ⟨i + 1, _, _, ⟨by omega, hcl9, Frag.le_trans hB2 hB9⟩, rfl, rfl, rfl, rfl⟩ (by omega) (Sub.cons (s := 16) rfl (Sub.cons (s := 0) rfl (Sub.cons (s := 1) rfl (Sub.cons (s := 2) rfl (Sub.cons (s := 5) rfl (Sub.cons (s := 6) rfl (Sub.cons (s := 7) rfl (Sub.cons (s := 8) rfl (Sub.cons (s := 9) rfl (Sub.cons (s := 10) rfl (Sub.cons (s := 11) rfl (Sub.cons (s := 12) rfl (Sub.cons (s := 13) rfl (Sub.cons (s := 14) rfl (Sub.cons (s := 15) rfl (Sub.nil _))))))))))))))))
  · skip
    have hge := h7
    refine Cx.exit ?_
    refine Xx.te ?_
    refine Xx.te ?_
    refine Xx.bh ?_
    refine Xx.tn (k3 _ _ _ _ ?_)
    refine Cx.seq (fun K10 k10 => ?_)
    refine Cx.region ?_
    refine Lx.y (ldA Tryz.underlying25 rfl sz25 rfl (Cells.own (n := 6) PickB.eq rfl) rfl) rfl ?_
    refine Lx.st (stA (d := .bool) sz25 rfl rfl rfl rfl (by show 0 + 6 ≤ 6; omega) rfl) ?_
    refine Lx.nil ?_
    refine Xx.tn (k10 _ _ _ _ ?_)
    refine Cx.ret ?_
    refine Xx.dropB b1 ?_
    exact Xx.retA rfl Tryz.underlying25 rfl sz25 rfl rfl ⟨_, _, _, _, _, rfl, hcl, rfl⟩ (Frag.le_trans hB3 hB2) (by ac_rfl)

theorem CloneO_ct (d : Nat) (v : V) (Ap : Option Addr) (cp : Nat) (An : Option Addr) (cn : Nat) (ys0 : List Value) (deep : Int) (B : Frag) (hc : ClR B d v cp An cn ys0) (hok : checkF (d + 1) v deep = 0) :
    Ct Tryz.prog 35 [.agg (vcs v Ap cp An cn).toArray] B (sbuf 25 6 Ap v.parts.length cp ys0) (fun r B' H' => (∃ cs', r = .agg cs'.toArray ∧ ValR B' (d + 1) v cs') ∧ H' = sbuf 25 6 Ap v.parts.length cp ys0) := by
  have h1 := CloneO_step d (Clone_ct d) v Ap cp An cn ys0 deep B hc hok
  refine ⟨h1.1, fun N0 w R s => (h1.2 N0 w R s).mono ?_⟩
  rintro x w' ⟨_, B', _, rfl, ⟨Ap2, cp2, An2, cn2, ys, rfl, hcl, rfl⟩, hB, hb, s2⟩
  obtain ⟨B2, hB2, hro, s3⟩ := frzS (s2.of_eq (show _ = sbuf 25 6 Ap2 v.parts.length cp2 ys * (sbuf 25 6 Ap v.parts.length cp ys0 * R) by ac_rfl))
  exact ⟨_, B2, _, rfl, ⟨⟨_, rfl, hcl.val hB2 hro⟩, rfl⟩, Frag.le_trans hB hB2, hb, s3⟩
theorem CheckO_ct (d : Nat) (v : V) (Ap : Option Addr) (cp : Nat) (An : Option Addr) (cn : Nat) (ys : List Value) (B : Frag) (hc : ClR B d v cp An cn ys) (hb : checkF (d + 1) v 1 = 0 → (bytesF (d + 1) v).length ≤ 1152921504606846976) :
    CtC Tryz.prog 9 [.agg (vcs v Ap cp An cn).toArray] B (sbuf 25 6 Ap v.parts.length cp ys) (i64 (CheckF (d + 1) v)) (sbuf 25 6 Ap v.parts.length cp ys) :=
  CtC.lend (Go.SL.enters_of Tryz.func9 rfl (by kernel_rfl)) fun k hk ha => Check_ct (d + 1) v _ _ (hc.val (Frag.le_un B k) (sbuf_ro hk ha).1) hb

set_option maxHeartbeats 4000000 in
theorem RPutG_ct (T : Tb) (n ver : BitVec 64) (vv : V) (Ap : Option Addr) (cp : Nat) (An : Option Addr) (cn : Nat) (S : HP) (B : Frag) (hT : TabOk B T) (hM : MaxLenIn B) (hlen : T.ds.length ≤ 60) (hcl : Ct Tryz.prog 35 [.agg (vcs vv Ap cp An cn).toArray] B S (fun r B' H' => (∃ cs', r = .agg cs'.toArray ∧ ValR B' 4 vv cs') ∧ H' = S)) (hchk : checkF 4 vv 1 = 0) (hbyt : (bytesF 4 vv).length ≤ 1024) : Ct Tryz.prog 12 [.pointer (some ⟨T.b, 0, none⟩), .agg (u64 n :: u64 ver :: vcs vv Ap cp An cn).toArray] B (tab T * S) (fun r B' H' => r = .tuple #[] ∧ ∃ T', H' = tab T' * S ∧ TabOk B' T' ∧ T'.b = T.b ∧ T'.ds.map Dc.abs = (dropD n T.ds).map Dc.abs ++ [(n, ver, vv)] ∧ T'.xs.map (·.f) = T.xs.map (·.f)) := by
  skip
  refine Ct.of_body Tryz.func12 rfl (nt := 50) rfl (by kernel_rfl) rfl ?_
  intro N0 w0 R
  rw [star_assoc]
  refine Cx.seq (fun K1 k1 => ?_)
  refine Cx.region ?_
  refine Lx.new (boxA rfl) rfl (fun b3 => ?_)
  refine Lx.nil ?_
  refine Xx.tn (k1 _ _ _ _ ?_)
  refine Cx.seq (fun K2 k2 => ?_)
  refine Cx.seq (fun K3 k3 => ?_)
  refine Cx.region ?_
  refine Lx.y (mv rfl) rfl ?_
  refine Lx.y (Yx.ff (eqNilP Tryz.underlying31 rfl rfl) rfl) rfl ?_
  refine Lx.nil ?_
  refine Xx.tn (k3 _ _ _ _ ?_)
  refine Cx.condF rfl ?_
  refine Cx.skip ?_
  refine Xx.tn (k2 _ _ _ _ ?_)
  refine Cx.seq (fun K4 k4 => ?_)
  refine Cx.region ?_
  refine Lx.y (mv rfl) rfl ?_
  refine Lx.y (fa' fo36_0 rfl) rfl ?_
  refine Lx.y (ld Tryz.underlying34 rfl rfl rfl) rfl ?_
  refine Lx.c rfl rfl rfl (RDrop_ct T n _ hT hM (by omega)) (Pick.eq) rfl ?_
  rintro r1 B4 H4 ⟨hBB, T1, rfl, rfl, hT1, hb1, hds1, hxf1⟩ hB4
  have hBB2 := hBB.symm
  subst hBB2
  clear hB4
  rw [← hb1]
  refine Lx.nil ?_
  refine Xx.tn (k4 _ _ _ _ ?_)
  refine Cx.seq (fun K5 k5 => ?_)
  refine Cx.region ?_
  refine Lx.y (fa' fo36_2 rfl) rfl ?_
  refine Lx.y (ldA Tryz.underlying25 rfl sz25 rfl (Cells.own (n := 6) PickB.eq (show ((u64 n :: u64 ver :: vcs vv Ap cp An cn).drop 2).take 6 = vcs vv Ap cp An cn from rfl)) rfl) rfl ?_
  refine Lx.c rfl rfl rfl (hcl) (Pick.eq) rfl ?_
  rintro r2 B5 H5 ⟨⟨cs2, rfl, hval2⟩, hHS⟩ hB5
  have hHS2 := hHS.symm
  subst hHS2
  obtain ⟨Ap2, cp2, An2, cn2, rfl⟩ := ValR.shape hval2
  refine Lx.y (fa' fo36_2 rfl) rfl ?_
  refine Lx.st (stA (d := .bool) (cs' := u64 n :: u64 ver :: vcs vv Ap2 cp2 An2 cn2) sz25 rfl rfl rfl rfl (by show 2 + 6 ≤ 8; omega) rfl) ?_
  refine Lx.nil ?_
  refine Xx.tn (k5 _ _ _ _ ?_)
  refine Cx.seq (fun K6 k6 => ?_)
  unfold tab
  simp only [star_assoc]
  have hT5 := hT1.mono hB5
  have hol := hT1.ord.len
  generalize hds9 : T1.ds = ds1 at *
  have hdl : ds1.length ≤ T.ds.length := by rw [hds1]; exact dropD_len
  obtain ⟨dn, hdn⟩ : ∃ dn : Dc, dn = ⟨n, ver, vv, vcs vv Ap2 cp2 An2 cn2⟩ := ⟨_, rfl⟩
  have hnew : ∀ y ∈ ds1, y.n ≠ dn.n := fun y hy => by rw [hds1] at hy; rw [hdn]; exact (dropD_mem.1 hy).2
  refine Cx.drawn (by kernel_rfl) ?_
  refine Dx.p (i := 0) rfl (by kernel_rfl) (mv rfl) rfl ?_
  refine Dx.p (i := 1) rfl (by kernel_rfl) (nilc rfl) rfl ?_
  refine Dx.p (i := 2) rfl (by kernel_rfl) (fa' fo87_0 rfl) rfl ?_
  refine Dx.r (i := 3) rfl (by kernel_rfl) (ld Tryz.underlying82 rfl rfl rfl) rfl ?_
  refine Dx.p (i := 4) rfl (by kernel_rfl) (fa' fo36_0 rfl) rfl ?_
  refine Dx.r (i := 5) rfl (by kernel_rfl) (ld Tryz.underlying34 rfl rfl rfl) rfl ?_
  refine Dx.r (i := 6) rfl (by kernel_rfl) (ldA Tryz.underlying36 rfl sz36 rfl (Cells.own (n := 8) PickB.eq (show ((u64 n :: u64 ver :: vcs vv Ap2 cp2 An2 cn2).drop 0).take 8 = dn.cells from by rw [hdn]; rfl)) (by rw [hdn]; rfl)) rfl ?_
  refine Dx.one (i := 7) (by kernel_rfl) ?_
  refine Dstep.o0 (i := 7) rfl (stG (κ := BitVec 64) (k := n) (v := .agg dn.cells.toArray) Tryz.underlying82 Tryz.underlying34 rfl rfl rfl) (fun v B' H' hΦ hB => ?_)
  obtain ⟨hBB, rfl⟩ := hΦ
  have hBB2 := hBB.symm
  subst hBB2
  clear hB
  rw [show gset n (Value.agg dn.cells.toArray) (ds1.map dkv) = (ds1 ++ [dn]).map dkv from by have h9 := gset_new (kv := dkv) dkv_k hnew; rw [← h9, hdn]; rfl]
  refine ⟨JOk.edge (JOk.edge (JOk.edge (JOk.top) (by kernel_rfl)) (by kernel_rfl)) (by kernel_rfl), ?_⟩
  refine Dx.done (by kernel_rfl) ?_
  refine Xx.tn (k6 _ _ _ _ ?_)
  refine Cx.seq (fun K7 k7 => ?_)
  refine Cx.drawn (by kernel_rfl) ?_
  refine Dx.p (i := 0) rfl (by kernel_rfl) (mv rfl) rfl ?_
  refine Dx.p (i := 1) rfl (by kernel_rfl) (nilc rfl) rfl ?_
  refine Dx.p (i := 2) rfl (by kernel_rfl) (fa' fo87_1 rfl) rfl ?_
  refine Dx.r (i := 3) rfl (by kernel_rfl) (ld Tryz.underlying83 rfl rfl rfl) rfl ?_
  refine Dx.p (i := 4) rfl (by kernel_rfl) (fa' fo36_0 rfl) rfl ?_
  refine Dx.r (i := 5) rfl (by kernel_rfl) (ld Tryz.underlying34 rfl rfl rfl) rfl ?_
  refine Dx.one (i := 6) (by kernel_rfl) ?_
  refine Dstep.o (i := 6) rfl (Ox.cb rfl rfl rfl (Number_ct n _)) rfl (fun v B' H' hΦ hB => ?_)
  obtain ⟨rfl, rfl, hBB⟩ := hΦ; have hBB2 := hBB.symm; subst hBB2; clear hB
  refine ⟨JOk.edge (JOk.yes (JOk.top) (ld Tryz.underlying83 rfl rfl rfl)) (by kernel_rfl), ?_⟩
  refine Dx.one (i := 7) (by kernel_rfl) ?_
  refine Dstep.o (i := 7) rfl (Ox.call rfl rfl rfl (PutT_ct T1.od T1.oc T1.ob (numL n) _ hT1.ord (by omega)) (Pick.eq)) rfl (fun v B' H' hΦ hB => ?_)
  obtain ⟨_, rfl, hΦ⟩ := hΦ
  obtain ⟨hBB, od2, oc2, t2, rfl, rfl, hord2⟩ := hΦ
  have hBB2 := hBB.symm
  subst hBB2
  clear hB
  rw [hds9] at hord2
  refine ⟨JOk.yes (JOk.edge (JOk.top) (by kernel_rfl)) (ld Tryz.underlying34 rfl rfl rfl), ?_⟩
  refine Dx.done (by kernel_rfl) ?_
  refine Xx.tn (k7 _ _ _ _ ?_)
  refine Cx.seq (fun K8 k8 => ?_)
  refine Cx.region ?_
  refine Lx.y (mv rfl) rfl ?_
  refine Lx.y (nilc rfl) rfl ?_
  refine Lx.y (fa' fo87_2 rfl) rfl ?_
  refine Lx.y (ld Tryz.underlying85 rfl rfl rfl) rfl ?_
  refine Xx.openGF (κ := List UInt8) (kv := ikv) T1.xb fun Z c9 hs hZ => ?_
  refine Lx.o (rgG (κ := List UInt8) Tryz.underlying85 rfl) rfl (fun v B' H' hΦ hB => ?_)
  obtain ⟨it, rfl, hBB, rfl⟩ := hΦ
  have hBB2 := hBB.symm
  subst hBB2
  clear hB
  refine Lx.nil ?_
  refine Xx.tn (k8 _ _ _ _ ?_)
  refine Cx.block ?_
  refine Cx.loopK (Sub.cons (s := 0) rfl (Sub.cons (s := 1) rfl (Sub.cons (s := 3) rfl (Sub.cons (s := 6) rfl (Sub.cons (s := 7) rfl (Sub.cons (s := 8) rfl (Sub.cons (s := 9) rfl (Sub.cons (s := 10) rfl (Sub.cons (s := 12) rfl (Sub.cons (s := 13) rfl (Sub.cons (s := 14) rfl (Sub.cons (s := 15) rfl (Sub.cons (s := 16) rfl (Sub.cons (s := 17) rfl (Sub.cons (s := 18) rfl (Sub.cons (s := 19) rfl (Sub.cons (s := 20) rfl (Sub.cons (s := 21) rfl (Sub.cons (s := 22) rfl (Sub.cons (s := 23) rfl (Sub.cons (s := 24) rfl (Sub.cons (s := 25) rfl (Sub.cons (s := 26) rfl (Sub.cons (s := 27) rfl (Sub.cons (s := 28) rfl (Sub.cons (s := 29) rfl (Sub.cons (s := 31) rfl (Sub.cons (s := 32) rfl (Sub.cons (s := 33) rfl (Sub.cons (s := 34) rfl (Sub.cons (s := 35) rfl (Sub.nil _)))))))))))))))))))))))))))))))) (fun m ρ' B' H' => ∃ (dz : List (Ix × Nat)) (cur : List Ix), (GVisF Z dz ∧ cur.map fk = T1.xs.map fk ∧ Half (fun f k => ∃ x ∈ ds1, k = keyD f x) (fun f k => k = keyD f dn ∨ ∃ x ∈ ds1, k = keyD f x) (dz.map (·.1.f)) cur) ∧ m = Z.length - dz.length ∧ ρ' = [] ∧ B5 = B' ∧ blk it (gitObj T1.xb c9 (dz.map (gz ikv))) * (blk T1.xb (gObj (Z.map (gz ikv)) c9) * (ixs cur * (tre T1.ob od2 oc2 * (gmap T1.db ((ds1 ++ [dn]).map dkv) * (row b3 36 (u64 n :: u64 ver :: vcs vv Ap2 cp2 An2 cn2) * (rowT T1 * (S * R))))))) = H') ⟨[], T1.xs, ⟨GVisF.nil Z, rfl, fun x hx => by show TK x.d x.c (if x.f ∈ [] then _ else _); rw [if_neg List.not_mem_nil, ← hds9]; exact hT1.idx x hx⟩, rfl, rfl, rfl, by ac_rfl⟩ (Sub.cons (s := 0) rfl (Sub.cons (s := 1) rfl (Sub.cons (s := 3) rfl (Sub.cons (s := 6) rfl (Sub.cons (s := 7) rfl (Sub.cons (s := 8) rfl (Sub.cons (s := 9) rfl (Sub.cons (s := 10) rfl (Sub.cons (s := 12) rfl (Sub.cons (s := 13) rfl (Sub.cons (s := 14) rfl (Sub.cons (s := 15) rfl (Sub.cons (s := 16) rfl (Sub.cons (s := 17) rfl (Sub.cons (s := 18) rfl (Sub.cons (s := 19) rfl (Sub.cons (s := 20) rfl (Sub.cons (s := 21) rfl (Sub.cons (s := 22) rfl (Sub.cons (s := 23) rfl (Sub.cons (s := 24) rfl (Sub.cons (s := 25) rfl (Sub.cons (s := 26) rfl (Sub.cons (s := 27) rfl (Sub.cons (s := 28) rfl (Sub.cons (s := 29) rfl (Sub.cons (s := 31) rfl (Sub.cons (s := 32) rfl (Sub.cons (s := 33) rfl (Sub.cons (s := 34) rfl (Sub.cons (s := 35) rfl (Sub.nil _)))))))))))))))))))))))))))))))) ?_
  rintro m ρ' B' H' ⟨dz, cur, ⟨hv, hfk, hhalf⟩, rfl, rfl, rfl, rfl⟩
  refine Cx.seq (fun K9 k9 => ?_)
  refine Cx.region ?_
  refine Lx.o (nxGF hs hv rfl) rfl (fun v B' H' hΦ hB => ?_)
  obtain ⟨o, dz2, rfl, ha, hBB, rfl⟩ := hΦ
  have hBB2 := hBB.symm
  subst hBB2
  clear hB
  refine Lx.y (ext rfl (gnx0 _)) rfl ?_
  refine Lx.nil ?_
  refine Xx.tn (k9 _ _ _ _ ?_)
  refine Cx.seq (fun K10 k10 => ?_)
  refine Cx.condB rfl (fun h11 => ?_) (fun h11 => ?_)
  · skip
    obtain ⟨z, rfl⟩ : ∃ z, o = some z := by
      cases o with
      | none => exact absurd h11 (by simp)
      | some z => exact ⟨z, rfl⟩
    obtain ⟨rfl, hzZ, hzn⟩ := ha
    have hv2 := hv.step hzZ hzn
    have hvl := hv2.len
    rw [List.length_append, List.length_singleton] at hvl
    have hzx : z.1 ∈ T1.xs := by rw [← hZ]; exact List.mem_map.2 ⟨z, hzZ, rfl⟩
    obtain ⟨l, x, r, rfl, hxf, hxt⟩ := fk_find hfk hzx
    obtain ⟨xf, xt, xd, xc⟩ := x
    obtain rfl : xf = z.1.f := hxf
    obtain rfl : xt = z.1.tb := hxt
    rw [ixs_mid]
    simp only [star_assoc]
    have hnf : ((l ++ (⟨z.1.f, z.1.tb, xd, xc⟩ : Ix) :: r).map (·.f)).Nodup := by rw [fk_f hfk]; exact hT1.nf
    have hxd := Half.one (S := fun _ _ => True) (S' := fun _ _ => True) (fs := []) hT1 hZ hv hzZ hzn
    have htk : TK xd xc (fun k => ∃ d ∈ ds1, k = keyD z.1.f d) := by
      have h9 := hhalf ⟨z.1.f, z.1.tb, xd, xc⟩ (by simp)
      simp only at h9
      rw [if_neg hxd] at h9; exact h9
    have hlx := htk.len
    refine Cx.skip ?_
    refine Xx.tn (k10 _ _ _ _ ?_)
    refine Cx.block ?_
    refine Cx.seq (fun K12 k12 => ?_)
    refine Cx.region ?_
    refine Lx.y (entGF hs hzZ rfl) rfl ?_
    refine Lx.y (ext rfl rfl) rfl ?_
    refine Lx.y (ext rfl rfl) rfl ?_
    refine Lx.y (asg rfl) rfl ?_
    refine Lx.y (asg rfl) rfl ?_
    refine Lx.nil ?_
    refine Xx.tn (k12 _ _ _ _ ?_)
    refine Cx.drawn (by kernel_rfl) ?_
    refine Dx.p (i := 0) rfl (by kernel_rfl) (mv rfl) rfl ?_
    refine Dx.p (i := 1) rfl (by kernel_rfl) (fa' fo36_2 rfl) rfl ?_
    refine Dx.r (i := 2) rfl (by kernel_rfl) (ldA Tryz.underlying25 rfl sz25 rfl (Cells.own (n := 6) PickB.eq (show ((u64 n :: u64 ver :: vcs vv Ap2 cp2 An2 cn2).drop 2).take 6 = vcs vv Ap2 cp2 An2 cn2 from rfl)) rfl) rfl ?_
    refine Dx.p (i := 3) rfl (by kernel_rfl) (mv rfl) rfl ?_
    refine Dx.p (i := 5) rfl (by kernel_rfl) (fa' fo36_0 rfl) rfl ?_
    refine Dx.r (i := 6) rfl (by kernel_rfl) (ld Tryz.underlying34 rfl rfl rfl) rfl ?_
    refine Dx.one (i := 4) (by kernel_rfl) ?_
    refine Dstep.o (i := 4) rfl (Ox.cb rfl rfl rfl (RgA.Get_ct 2 vv z.1.f 1 _ _ hval2 hchk)) rfl (fun v B' H' hΦ hB => ?_)
    obtain ⟨rfl, hΦ⟩ := hΦ
    obtain ⟨hBB, cs9, rfl, hg9⟩ := hΦ
    have hBB2 := hBB.symm
    subst hBB2
    clear hB
    refine ⟨JOk.yes (JOk.edge (JOk.top) (by kernel_rfl)) (ld Tryz.underlying34 rfl rfl rfl), ?_⟩
    refine Dx.one (i := 7) (by kernel_rfl) ?_
    refine Dstep.o (i := 7) rfl (Ox.cb rfl rfl rfl (Pair_ct 3 (getV vv z.1.f) n _ _ hg9 (hM.mono hB5) (by have h9 : (bytesF 3 (getV vv z.1.f)).length ≤ (bytesF 4 vv).length + 1 := getV_bytes (d := 2) z.1.f hchk; omega))) rfl (fun v B' H' hΦ hB => ?_)
    obtain ⟨rfl, rfl, hBB⟩ := hΦ; have hBB2 := hBB.symm; subst hBB2; clear hB
    refine ⟨JOk.edge (JOk.yes (JOk.top) (ldA Tryz.underlying25 rfl sz25 rfl (Cells.own (n := 6) PickB.eq (show ((u64 n :: u64 ver :: vcs vv Ap2 cp2 An2 cn2).drop 2).take 6 = vcs vv Ap2 cp2 An2 cn2 from rfl)) rfl)) (by kernel_rfl), ?_⟩
    refine Dx.one (i := 8) (by kernel_rfl) ?_
    refine Dstep.o (i := 8) rfl (Ox.call rfl rfl rfl (PutT_ct xd xc z.1.tb (keyF 3 (getV vv z.1.f) ++ numL n) _ htk (by omega)) (Pick.eq)) rfl (fun v B' H' hΦ hB => ?_)
    obtain ⟨_, rfl, hΦ⟩ := hΦ
    obtain ⟨hBB, d3, c3, t3, rfl, rfl, ht3⟩ := hΦ
    have hBB2 := hBB.symm
    subst hBB2
    clear hB
    have hkd : keyF 3 (getV vv z.1.f) ++ numL n = keyD z.1.f dn := by rw [hdn]; rfl
    rw [hkd] at ht3
    have hhalf2 := hhalf.step hnf ht3
    have hfk2 : (l ++ (⟨z.1.f, z.1.tb, d3, c3⟩ : Ix) :: r).map fk = T1.xs.map fk := by rw [← hfk]; simp [fk]
    refine ⟨JOk.yes (JOk.yes (JOk.top) (ldA Tryz.underlying25 rfl sz25 rfl (Cells.own (n := 6) PickB.eq (show ((u64 n :: u64 ver :: vcs vv Ap2 cp2 An2 cn2).drop 2).take 6 = vcs vv Ap2 cp2 An2 cn2 from rfl)) rfl)) (ld Tryz.underlying34 rfl rfl rfl), ?_⟩
    refine Dx.done (by kernel_rfl) ?_
    refine Xx.bn ?_
    exact Xx.againK ⟨dz ++ [z], l ++ (⟨z.1.f, z.1.tb, d3, c3⟩ : Ix) :: r, ⟨hv2, hfk2, by rw [List.map_append]; exact hhalf2⟩, rfl, rfl, rfl, (by rw [ixs_mid]; ac_rfl)⟩ (by rw [List.length_append, List.length_singleton]; omega) (Sub.cons (s := 0) rfl (Sub.cons (s := 1) rfl (Sub.cons (s := 3) rfl (Sub.cons (s := 6) rfl (Sub.cons (s := 7) rfl (Sub.cons (s := 8) rfl (Sub.cons (s := 9) rfl (Sub.cons (s := 10) rfl (Sub.cons (s := 12) rfl (Sub.cons (s := 13) rfl (Sub.cons (s := 14) rfl (Sub.cons (s := 15) rfl (Sub.cons (s := 16) rfl (Sub.cons (s := 17) rfl (Sub.cons (s := 18) rfl (Sub.cons (s := 19) rfl (Sub.cons (s := 20) rfl (Sub.cons (s := 21) rfl (Sub.cons (s := 22) rfl (Sub.cons (s := 23) rfl (Sub.cons (s := 24) rfl (Sub.cons (s := 25) rfl (Sub.cons (s := 26) rfl (Sub.cons (s := 27) rfl (Sub.cons (s := 28) rfl (Sub.cons (s := 29) rfl (Sub.cons (s := 31) rfl (Sub.cons (s := 32) rfl (Sub.cons (s := 33) rfl (Sub.cons (s := 34) rfl (Sub.cons (s := 35) rfl (Sub.nil _))))))))))))))))))))))))))))))))
  · skip
    obtain rfl : o = none := by
      cases o with
      | none => rfl
      | some z => exact absurd h11 (by simp)
    obtain ⟨rfl, hall⟩ := ha
    have hp := hv.all hs hall
    rw [hZ] at hp
    refine Cx.exit ?_
    refine Xx.te ?_
    refine Xx.te ?_
    refine Xx.bh ?_
    refine Xx.dropB it (Xx.closeGF (κ := List UInt8) T1.xb hs hZ (Xx.dropB b3 ?_))
    have hfin := half_fin hfk hhalf hp
    have hmem : ∀ (g : Dc → List UInt8) (k : List UInt8), (k = g dn ∨ ∃ x ∈ ds1, k = g x) ↔ ∃ x ∈ ds1 ++ [dn], k = g x := fun g k => by
      constructor
      · rintro (h | ⟨x, hx, h⟩)
        · exact ⟨dn, by simp, h⟩
        · exact ⟨x, by simp [hx], h⟩
      · rintro ⟨x, hx, h⟩
        rcases List.mem_append.1 hx with hx | hx
        · exact .inr ⟨x, hx, h⟩
        · rw [List.mem_singleton.1 hx] at h; exact .inl h
    have hdnok : DOk B5 dn := by rw [hdn]; exact ⟨hval2, hchk, hbyt⟩
    exact Xx.end0 rfl ⟨rfl, ⟨T1.b, T1.db, T1.xb, T1.ob, od2, oc2, ds1 ++ [dn], cur⟩, rfl, ⟨fun d hd => by rcases List.mem_append.1 hd with h9 | h9; exact hT5.docs d (by rw [hds9]; exact h9); rw [List.mem_singleton.1 h9]; exact hdnok, by rw [List.map_append, List.nodup_append]; exact ⟨by rw [← hds9]; exact hT1.nd, by simp, fun a ha b hb e => by obtain ⟨y, hy, rfl⟩ := List.mem_map.1 ha; rw [List.map_singleton, List.mem_singleton] at hb; exact hnew y hy (e.trans hb)⟩, hord2.congr (fun k => by rw [show numL n = numL dn.n by rw [hdn]]; exact hmem (fun d => numL d.n) k), by rw [fk_f hfk]; exact hT1.nf, fun y hy => (hfin y hy).congr (hmem (keyD y.f))⟩, hb1, by rw [List.map_append, hds1]; rw [hdn]; rfl, by rw [fk_f hfk]; exact hxf1⟩ (hB5) (by unfold tab; rw [← fk_ikv hfk]; ac_rfl)

set_option maxHeartbeats 2000000 in
theorem StructP_ct (p : V) (Aq : Option Addr) (cq : Nat) (Nq : Option Addr) (dq : Nat) (nb pb : Nat) (e1 e2 : TypeId) (f1 f2 : Nat × Nat) (B : Frag) (hBn : B nb = some (.cells #[str [97]] e1 f1)) (hBp : B pb = some (.cells [i64 p.kind, .bool p.b, i64 p.n, str p.s, .slice Aq p.parts.length cq, .slice Nq p.names.length dq].toArray e2 f2)) : Ct Tryz.prog 7 [.slice (some ⟨nb, 0, none⟩) 1 1, .slice (some ⟨pb, 0, none⟩) 1 1] B 1 (fun v B' H' => ∃ Ap cp An cn, v = .agg [i64 6, .bool false, i64 0, str [], .slice Ap 1 cp, .slice An 1 cn].toArray ∧ RoS B' 1 An 1 [str [97]] ∧ 1 ≤ cp ∧ 1 ≤ cn ∧ H' = sbuf 25 6 Ap 1 cp [i64 p.kind, .bool p.b, i64 p.n, str p.s, .slice Aq p.parts.length cq, .slice Nq p.names.length dq]) := by
  refine Ct.of_body Tryz.func7 rfl (nt := 75) rfl (by kernel_rfl) rfl ?_
  intro N0 w0 R
  rw [one_star]
  refine Cx.seq (fun K1 k1 => ?_)
  refine Cx.region ?_
  refine Lx.new (allocO ti25) rfl (fun b4 => ?_)
  refine Lx.nil ?_
  refine Xx.tn (k1 _ _ _ _ ?_)
  refine Cx.seq (fun K2 k2 => ?_)
  refine Cx.region ?_
  refine Lx.y (asg rfl) rfl ?_
  refine Lx.nil ?_
  refine Xx.tn (k2 _ _ _ _ ?_)
  refine Cx.seq (fun K3 k3 => ?_)
  refine Cx.seq (fun K4 k4 => ?_)
  refine Cx.region ?_
  refine Lx.y (mv rfl) rfl ?_
  refine Lx.y (Yx.val (lenV (ty' := 0) Tryz.underlying23 rfl) (show _ = i64 1 from rfl)) rfl ?_
  refine Lx.y (mv rfl) rfl ?_
  refine Lx.y (Yx.val (lenV (ty' := 0) Tryz.underlying22 rfl) (show _ = i64 1 from rfl)) rfl ?_
  refine Lx.y (Yx.val (minI rfl rfl) (show _ = i64 1 from rfl)) rfl ?_
  refine Lx.y (mv rfl) rfl ?_
  refine Lx.nil ?_
  refine Xx.tn (k4 _ _ _ _ ?_)
  refine Cx.block ?_
  refine Cx.unroll (2) ?_
  refine Xx.rn ?_
  refine Cx.seq (fun K5 k5 => ?_)
  refine Cx.region ?_
  refine Lx.y (Yx.tt (lss rfl rfl) (by decide)) rfl ?_
  refine Lx.nil ?_
  refine Xx.tn (k5 _ _ _ _ ?_)
  refine Cx.seq (fun K6 k6 => ?_)
  refine Cx.condT rfl ?_
  refine Cx.skip ?_
  refine Xx.tn (k6 _ _ _ _ ?_)
  refine Cx.seq (fun K7 k7 => ?_)
  refine Cx.block ?_
  refine Cx.seq (fun K8 k8 => ?_)
  refine Cx.region ?_
  refine Lx.y (mv rfl) rfl ?_
  refine Lx.y (asg rfl) rfl ?_
  refine Lx.nil ?_
  refine Xx.tn (k8 _ _ _ _ ?_)
  refine Cx.seq (fun K9 k9 => ?_)
  refine Cx.region ?_
  refine Lx.y (mv rfl) rfl ?_
  refine Lx.y (mv rfl) rfl ?_
  refine Lx.y (mv rfl) rfl ?_
  refine Lx.y (ia Tryz.underlying23 sz9 rfl rfl (show Int.toNat _ = 0 from rfl) (by decide) (by decide)) rfl ?_
  refine Lx.y (ldB Tryz.underlying9 rfl rfl hBn rfl) rfl ?_
  refine Lx.cp rfl rfl rfl (BSF0_ct [97] _) rfl ?_
  refine Lx.y (mv rfl) rfl ?_
  refine Lx.y (ext rfl rfl) rfl ?_
  refine Lx.y (ext rfl rfl) rfl ?_
  refine Lx.y (asg rfl) rfl ?_
  refine Lx.y (asg rfl) rfl ?_
  refine Lx.nil ?_
  refine Xx.tn (k9 _ _ _ _ ?_)
  refine Cx.seq (fun K10 k10 => ?_)
  refine Cx.seq (fun K11 k11 => ?_)
  refine Cx.region ?_
  refine Lx.y (mv rfl) rfl ?_
  refine Lx.nil ?_
  refine Xx.tn (k11 _ _ _ _ ?_)
  refine Cx.condF rfl ?_
  refine Cx.skip ?_
  refine Xx.tn (k10 _ _ _ _ ?_)
  refine Cx.drawn (by kernel_rfl) ?_
  refine Dx.p (i := 0) rfl (by kernel_rfl) (mv rfl) rfl ?_
  refine Dx.p (i := 1) rfl (by kernel_rfl) (mv rfl) rfl ?_
  refine Dx.p (i := 2) rfl (by kernel_rfl) (mv rfl) rfl ?_
  refine Dx.p (i := 3) rfl (by kernel_rfl) (mv rfl) rfl ?_
  refine Dx.p (i := 4) rfl (by kernel_rfl) (ia Tryz.underlying23 sz9 rfl rfl (show Int.toNat _ = 0 from rfl) (by decide) (by decide)) rfl ?_
  refine Dx.r (i := 5) rfl (by kernel_rfl) (ldB Tryz.underlying9 rfl rfl hBn rfl) rfl ?_
  refine Dx.p (i := 6) rfl (by kernel_rfl) (mv rfl) rfl ?_
  refine Dx.p (i := 7) rfl (by kernel_rfl) (mv rfl) rfl ?_
  refine Dx.p (i := 8) rfl (by kernel_rfl) (ia Tryz.underlying22 sz25 rfl rfl (show Int.toNat _ = 0 from rfl) (by decide) (by decide)) rfl ?_
  refine Dx.r (i := 9) rfl (by kernel_rfl) (ldA Tryz.underlying25 rfl sz25 rfl (Cells.base (n := 6) hBp rfl) rfl) rfl ?_
  refine Dx.p (i := 10) rfl (by kernel_rfl) (bld ti76 pl76 rfl rfl) rfl ?_
  refine Dx.one (i := 11) (by kernel_rfl) ?_
  refine Dstep.o (i := 11) rfl (bslA Tryz.underlying72 ti76 rfl rfl (by decide)) rfl (fun v B' H' hΦ hB => ?_)
  obtain ⟨b8, rfl, rfl, rfl⟩ := hΦ; clear hB
  refine ⟨JOk.yes (JOk.yes (JOk.top) (ldB Tryz.underlying9 rfl rfl hBn rfl)) (ldA Tryz.underlying25 rfl sz25 rfl (Cells.base (n := 6) hBp rfl) rfl), ?_⟩
  refine Dx.one (i := 12) (by kernel_rfl) ?_
  refine Dstep.o (i := 12) rfl (Ox.call rfl rfl rfl (InsF_ct none 0 0 0 [] b8 76 (str [97] :: [i64 p.kind, .bool p.b, i64 p.n, str p.s, .slice Aq p.parts.length cq, .slice Nq p.names.length dq]) _ (by decide) rfl rfl rfl rfl (by decide)) (by rw [sbuf_nil, one_star])) rfl (fun v B' H' hΦ hB => ?_)
  obtain ⟨_, rfl, hΦ⟩ := hΦ
  obtain ⟨A9, c9, rfl, hBB, rfl, ⟨bA, rfl⟩, hc9⟩ := hΦ
  subst hBB
  rename Frag => B
  clear hB
  refine ⟨JOk.yes (JOk.yes (JOk.top) (ldB Tryz.underlying9 rfl rfl hBn rfl)) (ldA Tryz.underlying25 rfl sz25 rfl (Cells.base (n := 6) hBp rfl) rfl), ?_⟩
  refine Dx.p (i := 13) rfl (by kernel_rfl) (asg rfl) rfl ?_
  refine Dx.done (by kernel_rfl) ?_
  refine Xx.bn ?_
  refine Xx.tn (k7 _ _ _ _ ?_)
  refine Cx.region ?_
  refine Lx.y (Yx.val (add rfl rfl (show IntKind.i64.wrap _ = _ from rfl)) (show _ = i64 1 from rfl)) rfl ?_
  refine Lx.y (mv rfl) rfl ?_
  refine Lx.nil ?_
  refine Xx.tn ?_
  refine Xx.rn ?_
  refine Cx.seq (fun K12 k12 => ?_)
  refine Cx.region ?_
  refine Lx.y (Yx.ff (lss rfl rfl) (by decide)) rfl ?_
  refine Lx.nil ?_
  refine Xx.tn (k12 _ _ _ _ ?_)
  refine Cx.seq (fun K13 k13 => ?_)
  refine Cx.condF rfl ?_
  refine Cx.exit ?_
  refine Xx.te ?_
  refine Xx.te ?_
  refine Xx.bh ?_
  refine Xx.tn (k3 _ _ _ _ ?_)
  refine Cx.seq (fun K14 k14 => ?_)
  refine Cx.region ?_
  refine Lx.y (bld ti25 pl25 rfl rfl) rfl ?_
  refine Lx.new (allocO ti25) rfl (fun b10 => ?_)
  refine Lx.st (stA (d := .bool) sz25 rfl rfl rfl rfl (by show 0 + 6 ≤ 6; omega) rfl) ?_
  refine Lx.nil ?_
  refine Xx.tn (k14 _ _ _ _ ?_)
  refine Cx.seq (fun K15 k15 => ?_)
  refine Cx.seq (fun K16 k16 => ?_)
  refine Xx.openT (some ⟨bA, 0, none⟩) (by decide) (fun bF sp hA hxl hnc hcl => ?_)
  have hbF : bA = bF := by injection hA with h; injection h
  subst hbF
  refine Xx.perm (H' := sbuf 9 1 none 0 0 [] * (sbuf 25 6 none 0 0 [] * _)) ?_ (by rw [sbuf_nil, sbuf_nil, one_star, one_star])
  refine Cx.region ?_
  refine Lx.y (mv rfl) rfl ?_
  refine Lx.y (Yx.val (lenV (ty' := 0) Tryz.underlying72 rfl) (show _ = i64 1 from rfl)) rfl ?_
  refine Lx.y (mv rfl) rfl ?_
  refine Lx.nil ?_
  refine Xx.tn (k16 _ _ _ _ ?_)
  refine Cx.block ?_
  refine Cx.unroll (2) ?_
  refine Xx.rn ?_
  refine Cx.seq (fun K17 k17 => ?_)
  refine Cx.region ?_
  refine Lx.y (Yx.tt (lss rfl rfl) (by decide)) rfl ?_
  refine Lx.nil ?_
  refine Xx.tn (k17 _ _ _ _ ?_)
  refine Cx.seq (fun K18 k18 => ?_)
  refine Cx.condT rfl ?_
  refine Cx.skip ?_
  refine Xx.tn (k18 _ _ _ _ ?_)
  refine Cx.cutK (ds' := []) (Sub.cons (s := 0) rfl (Sub.cons (s := 1) rfl (Sub.cons (s := 4) rfl (Sub.cons (s := 5) rfl (Sub.cons (s := 6) rfl (Sub.cons (s := 7) rfl (Sub.cons (s := 8) rfl (Sub.cons (s := 9) rfl (Sub.cons (s := 12) rfl (Sub.cons (s := 13) rfl (Sub.cons (s := 14) rfl (Sub.cons (s := 15) rfl (Sub.cons (s := 16) rfl (Sub.cons (s := 17) rfl (Sub.cons (s := 18) rfl (Sub.cons (s := 19) rfl (Sub.cons (s := 20) rfl (Sub.cons (s := 21) rfl (Sub.cons (s := 22) rfl (Sub.cons (s := 23) rfl (Sub.cons (s := 24) rfl (Sub.cons (s := 25) rfl (Sub.cons (s := 26) rfl (Sub.cons (s := 27) rfl (Sub.cons (s := 28) rfl (Sub.cons (s := 29) rfl (Sub.cons (s := 38) rfl (Sub.cons (s := 39) rfl (Sub.cons (s := 40) rfl (Sub.cons (s := 41) rfl (Sub.cons (s := 42) rfl (Sub.cons (s := 43) rfl (Sub.cons (s := 44) rfl (Sub.cons (s := 45) rfl (Sub.cons (s := 46) rfl (Sub.cons (s := 47) rfl (Sub.cons (s := 48) rfl (Sub.cons (s := 49) rfl (Sub.cons (s := 50) rfl (Sub.cons (s := 51) rfl (Sub.cons (s := 52) rfl (Sub.cons (s := 53) rfl (Sub.cons (s := 54) rfl (Sub.cons (s := 55) rfl (Sub.cons (s := 56) rfl (Sub.nil _)))))))))))))))))))))))))))))))))))))))))))))) (fun ρ' B' H' => ∃ An cn Ap cp, ρ' = [] ∧ B = B' ∧ 1 ≤ cn ∧ 1 ≤ cp ∧ sbuf 9 1 An 1 cn [str [97]] * (sbuf 25 6 Ap 1 cp [i64 p.kind, .bool p.b, i64 p.n, str p.s, .slice Aq p.parts.length cq, .slice Nq p.names.length dq] * (row b10 25 [i64 6, .bool false, i64 0, str [], .slice Ap 1 cp, .slice An 1 cn] * (row bA 76 ((str [97] :: [i64 p.kind, .bool p.b, i64 p.n, str p.s, .slice Aq p.parts.length cq, .slice Nq p.names.length dq]) ++ sp) * (row b4 25 [i64 0, .bool false, i64 0, str [], .slice none 0 0, .slice none 0 0] * R)))) = H') ?_ ?_
  · skip
    refine Cx.block ?_
    refine Cx.seq (fun K19 k19 => ?_)
    refine Cx.region ?_
    refine Lx.y (ia Tryz.underlying72 sz76 rfl rfl (show Int.toNat _ = 0 from rfl) (by decide) (by decide)) rfl ?_
    refine Lx.y (ldA Tryz.underlying76 rfl sz76 rfl (Cells.own (n := 7) PickB.eq rfl) rfl) rfl ?_
    refine Lx.new (allocO ti76) rfl (fun b13 => ?_)
    refine Lx.st (stA (d := .bool) sz76 rfl rfl rfl rfl (by show 0 + 7 ≤ 7; omega) rfl) ?_
    refine Lx.nil ?_
    refine Xx.tn (k19 _ _ _ _ ?_)
    refine Cx.drawn (by kernel_rfl) ?_
    refine Dx.p (i := 0) rfl (by kernel_rfl) (fa' fo25_5 rfl) rfl ?_
    refine Dx.r (i := 1) rfl (by kernel_rfl) (ld Tryz.underlying23 rfl rfl rfl) rfl ?_
    refine Dx.p (i := 2) rfl (by kernel_rfl) (fa' fo76_0 rfl) rfl ?_
    refine Dx.r (i := 3) rfl (by kernel_rfl) (ld Tryz.underlying9 rfl rfl rfl) rfl ?_
    refine Dx.p (i := 6) rfl (by kernel_rfl) (fa' fo25_4 rfl) rfl ?_
    refine Dx.r (i := 7) rfl (by kernel_rfl) (ld Tryz.underlying22 rfl rfl rfl) rfl ?_
    refine Dx.p (i := 8) rfl (by kernel_rfl) (fa' fo76_1 rfl) rfl ?_
    refine Dx.r (i := 9) rfl (by kernel_rfl) (ldA Tryz.underlying25 rfl sz25 rfl (Cells.own (n := 6) PickB.eq rfl) rfl) rfl ?_
    refine Dx.two (i := 4) (j := 10) (by kernel_rfl) ?_ ?_
    · skip
      refine Dstep.o (i := 4) rfl (bsl1 Tryz.underlying23 ti9 rfl rfl rfl (by decide)) rfl (fun v B' H' hΦ hB => ?_)
      obtain ⟨b144, rfl, rfl, rfl⟩ := hΦ; clear hB
      refine ⟨JOk.yes (JOk.yes (JOk.edge (JOk.yes (JOk.top) (ld Tryz.underlying23 rfl rfl rfl)) (by kernel_rfl)) (ld Tryz.underlying22 rfl rfl rfl)) (ldA Tryz.underlying25 rfl sz25 rfl (Cells.own (n := 6) PickB.eq rfl) rfl), ?_⟩
      refine Dx.two (i := 5) (j := 10) (by kernel_rfl) ?_ ?_
      · skip
        refine Dstep.o (i := 5) rfl (appN (et := 9) 1 [str [97]] [str [97]] Tryz.underlying23 Tryz.underlying23 ti9 rfl rfl rfl rfl rfl (by decide) (by decide) rfl rfl) rfl (fun v B' H' hΦ hB => ?_)
        obtain ⟨An1, An19, rfl, _, _, hcA, rfl, rfl⟩ := hΦ
        refine ⟨JOk.yes (JOk.yes (JOk.yes (JOk.edge (JOk.top) (by kernel_rfl)) (ld Tryz.underlying9 rfl rfl rfl)) (ld Tryz.underlying22 rfl rfl rfl)) (ldA Tryz.underlying25 rfl sz25 rfl (Cells.own (n := 6) PickB.eq rfl) rfl), ?_⟩
        refine Dx.p (i := 12) rfl (by kernel_rfl) (fa' fo25_5 rfl) rfl ?_
        refine Dx.one (i := 10) (by kernel_rfl) ?_
        refine Dstep.o (i := 10) rfl (bslA Tryz.underlying22 ti25 rfl rfl (by decide)) rfl (fun v B' H' hΦ hB => ?_)
        obtain ⟨b1410, rfl, rfl, rfl⟩ := hΦ; clear hB
        refine ⟨JOk.edge (JOk.yes (JOk.yes (JOk.yes (JOk.top) (ld Tryz.underlying23 rfl rfl rfl)) (ld Tryz.underlying9 rfl rfl rfl)) (ld Tryz.underlying22 rfl rfl rfl)) (by kernel_rfl), ?_⟩
        refine Dx.one (i := 11) (by kernel_rfl) ?_
        refine Dstep.o (i := 11) rfl (appN (et := 25) 1 [i64 p.kind, .bool p.b, i64 p.n, str p.s, .slice Aq p.parts.length cq, .slice Nq p.names.length dq] [i64 p.kind, .bool p.b, i64 p.n, str p.s, .slice Aq p.parts.length cq, .slice Nq p.names.length dq] Tryz.underlying22 Tryz.underlying22 ti25 rfl rfl rfl rfl rfl (by decide) (by decide) rfl rfl) rfl (fun v B' H' hΦ hB => ?_)
        obtain ⟨Ap1, Ap19, rfl, _, _, hcB, rfl, rfl⟩ := hΦ
        refine ⟨JOk.yes (JOk.edge (JOk.yes (JOk.yes (JOk.top) (ld Tryz.underlying23 rfl rfl rfl)) (ld Tryz.underlying9 rfl rfl rfl)) (by kernel_rfl)) (ldA Tryz.underlying25 rfl sz25 rfl (Cells.own (n := 6) PickB.eq rfl) rfl), ?_⟩
        refine Dx.one (i := 13) (by kernel_rfl) ?_
        refine Dstep.o0 (i := 13) rfl (stO Tryz.underlying23 sz23 rfl rfl rfl (by simp) rfl) (fun v B' H' hΦ hB => ?_)
        obtain ⟨rfl, rfl⟩ := hΦ; clear hB v
        refine ⟨JOk.yes (JOk.edge (JOk.edge (JOk.edge (JOk.top) (by kernel_rfl)) (by kernel_rfl)) (by kernel_rfl)) (ldA Tryz.underlying25 rfl sz25 rfl (Cells.own (n := 6) PickB.eq rfl) rfl), ?_⟩
        refine Dx.p (i := 14) rfl (by kernel_rfl) (fa' fo25_4 rfl) rfl ?_
        refine Dx.one (i := 15) (by kernel_rfl) ?_
        refine Dstep.o0 (i := 15) rfl (stO Tryz.underlying22 sz22 rfl rfl rfl (by simp) rfl) (fun v B' H' hΦ hB => ?_)
        obtain ⟨rfl, rfl⟩ := hΦ; clear hB v
        refine ⟨JOk.edge (JOk.edge (JOk.edge (JOk.edge (JOk.top) (by kernel_rfl)) (by kernel_rfl)) (by kernel_rfl)) (by kernel_rfl), ?_⟩
        refine Dx.done (by kernel_rfl) ?_
        refine Xx.bn ?_
        refine Xx.dropB b144 ?_
        refine Xx.dropB b1410 ?_
        refine Xx.dropB b13 ?_
        exact Xx.mkK (⟨_, _, _, _, rfl, rfl, hcA, hcB, by ac_rfl⟩) (Sub.cons (s := 0) rfl (Sub.cons (s := 1) rfl (Sub.cons (s := 4) rfl (Sub.cons (s := 5) rfl (Sub.cons (s := 6) rfl (Sub.cons (s := 7) rfl (Sub.cons (s := 8) rfl (Sub.cons (s := 9) rfl (Sub.cons (s := 12) rfl (Sub.cons (s := 13) rfl (Sub.cons (s := 14) rfl (Sub.cons (s := 15) rfl (Sub.cons (s := 16) rfl (Sub.cons (s := 17) rfl (Sub.cons (s := 18) rfl (Sub.cons (s := 19) rfl (Sub.cons (s := 20) rfl (Sub.cons (s := 21) rfl (Sub.cons (s := 22) rfl (Sub.cons (s := 23) rfl (Sub.cons (s := 24) rfl (Sub.cons (s := 25) rfl (Sub.cons (s := 26) rfl (Sub.cons (s := 27) rfl (Sub.cons (s := 28) rfl (Sub.cons (s := 29) rfl (Sub.cons (s := 38) rfl (Sub.cons (s := 39) rfl (Sub.cons (s := 40) rfl (Sub.cons (s := 41) rfl (Sub.cons (s := 42) rfl (Sub.cons (s := 43) rfl (Sub.cons (s := 44) rfl (Sub.cons (s := 45) rfl (Sub.cons (s := 46) rfl (Sub.cons (s := 47) rfl (Sub.cons (s := 48) rfl (Sub.cons (s := 49) rfl (Sub.cons (s := 50) rfl (Sub.cons (s := 51) rfl (Sub.cons (s := 52) rfl (Sub.cons (s := 53) rfl (Sub.cons (s := 54) rfl (Sub.cons (s := 55) rfl (Sub.cons (s := 56) rfl (Sub.nil _))))))))))))))))))))))))))))))))))))))))))))))
      refine Dstep.o (i := 10) rfl (bslA Tryz.underlying22 ti25 rfl rfl (by decide)) rfl (fun v B' H' hΦ hB => ?_)
      obtain ⟨b1410, rfl, rfl, rfl⟩ := hΦ; clear hB
      refine ⟨JOk.edge (JOk.yes (JOk.yes (JOk.yes (JOk.top) (ld Tryz.underlying23 rfl rfl rfl)) (ld Tryz.underlying9 rfl rfl rfl)) (ld Tryz.underlying22 rfl rfl rfl)) (by kernel_rfl), ?_⟩
      refine Dx.one (i := 5) (by kernel_rfl) ?_
      refine Dstep.o (i := 5) rfl (appN (et := 9) 1 [str [97]] [str [97]] Tryz.underlying23 Tryz.underlying23 ti9 rfl rfl rfl rfl rfl (by decide) (by decide) rfl rfl) rfl (fun v B' H' hΦ hB => ?_)
      obtain ⟨An1, An19, rfl, _, _, hcA, rfl, rfl⟩ := hΦ
      refine ⟨JOk.yes (JOk.yes (JOk.yes (JOk.edge (JOk.top) (by kernel_rfl)) (ld Tryz.underlying9 rfl rfl rfl)) (ld Tryz.underlying22 rfl rfl rfl)) (ldA Tryz.underlying25 rfl sz25 rfl (Cells.own (n := 6) PickB.eq rfl) rfl), ?_⟩
      refine Dx.p (i := 12) rfl (by kernel_rfl) (fa' fo25_5 rfl) rfl ?_
      refine Dx.one (i := 11) (by kernel_rfl) ?_
      refine Dstep.o (i := 11) rfl (appN (et := 25) 1 [i64 p.kind, .bool p.b, i64 p.n, str p.s, .slice Aq p.parts.length cq, .slice Nq p.names.length dq] [i64 p.kind, .bool p.b, i64 p.n, str p.s, .slice Aq p.parts.length cq, .slice Nq p.names.length dq] Tryz.underlying22 Tryz.underlying22 ti25 rfl rfl rfl rfl rfl (by decide) (by decide) rfl rfl) rfl (fun v B' H' hΦ hB => ?_)
      obtain ⟨Ap1, Ap19, rfl, _, _, hcB, rfl, rfl⟩ := hΦ
      refine ⟨JOk.yes (JOk.edge (JOk.yes (JOk.yes (JOk.top) (ld Tryz.underlying23 rfl rfl rfl)) (ld Tryz.underlying9 rfl rfl rfl)) (by kernel_rfl)) (ldA Tryz.underlying25 rfl sz25 rfl (Cells.own (n := 6) PickB.eq rfl) rfl), ?_⟩
      refine Dx.one (i := 13) (by kernel_rfl) ?_
      refine Dstep.o0 (i := 13) rfl (stO Tryz.underlying23 sz23 rfl rfl rfl (by simp) rfl) (fun v B' H' hΦ hB => ?_)
      obtain ⟨rfl, rfl⟩ := hΦ; clear hB v
      refine ⟨JOk.yes (JOk.edge (JOk.edge (JOk.edge (JOk.top) (by kernel_rfl)) (by kernel_rfl)) (by kernel_rfl)) (ldA Tryz.underlying25 rfl sz25 rfl (Cells.own (n := 6) PickB.eq rfl) rfl), ?_⟩
      refine Dx.p (i := 14) rfl (by kernel_rfl) (fa' fo25_4 rfl) rfl ?_
      refine Dx.one (i := 15) (by kernel_rfl) ?_
      refine Dstep.o0 (i := 15) rfl (stO Tryz.underlying22 sz22 rfl rfl rfl (by simp) rfl) (fun v B' H' hΦ hB => ?_)
      obtain ⟨rfl, rfl⟩ := hΦ; clear hB v
      refine ⟨JOk.edge (JOk.edge (JOk.edge (JOk.edge (JOk.top) (by kernel_rfl)) (by kernel_rfl)) (by kernel_rfl)) (by kernel_rfl), ?_⟩
      refine Dx.done (by kernel_rfl) ?_
      refine Xx.bn ?_
      refine Xx.dropB b144 ?_
      refine Xx.dropB b1410 ?_
      refine Xx.dropB b13 ?_
      exact Xx.mkK (⟨_, _, _, _, rfl, rfl, hcA, hcB, by ac_rfl⟩) (Sub.cons (s := 0) rfl (Sub.cons (s := 1) rfl (Sub.cons (s := 4) rfl (Sub.cons (s := 5) rfl (Sub.cons (s := 6) rfl (Sub.cons (s := 7) rfl (Sub.cons (s := 8) rfl (Sub.cons (s := 9) rfl (Sub.cons (s := 12) rfl (Sub.cons (s := 13) rfl (Sub.cons (s := 14) rfl (Sub.cons (s := 15) rfl (Sub.cons (s := 16) rfl (Sub.cons (s := 17) rfl (Sub.cons (s := 18) rfl (Sub.cons (s := 19) rfl (Sub.cons (s := 20) rfl (Sub.cons (s := 21) rfl (Sub.cons (s := 22) rfl (Sub.cons (s := 23) rfl (Sub.cons (s := 24) rfl (Sub.cons (s := 25) rfl (Sub.cons (s := 26) rfl (Sub.cons (s := 27) rfl (Sub.cons (s := 28) rfl (Sub.cons (s := 29) rfl (Sub.cons (s := 38) rfl (Sub.cons (s := 39) rfl (Sub.cons (s := 40) rfl (Sub.cons (s := 41) rfl (Sub.cons (s := 42) rfl (Sub.cons (s := 43) rfl (Sub.cons (s := 44) rfl (Sub.cons (s := 45) rfl (Sub.cons (s := 46) rfl (Sub.cons (s := 47) rfl (Sub.cons (s := 48) rfl (Sub.cons (s := 49) rfl (Sub.cons (s := 50) rfl (Sub.cons (s := 51) rfl (Sub.cons (s := 52) rfl (Sub.cons (s := 53) rfl (Sub.cons (s := 54) rfl (Sub.cons (s := 55) rfl (Sub.cons (s := 56) rfl (Sub.nil _))))))))))))))))))))))))))))))))))))))))))))))
    refine Dstep.o (i := 10) rfl (bslA Tryz.underlying22 ti25 rfl rfl (by decide)) rfl (fun v B' H' hΦ hB => ?_)
    obtain ⟨b1410, rfl, rfl, rfl⟩ := hΦ; clear hB
    refine ⟨JOk.edge (JOk.yes (JOk.yes (JOk.yes (JOk.top) (ld Tryz.underlying23 rfl rfl rfl)) (ld Tryz.underlying9 rfl rfl rfl)) (ld Tryz.underlying22 rfl rfl rfl)) (by kernel_rfl), ?_⟩
    refine Dx.one (i := 4) (by kernel_rfl) ?_
    refine Dstep.o (i := 4) rfl (bsl1 Tryz.underlying23 ti9 rfl rfl rfl (by decide)) rfl (fun v B' H' hΦ hB => ?_)
    obtain ⟨b144, rfl, rfl, rfl⟩ := hΦ; clear hB
    refine ⟨JOk.yes (JOk.yes (JOk.edge (JOk.yes (JOk.top) (ld Tryz.underlying23 rfl rfl rfl)) (by kernel_rfl)) (ld Tryz.underlying22 rfl rfl rfl)) (ldA Tryz.underlying25 rfl sz25 rfl (Cells.own (n := 6) PickB.eq rfl) rfl), ?_⟩
    refine Dx.one (i := 5) (by kernel_rfl) ?_
    refine Dstep.o (i := 5) rfl (appN (et := 9) 1 [str [97]] [str [97]] Tryz.underlying23 Tryz.underlying23 ti9 rfl rfl rfl rfl rfl (by decide) (by decide) rfl rfl) rfl (fun v B' H' hΦ hB => ?_)
    obtain ⟨An1, An19, rfl, _, _, hcA, rfl, rfl⟩ := hΦ
    refine ⟨JOk.yes (JOk.yes (JOk.yes (JOk.edge (JOk.top) (by kernel_rfl)) (ld Tryz.underlying9 rfl rfl rfl)) (ld Tryz.underlying22 rfl rfl rfl)) (ldA Tryz.underlying25 rfl sz25 rfl (Cells.own (n := 6) PickB.eq rfl) rfl), ?_⟩
    refine Dx.p (i := 12) rfl (by kernel_rfl) (fa' fo25_5 rfl) rfl ?_
    refine Dx.one (i := 11) (by kernel_rfl) ?_
    refine Dstep.o (i := 11) rfl (appN (et := 25) 1 [i64 p.kind, .bool p.b, i64 p.n, str p.s, .slice Aq p.parts.length cq, .slice Nq p.names.length dq] [i64 p.kind, .bool p.b, i64 p.n, str p.s, .slice Aq p.parts.length cq, .slice Nq p.names.length dq] Tryz.underlying22 Tryz.underlying22 ti25 rfl rfl rfl rfl rfl (by decide) (by decide) rfl rfl) rfl (fun v B' H' hΦ hB => ?_)
    obtain ⟨Ap1, Ap19, rfl, _, _, hcB, rfl, rfl⟩ := hΦ
    refine ⟨JOk.yes (JOk.edge (JOk.yes (JOk.yes (JOk.top) (ld Tryz.underlying23 rfl rfl rfl)) (ld Tryz.underlying9 rfl rfl rfl)) (by kernel_rfl)) (ldA Tryz.underlying25 rfl sz25 rfl (Cells.own (n := 6) PickB.eq rfl) rfl), ?_⟩
    refine Dx.one (i := 13) (by kernel_rfl) ?_
    refine Dstep.o0 (i := 13) rfl (stO Tryz.underlying23 sz23 rfl rfl rfl (by simp) rfl) (fun v B' H' hΦ hB => ?_)
    obtain ⟨rfl, rfl⟩ := hΦ; clear hB v
    refine ⟨JOk.yes (JOk.edge (JOk.edge (JOk.edge (JOk.top) (by kernel_rfl)) (by kernel_rfl)) (by kernel_rfl)) (ldA Tryz.underlying25 rfl sz25 rfl (Cells.own (n := 6) PickB.eq rfl) rfl), ?_⟩
    refine Dx.p (i := 14) rfl (by kernel_rfl) (fa' fo25_4 rfl) rfl ?_
    refine Dx.one (i := 15) (by kernel_rfl) ?_
    refine Dstep.o0 (i := 15) rfl (stO Tryz.underlying22 sz22 rfl rfl rfl (by simp) rfl) (fun v B' H' hΦ hB => ?_)
    obtain ⟨rfl, rfl⟩ := hΦ; clear hB v
    refine ⟨JOk.edge (JOk.edge (JOk.edge (JOk.edge (JOk.top) (by kernel_rfl)) (by kernel_rfl)) (by kernel_rfl)) (by kernel_rfl), ?_⟩
    refine Dx.done (by kernel_rfl) ?_
    refine Xx.bn ?_
    refine Xx.dropB b144 ?_
    refine Xx.dropB b1410 ?_
    refine Xx.dropB b13 ?_
    exact Xx.mkK (⟨_, _, _, _, rfl, rfl, hcA, hcB, by ac_rfl⟩) (Sub.cons (s := 0) rfl (Sub.cons (s := 1) rfl (Sub.cons (s := 4) rfl (Sub.cons (s := 5) rfl (Sub.cons (s := 6) rfl (Sub.cons (s := 7) rfl (Sub.cons (s := 8) rfl (Sub.cons (s := 9) rfl (Sub.cons (s := 12) rfl (Sub.cons (s := 13) rfl (Sub.cons (s := 14) rfl (Sub.cons (s := 15) rfl (Sub.cons (s := 16) rfl (Sub.cons (s := 17) rfl (Sub.cons (s := 18) rfl (Sub.cons (s := 19) rfl (Sub.cons (s := 20) rfl (Sub.cons (s := 21) rfl (Sub.cons (s := 22) rfl (Sub.cons (s := 23) rfl (Sub.cons (s := 24) rfl (Sub.cons (s := 25) rfl (Sub.cons (s := 26) rfl (Sub.cons (s := 27) rfl (Sub.cons (s := 28) rfl (Sub.cons (s := 29) rfl (Sub.cons (s := 38) rfl (Sub.cons (s := 39) rfl (Sub.cons (s := 40) rfl (Sub.cons (s := 41) rfl (Sub.cons (s := 42) rfl (Sub.cons (s := 43) rfl (Sub.cons (s := 44) rfl (Sub.cons (s := 45) rfl (Sub.cons (s := 46) rfl (Sub.cons (s := 47) rfl (Sub.cons (s := 48) rfl (Sub.cons (s := 49) rfl (Sub.cons (s := 50) rfl (Sub.cons (s := 51) rfl (Sub.cons (s := 52) rfl (Sub.cons (s := 53) rfl (Sub.cons (s := 54) rfl (Sub.cons (s := 55) rfl (Sub.cons (s := 56) rfl (Sub.nil _))))))))))))))))))))))))))))))))))))))))))))))
  · rintro ρ' B' H' ⟨An, cn, Ap, cp, rfl, rfl, hcn, hcp, rfl⟩
    refine Cx.region ?_
    refine Lx.y (Yx.val (add rfl rfl (show IntKind.i64.wrap _ = _ from rfl)) (show _ = i64 1 from rfl)) rfl ?_
    refine Lx.y (mv rfl) rfl ?_
    refine Lx.nil ?_
    refine Xx.tn ?_
    refine Xx.rn ?_
    refine Cx.seq (fun K20 k20 => ?_)
    refine Cx.region ?_
    refine Lx.y (Yx.ff (lss rfl rfl) (by decide)) rfl ?_
    refine Lx.nil ?_
    refine Xx.tn (k20 _ _ _ _ ?_)
    refine Cx.seq (fun K21 k21 => ?_)
    refine Cx.condF rfl ?_
    refine Cx.exit ?_
    refine Xx.te ?_
    refine Xx.te ?_
    refine Xx.bh ?_
    refine Xx.tn (k15 _ _ _ _ ?_)
    refine Cx.seq (fun K22 k22 => ?_)
    refine Cx.region ?_
    refine Lx.y (ldA Tryz.underlying25 rfl sz25 rfl (Cells.own (n := 6) PickB.eq rfl) rfl) rfl ?_
    refine Lx.st (stA (d := .bool) sz25 rfl rfl rfl rfl (by show 0 + 6 ≤ 6; omega) rfl) ?_
    refine Lx.nil ?_
    refine Xx.tn (k22 _ _ _ _ ?_)
    refine Cx.ret ?_
    refine Xx.freezeT An fun B4 hB4 hRo4 hnc4 _ => ?_
    refine Xx.dropB b10 ?_
    refine Xx.dropB bA ?_
    exact Xx.retA rfl Tryz.underlying25 rfl sz25 rfl rfl ⟨_, _, _, _, rfl, hRo4, hcp, hcn, rfl⟩ hB4 rfl

set_option maxHeartbeats 4000000 in
theorem RefO_ct (d : Nat) (v : V) (Ap : Option Addr) (cp : Nat) (An : Option Addr) (cn : Nat) (ys : List Value) (B : Frag) (hc : ClR B d v cp An cn ys) (hf : Few (d + 1) v) : Ct Tryz.prog 13 [.agg (vcs v Ap cp An cn).toArray] B (sbuf 25 6 Ap v.parts.length cp ys) (fun r B' H' => (∃ cs', r = .agg cs'.toArray ∧ ValR B' (d + 1) v cs') ∧ H' = sbuf 25 6 Ap v.parts.length cp ys) := by
  have hsm := hf.1
  obtain ⟨⟨hsl, hn1, hn2, hcn, hcp⟩, hpl, hnl, hns, hnx, hyl, hyv⟩ := hc
  refine Ct.of_body Tryz.func13 rfl (nt := 35) rfl (by kernel_rfl) rfl ?_
  intro N0 w0 R
  refine Cx.seq (fun K1 k1 => ?_)
  refine Cx.region ?_
  refine Lx.new (boxA rfl) rfl (fun b1 => ?_)
  refine Lx.new (allocO ti39) rfl (fun b2 => ?_)
  refine Lx.nil ?_
  refine Xx.tn (k1 _ _ _ _ ?_)
  refine Cx.seq (fun K2 k2 => ?_)
  refine Cx.region ?_
  refine Lx.y (fa' fo25_0 rfl) rfl ?_
  refine Lx.y (ld Tryz.underlying3 rfl rfl rfl) rfl ?_
  refine Lx.y (fa' fo25_1 rfl) rfl ?_
  refine Lx.y (ld Tryz.underlying4 rfl rfl rfl) rfl ?_
  refine Lx.y (fa' fo25_2 rfl) rfl ?_
  refine Lx.y (ld Tryz.underlying2 rfl rfl rfl) rfl ?_
  refine Lx.y (fa' fo25_3 rfl) rfl ?_
  refine Lx.y (ld Tryz.underlying9 rfl rfl rfl) rfl ?_
  refine Lx.y (fa' fo25_5 rfl) rfl ?_
  refine Lx.y (ld Tryz.underlying23 rfl rfl rfl) rfl ?_
  refine Lx.y (bld ti39 pl39 rfl rfl) rfl ?_
  refine Lx.new (allocO ti39) rfl (fun b3 => ?_)
  refine Lx.st (stA (d := .bool) sz39 rfl rfl rfl rfl (by show 0 + 6 ≤ 6; omega) rfl) ?_
  refine Lx.nil ?_
  refine Xx.tn (k2 _ _ _ _ ?_)
  refine Cx.seq (fun K3 k3 => ?_)
  refine Cx.seq (fun K4 k4 => ?_)
  refine Cx.region ?_
  refine Lx.y (asg rfl) rfl ?_
  refine Xx.perm (H' := sbuf 39 6 none 0 0 [] * (_ * (_ * (_ * (sbuf 25 6 Ap v.parts.length cp ys * R))))) ?_ (by rw [sbuf_nil, one_star])
  refine Lx.nil ?_
  refine Xx.tn (k4 _ _ _ _ ?_)
  refine Cx.block ?_
  refine Cx.loopK (Sub.cons (s := 0) rfl (Sub.cons (s := 1) rfl (Sub.cons (s := 2) rfl (Sub.cons (s := 3) rfl (Sub.cons (s := 5) rfl (Sub.cons (s := 6) rfl (Sub.cons (s := 7) rfl (Sub.cons (s := 8) rfl (Sub.cons (s := 9) rfl (Sub.cons (s := 10) rfl (Sub.cons (s := 11) rfl (Sub.cons (s := 12) rfl (Sub.cons (s := 13) rfl (Sub.cons (s := 14) rfl (Sub.cons (s := 15) rfl (Sub.nil _)))))))))))))))) (fun m ρ' B' H' => ∃ (i : Nat) (A : Option Addr) (c : Nat) (xs : List Value) (B2 : Frag), (i ≤ v.parts.length ∧ B.le B2 ∧ PartsR B2 d (fun k => v.parts.getD k default) i xs) ∧ m = v.parts.length - i ∧ ρ' = [(4, i64 i)] ∧ B2 = B' ∧ sbuf 39 6 A i c xs * (row b3 39 [i64 v.kind, .bool v.b, i64 v.n, str v.s, .slice A i c, .slice An v.names.length cn] * (row b2 39 [i64 0, .bool false, i64 0, str [], .slice none 0 0, .slice none 0 0] * (row b1 25 (vcs v Ap cp An cn) * (sbuf 25 6 Ap v.parts.length cp ys * R)))) = H') ⟨0, none, 0, [], _, ⟨Nat.zero_le _, Frag.le_refl _, rfl, fun k hk => absurd hk (by omega)⟩, rfl, rfl, rfl, rfl⟩ (Sub.cons (s := 4) rfl (Sub.cons (s := 0) rfl (Sub.cons (s := 1) rfl (Sub.cons (s := 2) rfl (Sub.cons (s := 3) rfl (Sub.cons (s := 5) rfl (Sub.cons (s := 6) rfl (Sub.cons (s := 7) rfl (Sub.cons (s := 8) rfl (Sub.cons (s := 9) rfl (Sub.cons (s := 10) rfl (Sub.cons (s := 11) rfl (Sub.cons (s := 12) rfl (Sub.cons (s := 13) rfl (Sub.cons (s := 14) rfl (Sub.cons (s := 15) rfl (Sub.nil _))))))))))))))))) ?_
  rintro m ρ' B' H' ⟨i, A, c, xs, B2, ⟨hi, hB2, hpr⟩, rfl, rfl, rfl, rfl⟩
  refine Cx.seq (fun K5 k5 => ?_)
  refine Cx.seq (fun K6 k6 => ?_)
  refine Cx.region ?_
  refine Lx.y (mv rfl) rfl ?_
  refine Lx.y (fa' fo25_4 rfl) rfl ?_
  refine Lx.y (ld Tryz.underlying22 rfl rfl rfl) rfl ?_
  refine Lx.y (lenV (ty' := 0) Tryz.underlying22 rfl) rfl ?_
  refine Lx.y (lss rfl rfl) rfl ?_
  refine Lx.nil ?_
  refine Xx.tn (k6 _ _ _ _ ?_)
  refine Cx.condD rfl (fun h7 => ?_) (fun h7 => ?_)
  · skip
    have hlt := h7
    refine Cx.skip ?_
    refine Xx.tn (k5 _ _ _ _ ?_)
    refine Cx.seq (fun K8 k8 => ?_)
    refine Cx.block ?_
    have hil : i < v.parts.length := by omega
    have hv2 := hyv i hil
    obtain ⟨Ap2, cp2, An2, cn2, hsh⟩ := ValR.shape hv2
    rw [hsh] at hv2
    refine Xx.addrT Ap (by omega) (fun bq hAq _ _ => ?_)
    subst hAq
    refine Cx.drawn (by kernel_rfl) ?_
    refine Dx.p (i := 0) rfl (by kernel_rfl) (fa' fo39_4 rfl) rfl ?_
    refine Dx.r (i := 1) rfl (by kernel_rfl) (ld Tryz.underlying37 rfl rfl rfl) rfl ?_
    refine Dx.p (i := 2) rfl (by kernel_rfl) (fa' fo25_4 rfl) rfl ?_
    refine Dx.r (i := 3) rfl (by kernel_rfl) (ld Tryz.underlying22 rfl rfl rfl) rfl ?_
    refine Dx.p (i := 4) rfl (by kernel_rfl) (mv rfl) rfl ?_
    refine Dx.p (i := 5) rfl (by kernel_rfl) (ia Tryz.underlying22 sz25 rfl rfl (by first | exact Int.toNat_natCast _ | rfl) (by omega) (by omega)) rfl ?_
    refine Dx.r (i := 6) rfl (by kernel_rfl) (ldA Tryz.underlying25 rfl sz25 rfl (Cells.buf (b := bq) (m := 6) (show _ = vcs v.parts[i] Ap2 cp2 An2 cn2 by rw [Nat.zero_add]; exact hsh) (by rw [hyl]; omega)) rfl) rfl ?_
    refine Dx.one (i := 7) (by kernel_rfl) ?_
    refine Dstep.o (i := 7) rfl (Ox.cb rfl rfl rfl (Ref_ct d _ _ _ (ValR.mono hB2 hv2) (hf.parts hil))) rfl (fun v B' H' hΦ hB => ?_)
    obtain ⟨rfl, hΦ⟩ := hΦ
    have hBc := hB
    obtain ⟨cs2, rfl, hv3⟩ := hΦ
    obtain ⟨Ap3, cp3, An3, cn3, rfl⟩ := ValR.shape hv3
    obtain ⟨Bc, hce⟩ : ∃ Bc, Bc = B' := ⟨_, rfl⟩
    subst hce
    refine ⟨JOk.edge (JOk.yes (JOk.yes (JOk.top) (ld Tryz.underlying37 rfl rfl rfl)) (ld Tryz.underlying22 rfl rfl rfl)) (by kernel_rfl), ?_⟩
    refine Dx.one (i := 8) (by kernel_rfl) ?_
    refine Dstep.o (i := 8) rfl (bslA Tryz.underlying37 ti39 rfl rfl (by decide)) rfl (fun v B' H' hΦ hB => ?_)
    obtain ⟨b12, rfl, hBB, rfl⟩ := hΦ; have hBB2 := hBB.symm; subst hBB2; clear hB
    refine ⟨JOk.yes (JOk.yes (JOk.yes (JOk.top) (ld Tryz.underlying37 rfl rfl rfl)) (ld Tryz.underlying22 rfl rfl rfl)) (ldA Tryz.underlying25 rfl sz25 rfl (Cells.buf (b := bq) (m := 6) (show _ = vcs v.parts[i] Ap2 cp2 An2 cn2 by rw [Nat.zero_add]; exact hsh) (by rw [hyl]; omega)) rfl), ?_⟩
    refine Dx.one (i := 9) (by kernel_rfl) ?_
    refine Dstep.o (i := 9) rfl (appR Tryz.underlying37 Tryz.underlying37 ti39 rfl rfl rfl rfl rfl (by omega) (by omega)) rfl (fun v B' H' hΦ hB => ?_)
    obtain ⟨A2, c2, rfl, hA2, hl2, hc2, hBB, rfl⟩ := hΦ
    have hBB2 := hBB.symm
    subst hBB2
    clear hB
    refine ⟨JOk.yes (JOk.yes (JOk.edge (JOk.top) (by kernel_rfl)) (ld Tryz.underlying22 rfl rfl rfl)) (ldA Tryz.underlying25 rfl sz25 rfl (Cells.buf (b := bq) (m := 6) (show _ = vcs v.parts[i] Ap2 cp2 An2 cn2 by rw [Nat.zero_add]; exact hsh) (by rw [hyl]; omega)) rfl), ?_⟩
    refine Dx.p (i := 10) rfl (by kernel_rfl) (fa' fo39_4 rfl) rfl ?_
    refine Dx.one (i := 11) (by kernel_rfl) ?_
    refine Dstep.o0 (i := 11) rfl (stO Tryz.underlying37 sz37 rfl rfl rfl (by simp) rfl) (fun v B' H' hΦ hB => ?_)
    obtain ⟨hBB, rfl⟩ := hΦ; have hBB2 := hBB.symm; subst hBB2; clear hB v
    refine ⟨JOk.edge (JOk.edge (JOk.edge (JOk.top) (by kernel_rfl)) (by kernel_rfl)) (by kernel_rfl), ?_⟩
    refine Dx.done (by kernel_rfl) ?_
    refine Xx.bn ?_
    refine Xx.tn (k8 _ _ _ _ ?_)
    refine Cx.region ?_
    refine Lx.y (mv rfl) rfl ?_
    refine Lx.y (add rfl rfl (by first | exact wrap64 (by omega) (by omega) | rfl)) rfl ?_
    refine Lx.y (asg rfl) rfl ?_
    refine Lx.nil ?_
    refine Xx.dropB b12 ?_
    refine Xx.perm ?_ (PickS.eq (A := A2))
    exact Xx.againK ⟨i + 1, A2, c2, _, _, ⟨by omega, Frag.le_trans hB2 hBc, PartsR.snoc (hpr.mono hBc) rfl (by rw [getDp hil]; exact hv3)⟩, rfl, rfl, rfl, rfl⟩ (by omega) (Sub.cons (s := 4) rfl (Sub.cons (s := 0) rfl (Sub.cons (s := 1) rfl (Sub.cons (s := 2) rfl (Sub.cons (s := 3) rfl (Sub.cons (s := 5) rfl (Sub.cons (s := 6) rfl (Sub.cons (s := 7) rfl (Sub.cons (s := 8) rfl (Sub.cons (s := 9) rfl (Sub.cons (s := 10) rfl (Sub.cons (s := 11) rfl (Sub.cons (s := 12) rfl (Sub.cons (s := 13) rfl (Sub.cons (s := 14) rfl (Sub.cons (s := 15) rfl (Sub.nil _)))))))))))))))))
  · skip
    obtain rfl : i = v.parts.length := by omega
    refine Cx.exit ?_
    refine Xx.te ?_
    refine Xx.te ?_
    refine Xx.bh ?_
    refine Xx.tn (k3 _ _ _ _ ?_)
    refine Cx.seq (fun K9 k9 => ?_)
    refine Cx.region ?_
    refine Lx.y (ldA Tryz.underlying39 rfl sz39 rfl (Cells.own (n := 6) PickB.eq rfl) rfl) rfl ?_
    refine Lx.st (stA (d := .bool) sz39 rfl rfl rfl rfl (by show 0 + 6 ≤ 6; omega) rfl) ?_
    refine Lx.nil ?_
    refine Xx.tn (k9 _ _ _ _ ?_)
    refine Cx.ret ?_
    refine Xx.freezeT A fun B3 hB3 hRo hnc _ => ?_
    refine Xx.dropB b3 (Xx.dropB b1 ?_)
    refine Xx.retA rfl Tryz.underlying39 rfl sz39 rfl rfl ⟨⟨_, rfl, ?_⟩, rfl⟩ (Frag.le_trans hB2 hB3) rfl
    exact ValR.mk ⟨hsl, hn1, hn2, hcn, hnc⟩ hpl hnl (hns.mono (Frag.le_trans hB2 hB3)) hnx hRo (fun k hk => by
      have h9 : ValR B3 d (v.parts.getD k default) _ := (hpr.mono hB3).2 k hk
      rw [getDp hk] at h9
      exact h9)

theorem cmp_refl (d : Nat) (a : V) : cmpF d a a = .eq := by
  have h := cmpF_swap d a a
  cases hc : cmpF d a a with
  | eq => rfl
  | lt => rw [hc] at h; cases h
  | gt => rw [hc] at h; cases h
/-- a struct of one part -/
def VS (p : V) : V := .mk 6 false 0 [] [p] [[97]]
theorem VS_cl {B B' : Frag} {p : V} {Aq An : Option Addr} {Nq : Option Addr} {cq dq cp cn : Nat} (hp : ValR B 3 p (vcs p Aq cq Nq dq)) (hB : B.le B') (hRo : RoS B' 1 An 1 [str [97]]) (h1 : 1 ≤ cp) (h2 : 1 ≤ cn) : ClR B' 3 (VS p) cp An cn [i64 p.kind, .bool p.b, i64 p.n, str p.s, .slice Aq p.parts.length cq, .slice Nq p.names.length dq] := by
  refine ⟨⟨Nat.zero_le _, (show (-9223372036854775808 : Int) ≤ 0 by decide), (show (0 : Int) ≤ 9223372036854775807 by decide), h2, h1⟩, (show 1 ≤ 4611686018427387904 by decide), (show 1 ≤ 4611686018427387904 by decide), RoS.roe hRo, ?_, rfl, ?_⟩
  · intro x hx
    have h9 : x ∈ [[97]] := hx
    rw [List.mem_singleton.1 h9]; decide
  · intro k hk
    have hk2 : k < 1 := hk
    match k, hk2 with
    | 0, _ => exact hp.mono hB
theorem vs_bytes {x : V} (h : checkF 4 (VS (cutF 2 3 x)) 1 = 0) : (bytesF 4 (VS (cutF 2 3 x))).length ≤ 1152921504606846976 :=
  Nat.le_trans (bytes_le 4 _ 1 (by decide) h ⟨Nat.zero_le _, fun q hq => by
    have h9 : q ∈ [cutF 2 3 x] := hq
    rw [List.mem_singleton.1 h9]; exact cutF_sh 2 3 3 x⟩) (by decide)
theorem VS_few {p : V} (h : Few 3 p) : Few 4 (VS p) := ⟨show 1 ≤ 1000 by decide, fun q hq => by
  have h9 : q ∈ [p] := hq
  rw [List.mem_singleton.1 h9]; exact h⟩
end RwM
end Go.Proofs.YtdidpocakipinaaGreatDoor

/-
  What is handed in, and out, is its own: the walk of the law.
-/
namespace Go.Proofs.YtdidpocakipinaaGreatDoor
open Go.SL Go.RowKit
set_option linter.unusedVariables false
set_option linter.unusedSimpArgs false
set_option maxRecDepth 100000
open Ke1 Ke3 Ke4 Ke5 Ke6 Ke7 Ke8 Ke9 KeA KeB KeC KeD KeE KeF KeG KeI RgA RgB BtB BtC BtD BtE BtG BtX BtH BtI BtF BtJ BtK BtL BtM BtN BtO BtR BtY BtZ DrA DrB DrC DrD DrE DrF RwA RwB BtQ BtS RwC RwD RwE RwF RwG RwH RwI RwM
namespace RwN
theorem sz9 : (Tryz.prog.info? 9).map (·.size) = some 1 := by kernel_rfl
theorem sz25 : (Tryz.prog.info? 25).map (·.size) = some 6 := by kernel_rfl
theorem sz36 : (Tryz.prog.info? 36).map (·.size) = some 8 := by kernel_rfl
theorem sz39 : (Tryz.prog.info? 39).map (·.size) = some 6 := by kernel_rfl
theorem ti9 : TI Tryz.prog 9 [str []] 1 16 := TI.of (by kernel_rfl) rfl rfl
theorem ti25 : TI Tryz.prog 25 [.int .i64 0, .bool false, .int .i64 0, str [], .slice none 0 0, .slice none 0 0] 6 88 := TI.of (by kernel_rfl) rfl rfl
theorem ti36 : TI Tryz.prog 36 [.int .u64 0, .int .u64 0, .int .i64 0, .bool false, .int .i64 0, str [], .slice none 0 0, .slice none 0 0] 8 104 := TI.of (by kernel_rfl) rfl rfl
theorem ti39 : TI Tryz.prog 39 [.int .i64 0, .bool false, .int .i64 0, str [], .slice none 0 0, .slice none 0 0] 6 88 := TI.of (by kernel_rfl) rfl rfl
theorem fo25_4 : FO Tryz.prog 25 4 4 1 false := FO.of Tryz.underlying25 rfl rfl (by kernel_rfl) Tryz.underlying22 rfl rfl
theorem fo36_2 : FO Tryz.prog 36 2 2 6 true := FO.of Tryz.underlying36 rfl rfl (by kernel_rfl) Tryz.underlying25 rfl rfl
theorem pl36 : PL Tryz.prog 36 [(0, 1), (1, 1), (2, 6)] := PL.of Tryz.underlying36 (by kernel_rfl)

def valC (n : Int) : List Value := [i64 2, .bool false, i64 n, str [], .slice none 0 0, .slice none 0 0]
theorem set_part {ys sp vs : List Value} (h : ys.length = 6) (hv : vs.length = 6 := by rfl) : (ys ++ sp).take (0 + 0 * 6) ++ vs ++ (ys ++ sp).drop (0 + 0 * 6 + vs.length) = vs ++ sp := by
  rw [hv]; simp [h]

set_option maxHeartbeats 8000000 in
theorem RowsOwn_ct (x : V) (xcs : List Value) (k : Nat) (n : Int) (B : Frag) (hM : MaxLenIn B) (hx : ValR B k x xcs) : CtB Tryz.prog 3 [.agg xcs.toArray, i64 n] B (fun v _ => v = .bool true) := by
  obtain ⟨A0, c0, N0v, d0v, rfl⟩ := ValR.shape hx
  refine CtB.of_body Tryz.func3 rfl (nt := 79) rfl (by kernel_rfl) rfl ?_
  intro N0 w0 R
  refine Cx.seq (fun K1 k1 => ?_)
  refine Cx.region ?_
  refine Lx.new (boxA rfl) rfl (fun b0 => ?_)
  refine Lx.y (asg rfl) rfl ?_
  refine Lx.nil ?_
  refine Xx.tn (k1 _ _ _ _ ?_)
  refine Cx.seq (fun K2 k2 => ?_)
  refine Cx.region ?_
  refine Lx.bsl (bsl1 Tryz.underlying23 ti9 rfl rfl rfl (by decide)) rfl (fun bn => ?_)
  refine Lx.y (ldA Tryz.underlying25 rfl sz25 rfl (Cells.own (n := 6) PickB.eq rfl) rfl) rfl ?_
  refine Lx.cb rfl rfl rfl (Cut_ct 2 3 x _ k _ (by decide) (by decide) hx) rfl ?_
  rintro v1 B1 ⟨cs1, rfl, hp⟩ hB1
  obtain ⟨A3, c3, N3, d3, rfl⟩ := ValR.shape hp
  refine Lx.bsl (bslA Tryz.underlying22 ti25 rfl rfl (by decide)) rfl (fun bp => ?_)
  refine Xx.freezeB bn fun B2 hB2 hBn => ?_
  refine Xx.freezeB bp fun B3 hB3 hBp => ?_
  refine Lx.c rfl rfl rfl (StructP_ct (cutF 2 3 x) A3 c3 N3 d3 bn bp _ _ _ _ _ (hB3 _ _ hBn) hBp) ((one_star _).symm) rfl ?_
  rintro v2 B4 H4 ⟨Ap, cp, An, cn, rfl, hRo, hcp, hcn, rfl⟩ hB4
  have hcl : ClR B4 3 (VS (cutF 2 3 x)) cp An cn (vcs (cutF 2 3 x) A3 c3 N3 d3) := VS_cl hp (Frag.le_trans hB2 (Frag.le_trans hB3 hB4)) hRo hcp hcn
  have hB04 := Frag.le_trans hB1 (Frag.le_trans hB2 (Frag.le_trans hB3 hB4))
  have hM4 := hM.mono hB04
  refine Lx.new (allocO ti25) rfl (fun b5 => ?_)
  refine Lx.st (stA (d := .bool) (cs' := vcs (VS (cutF 2 3 x)) Ap cp An cn) sz25 rfl rfl rfl rfl (by show 0 + 6 ≤ 6; omega) rfl) ?_
  refine Lx.nil ?_
  refine Xx.tn (k2 _ _ _ _ ?_)
  refine Cx.seq (fun K4 k4 => ?_)
  refine Cx.seq (fun K5 k5 => ?_)
  refine Cx.region ?_
  refine Lx.y (ldA Tryz.underlying25 rfl sz25 rfl (Cells.own (n := 6) PickB.eq (show ((vcs (VS (cutF 2 3 x)) Ap cp An cn).drop 0).take 6 = vcs (VS (cutF 2 3 x)) Ap cp An cn from rfl)) rfl) rfl ?_
  refine Lx.co rfl rfl rfl (CheckO_ct 3 (VS (cutF 2 3 x)) Ap cp An cn (vcs (cutF 2 3 x) A3 c3 N3 d3) _ hcl (fun z => vs_bytes z)) ((show _ = (sbuf 25 6 Ap 1 cp (vcs (cutF 2 3 x) A3 c3 N3 d3)) * (row b5 25 (vcs (VS (cutF 2 3 x)) Ap cp An cn) * (row b0 25 (vcs x A0 c0 N0v d0v) * R)) by ac_rfl)) rfl ?_
  skip
  refine Lx.y (neI rfl rfl) rfl ?_
  refine Lx.nil ?_
  refine Xx.tn (k5 _ _ _ _ ?_)
  refine Cx.condN rfl (fun h6 => ?_) (fun h6 => ?_)
  · skip
    have hz := h6
    refine Cx.seq (fun K7 k7 => ?_)
    refine Cx.region ?_
    refine Lx.cb rfl rfl rfl (awake_ct _ hM4) rfl ?_
    rintro v3 B5 rfl hB5
    refine Lx.y (asg rfl) rfl ?_
    refine Lx.nil ?_
    refine Xx.tn (k7 _ _ _ _ ?_)
    refine Cx.ret ?_
    refine Xx.tr ?_
    refine Xx.perm (H' := ((sbuf 25 6 Ap 1 cp (vcs (cutF 2 3 x) A3 c3 N3 d3)) * (row b5 25 (vcs (VS (cutF 2 3 x)) Ap cp An cn) * row b0 25 (vcs x A0 c0 N0v d0v))) * R) ?_ (by ac_rfl)
    refine Xx.drop ?_
    exact Xx.rB1 rfl rfl rfl (Frag.le_trans hB04 hB5) rfl
  · skip
    have hz := h6
    obtain ⟨hck, hby⟩ := CheckF_zero hz
    refine Cx.skip ?_
    refine Xx.tn (k4 _ _ _ _ ?_)
    refine Cx.seq (fun K9 k9 => ?_)
    refine Cx.seq (fun K10 k10 => ?_)
    refine Cx.region ?_
    refine Lx.y (fa' fo25_4 rfl) rfl ?_
    refine Lx.y (ld Tryz.underlying22 rfl rfl rfl) rfl ?_
    refine Lx.y (lenV (ty' := 0) Tryz.underlying22 rfl) rfl ?_
    refine Lx.y (Yx.ff (neI rfl rfl) (by rfl)) rfl ?_
    refine Lx.nil ?_
    refine Xx.tn (k10 _ _ _ _ ?_)
    refine Cx.condF rfl ?_
    refine Cx.skip ?_
    refine Xx.tn (k9 _ _ _ _ ?_)
    refine Cx.seq (fun K11 k11 => ?_)
    refine Cx.region ?_
    refine Lx.c rfl rfl rfl (RNew_ct _) ((one_star _).symm) rfl ?_
    rintro v B5 H5 ⟨hBB, T, rfl, rfl, hdT, hxT, hT⟩ hB5
    have hBB2 := hBB.symm
    subst hBB2
    clear hB5
    refine Lx.y (asg rfl) rfl ?_
    refine Lx.nil ?_
    refine Xx.tn (k11 _ _ _ _ ?_)
    refine Cx.seq (fun K12 k12 => ?_)
    refine Cx.region ?_
    refine Lx.y (mv rfl) rfl ?_
    refine Lx.y (ldA Tryz.underlying25 rfl sz25 rfl (Cells.own (n := 6) PickB.eq (show ((vcs (VS (cutF 2 3 x)) Ap cp An cn).drop 0).take 6 = vcs (VS (cutF 2 3 x)) Ap cp An cn from rfl)) rfl) rfl ?_
    refine Lx.y (bld ti36 pl36 rfl rfl) rfl ?_
    refine Lx.c rfl rfl rfl (RPutG_ct T 1#64 0#64 (VS (cutF 2 3 x)) Ap cp An cn (sbuf 25 6 Ap 1 cp (vcs (cutF 2 3 x) A3 c3 N3 d3)) _ hT hM4 (by rw [hdT]; decide) (CloneO_ct 3 (VS (cutF 2 3 x)) Ap cp An cn (vcs (cutF 2 3 x) A3 c3 N3 d3) 1 _ hcl hck) hck hby) ((show _ = (tab T * (sbuf 25 6 Ap 1 cp (vcs (cutF 2 3 x) A3 c3 N3 d3))) * (row b5 25 (vcs (VS (cutF 2 3 x)) Ap cp An cn) * (row b0 25 (vcs x A0 c0 N0v d0v) * R)) by ac_rfl)) rfl ?_
    rintro r3 B5 H5 ⟨rfl, T2, rfl, hT2, hb2, hds2, _⟩ hB5
    rw [← hb2]
    rw [hdT] at hds2
    have hds2 : T2.ds.map Dc.abs = [(1#64, 0#64, (VS (cutF 2 3 x)))] := hds2
    have hex : ∃ d ∈ T2.ds, d.n = 1#64 := by
      have h9 : (1#64, 0#64, (VS (cutF 2 3 x))) ∈ T2.ds.map Dc.abs := by rw [hds2]; simp
      obtain ⟨dx, hdx, e9⟩ := List.mem_map.1 h9
      exact ⟨dx, hdx, congrArg Prod.fst e9⟩
    have hcl5 := hcl.mono hB5
    simp only [star_assoc]
    refine Lx.nil ?_
    refine Xx.tn (k12 _ _ _ _ ?_)
    refine Cx.seq (fun K13 k13 => ?_)
    refine Cx.region ?_
    refine Lx.y (ldA Tryz.underlying25 rfl sz25 rfl (Cells.own (n := 6) PickB.eq (show ((vcs (VS (cutF 2 3 x)) Ap cp An cn).drop 0).take 6 = vcs (VS (cutF 2 3 x)) Ap cp An cn from rfl)) rfl) rfl ?_
    refine Lx.c rfl rfl rfl (RefO_ct 3 (VS (cutF 2 3 x)) Ap cp An cn (vcs (cutF 2 3 x) A3 c3 N3 d3) _ hcl5 (VS_few (cutF_few _ _ _ _ (by decide)))) (pickS Ap) rfl ?_
    rintro r4 B6 H6 ⟨⟨ws, rfl, hw⟩, rfl⟩ hB6
    obtain ⟨Aw, cw, Nw, dw, rfl⟩ := ValR.shape hw
    refine Lx.new (allocO ti39) rfl (fun b7 => ?_)
    refine Lx.st (stA (d := .bool) sz39 rfl rfl rfl rfl (by show 0 + 6 ≤ 6; omega) rfl) ?_
    refine Lx.nil ?_
    refine Xx.tn (k13 _ _ _ _ ?_)
    refine Cx.seq (fun K14 k14 => ?_)
    refine Xx.openT Ap (by show 0 < 1; decide) (fun bv spv hAv hvl hvc hvcl => ?_)
    subst hAv
    refine Cx.drawn (by kernel_rfl) ?_
    refine Dx.p (i := 0) rfl (by kernel_rfl) (fa' fo25_4 rfl) rfl ?_
    refine Dx.r (i := 1) rfl (by kernel_rfl) (ld (v := .slice (some ⟨bv, 0, none⟩) 1 cp) Tryz.underlying22 rfl rfl rfl) rfl ?_
    refine Dx.p (i := 2) rfl (by kernel_rfl) (mv rfl) rfl ?_
    refine Dx.one (i := 3) (by kernel_rfl) ?_
    refine Dstep.o (i := 3) rfl (Ox.cb rfl rfl rfl (Int_ct _ _)) rfl (fun v B' H' hΦ hB => ?_)
    obtain ⟨rfl, rfl, hBB⟩ := hΦ; have hBB2 := hBB.symm; subst hBB2; clear hB
    refine ⟨JOk.yes (JOk.top) (ld (v := .slice (some ⟨bv, 0, none⟩) 1 cp) Tryz.underlying22 rfl rfl rfl), ?_⟩
    refine Dx.p (i := 4) rfl (by kernel_rfl) (ia Tryz.underlying22 sz25 rfl rfl (show Int.toNat _ = 0 from rfl) (by decide) (by decide)) rfl ?_
    refine Dx.one (i := 5) (by kernel_rfl) ?_
    refine Dstep.o0 (i := 5) rfl (stA (d := .bool) (cs' := valC n ++ spv) sz25 rfl rfl rfl rfl (by rw [List.length_append, (show (vcs (cutF 2 3 x) A3 c3 N3 d3).length = 6 from rfl)]; show 0 + 0 * 6 + 6 ≤ 6 + _; omega) (by rw [frc_gen]; exact congrArg some (set_part (show (vcs (cutF 2 3 x) A3 c3 N3 d3).length = 6 from rfl)))) (fun v B' H' hΦ hB => ?_)
    obtain ⟨hBB, rfl⟩ := hΦ; have hBB2 := hBB.symm; subst hBB2; clear hB v
    refine ⟨JOk.edge (JOk.top) (by kernel_rfl), ?_⟩
    refine Dx.done (by kernel_rfl) ?_
    refine Xx.tn (k14 _ _ _ _ ?_)
    refine Cx.seq (fun K15 k15 => ?_)
    refine Cx.region ?_
    refine Lx.y (mv rfl) rfl ?_
    refine Lx.c rfl rfl rfl (RGet_own T2 1#64 _ (hT2.mono hB6)) (Pick.eq) rfl ?_
    rintro r7 B7 H7 ⟨d7, A7, c7, N7, e7, ys7, rfl, hs7, hk7, hcl7, rfl⟩ hB7
    have hd7 : Dc.abs d7 = (1#64, 0#64, (VS (cutF 2 3 x))) := by
      obtain ⟨dx, hdx, hdn⟩ := hex
      rw [hs7 dx hdx hdn]
      have h9 : Dc.abs dx ∈ T2.ds.map Dc.abs := List.mem_map.2 ⟨dx, hdx, rfl⟩
      rw [hds2] at h9; simpa using h9
    obtain ⟨q1, q2, q3, q4⟩ := d7
    obtain rfl : q1 = 1#64 := congrArg (fun t => t.1) hd7
    obtain rfl : q2 = 0#64 := congrArg (fun t => t.2.1) hd7
    obtain rfl : q3 = (VS (cutF 2 3 x)) := congrArg (fun t => t.2.2) hd7
    simp only [star_assoc]
    refine Lx.y (mv rfl) rfl ?_
    refine Lx.y (ext rfl rfl) rfl ?_
    refine Lx.y (Yx.tt (ext rfl rfl) (decide_eq_true hex)) rfl ?_
    refine Lx.new (allocO ti36) rfl (fun b8 => ?_)
    refine Lx.st (stA (d := .bool) (cs' := (u64 1#64 :: u64 0#64 :: vcs (VS (cutF 2 3 x)) A7 c7 N7 e7)) sz36 rfl rfl rfl rfl (by show 0 + 8 ≤ 8; omega) rfl) ?_
    refine Lx.y (asg rfl) rfl ?_
    refine Lx.nil ?_
    refine Xx.tn (k15 _ _ _ _ ?_)
    refine Cx.seq (fun K16 k16 => ?_)
    refine Cx.seq (fun K17 k17 => ?_)
    refine Cx.drawn (by kernel_rfl) ?_
    refine Dx.one (i := 0) (by kernel_rfl) ?_
    refine Dstep.o (i := 0) rfl (Ox.cb rfl rfl rfl (awake_ct _ (hM4.mono (Frag.le_trans hB5 (Frag.le_trans hB6 hB7))))) rfl (fun v B' H' hΦ hB => ?_)
    obtain ⟨rfl, hΦ⟩ := hΦ
    obtain rfl := hΦ
    obtain ⟨B8, h8e⟩ : ∃ B8, B8 = B' := ⟨_, rfl⟩
    subst h8e
    have hB8 := hB
    refine ⟨JOk.top, ?_⟩
    refine Dx.p (i := 1) rfl (by kernel_rfl) (Yx.ff (not' rfl) (rfl)) rfl ?_
    refine Dx.p (i := 2) rfl (by kernel_rfl) (mv rfl) rfl ?_
    refine Dx.pT (i := 3) rfl rfl rfl rfl (by kernel_rfl) (mv rfl) rfl ?_
    refine Dx.pT (i := 4) rfl rfl rfl rfl (by kernel_rfl) (Yx.ff (not' rfl) (rfl)) rfl ?_
    refine Dx.p (i := 5) rfl (by kernel_rfl) (pickF rfl rfl) rfl ?_
    refine Dx.p (i := 6) rfl (by kernel_rfl) (mv rfl) rfl ?_
    refine Dx.pT (i := 7) rfl rfl rfl rfl (by kernel_rfl) (fa' fo36_2 rfl) rfl ?_
    refine Dx.rT (i := 8) rfl rfl rfl rfl (by kernel_rfl) (ldA Tryz.underlying25 rfl sz25 rfl (Cells.own (n := 6) PickB.eq (show ((u64 1#64 :: u64 0#64 :: vcs (VS (cutF 2 3 x)) A7 c7 N7 e7).drop 2).take 6 = vcs (VS (cutF 2 3 x)) A7 c7 N7 e7 from rfl)) rfl) rfl ?_
    refine Dx.rT (i := 10) rfl rfl rfl rfl (by kernel_rfl) (ldA Tryz.underlying39 rfl sz39 rfl (Cells.own (n := 6) PickB.eq (show ((vcs (VS (cutF 2 3 x)) Aw cw Nw dw).drop 0).take 6 = vcs (VS (cutF 2 3 x)) Aw cw Nw dw from rfl)) rfl) rfl ?_
    refine Dx.one (i := 9) (by kernel_rfl) ?_
    refine Dstep.oT (i := 9) rfl rfl rfl rfl (Ox.call rfl rfl rfl (RefO_ct 3 (VS (cutF 2 3 x)) A7 c7 N7 e7 ys7 _ (hcl7.mono hB8) (VS_few (cutF_few _ _ _ _ (by decide)))) (pickS A7)) rfl (fun v B' H' hΦ hB => ?_)
    obtain ⟨_, rfl, hΦ⟩ := hΦ
    obtain ⟨⟨wy, rfl, hwy⟩, rfl⟩ := hΦ
    obtain ⟨Ay, cy, Ny, dy, rfl⟩ := ValR.shape hwy
    obtain ⟨B9, h9e⟩ : ∃ B9, B9 = B' := ⟨_, rfl⟩
    subst h9e
    have hB9 := hB
    have hw9 := hw.mono (Frag.le_trans hB7 (Frag.le_trans hB8 hB9))
    refine ⟨JOk.yes (JOk.edge (JOk.top) (by kernel_rfl)) (ldA Tryz.underlying39 rfl sz39 rfl (Cells.own (n := 6) PickB.eq (show ((vcs (VS (cutF 2 3 x)) Aw cw Nw dw).drop 0).take 6 = vcs (VS (cutF 2 3 x)) Aw cw Nw dw from rfl)) rfl), ?_⟩
    refine Dx.one (i := 11) (by kernel_rfl) ?_
    refine Dstep.oT (i := 11) rfl rfl rfl rfl (Ox.cb rfl rfl rfl (Same_ct 4 (VS (cutF 2 3 x)) (VS (cutF 2 3 x)) 1 _ _ _ hwy hw9 hck hck)) rfl (fun v B' H' hΦ hB => ?_)
    obtain ⟨rfl, rfl, hBB⟩ := hΦ; have hBB2 := hBB.symm; subst hBB2; clear hB
    refine ⟨JOk.edge (JOk.yes (JOk.top) (ldA Tryz.underlying25 rfl sz25 rfl (Cells.own (n := 6) PickB.eq (show ((u64 1#64 :: u64 0#64 :: vcs (VS (cutF 2 3 x)) A7 c7 N7 e7).drop 2).take 6 = vcs (VS (cutF 2 3 x)) A7 c7 N7 e7 from rfl)) rfl)) (by kernel_rfl), ?_⟩
    refine Dx.pT (i := 12) rfl rfl rfl rfl (by kernel_rfl) (Yx.ff (not' rfl) (by rw [cmp_refl]; rfl)) rfl ?_
    refine Dx.p (i := 13) rfl (by kernel_rfl) (pickF rfl rfl) rfl ?_
    refine Dx.p (i := 14) rfl (by kernel_rfl) (mv rfl) rfl ?_
    refine Dx.pT (i := 15) rfl rfl rfl rfl (by kernel_rfl) (fa' fo36_2 rfl) rfl ?_
    refine Dx.pT (i := 16) rfl rfl rfl rfl (by kernel_rfl) (fa' fo25_4 rfl) rfl ?_
    refine Dx.rT (i := 17) rfl rfl rfl rfl (by kernel_rfl) (ld (v := .slice A7 1 c7) Tryz.underlying22 rfl rfl rfl) rfl ?_
    refine Dx.pT (i := 18) rfl rfl rfl rfl (by kernel_rfl) (lenV (ty' := 0) Tryz.underlying22 rfl) rfl ?_
    refine Dx.pT (i := 19) rfl rfl rfl rfl (by kernel_rfl) (Yx.ff (neI rfl rfl) (by rfl)) rfl ?_
    refine Dx.p (i := 20) rfl (by kernel_rfl) (pickF rfl rfl) rfl ?_
    refine Dx.done (by kernel_rfl) ?_
    refine Xx.tn (k17 _ _ _ _ ?_)
    refine Cx.condF rfl ?_
    refine Cx.skip ?_
    refine Xx.tn (k16 _ _ _ _ ?_)
    refine Cx.seq (fun K18 k18 => ?_)
    refine Xx.openT A7 (by show 0 < 1; decide) (fun by7 sp7 hA7 hyl7 hyc7 hycl7 => ?_)
    subst hA7
    refine Cx.drawn (by kernel_rfl) ?_
    refine Dx.p (i := 0) rfl (by kernel_rfl) (fa' fo36_2 rfl) rfl ?_
    refine Dx.p (i := 1) rfl (by kernel_rfl) (fa' fo25_4 rfl) rfl ?_
    refine Dx.r (i := 2) rfl (by kernel_rfl) (ld (v := .slice (some ⟨by7, 0, none⟩) 1 c7) Tryz.underlying22 rfl rfl rfl) rfl ?_
    refine Dx.p (i := 3) rfl (by kernel_rfl) (mv rfl) rfl ?_
    refine Dx.one (i := 4) (by kernel_rfl) ?_
    refine Dstep.o (i := 4) rfl (Ox.cb rfl rfl rfl (Int_ct _ _)) rfl (fun v B' H' hΦ hB => ?_)
    obtain ⟨rfl, rfl, hBB⟩ := hΦ; have hBB2 := hBB.symm; subst hBB2; clear hB
    refine ⟨JOk.yes (JOk.top) (ld (v := .slice (some ⟨by7, 0, none⟩) 1 c7) Tryz.underlying22 rfl rfl rfl), ?_⟩
    refine Dx.p (i := 5) rfl (by kernel_rfl) (ia Tryz.underlying22 sz25 rfl rfl (show Int.toNat _ = 0 from rfl) (by decide) (by decide)) rfl ?_
    refine Dx.one (i := 6) (by kernel_rfl) ?_
    refine Dstep.o0 (i := 6) rfl (stA (d := .bool) (cs' := valC n ++ sp7) sz25 rfl rfl rfl rfl (by rw [List.length_append, (show ys7.length = 6 from hcl7.2.2.2.2.2.1)]; show 0 + 0 * 6 + 6 ≤ 6 + _; omega) (by rw [frc_gen]; exact congrArg some (set_part (show ys7.length = 6 from hcl7.2.2.2.2.2.1)))) (fun v B' H' hΦ hB => ?_)
    obtain ⟨hBB, rfl⟩ := hΦ; have hBB2 := hBB.symm; subst hBB2; clear hB v
    refine ⟨JOk.edge (JOk.top) (by kernel_rfl), ?_⟩
    refine Dx.done (by kernel_rfl) ?_
    refine Xx.tn (k18 _ _ _ _ ?_)
    refine Cx.seq (fun K19 k19 => ?_)
    refine Cx.region ?_
    refine Lx.y (mv rfl) rfl ?_
    refine Lx.c rfl rfl rfl (RGet_own T2 1#64 _ (hT2.mono (Frag.le_trans hB6 (Frag.le_trans hB7 (Frag.le_trans hB8 hB9))))) (Pick.eq) rfl ?_
    rintro r2 B2 H2 ⟨d2, A2, c2, N2, e2, ys2, rfl, hs2, hk2, hcl2, rfl⟩ hB2
    have hd2 : Dc.abs d2 = (1#64, 0#64, (VS (cutF 2 3 x))) := by
      obtain ⟨dx, hdx, hdn⟩ := hex
      rw [hs2 dx hdx hdn]
      have h9 : Dc.abs dx ∈ T2.ds.map Dc.abs := List.mem_map.2 ⟨dx, hdx, rfl⟩
      rw [hds2] at h9; simpa using h9
    obtain ⟨q1, q2, q3, q4⟩ := d2
    obtain rfl : q1 = 1#64 := congrArg (fun t => t.1) hd2
    obtain rfl : q2 = 0#64 := congrArg (fun t => t.2.1) hd2
    obtain rfl : q3 = (VS (cutF 2 3 x)) := congrArg (fun t => t.2.2) hd2
    simp only [star_assoc]
    refine Xx.freezeT A2 fun BF hBF hRoz _ _ => ?_
    have hvz : ValR BF 4 (VS (cutF 2 3 x)) (vcs (VS (cutF 2 3 x)) A2 c2 N2 e2) := hcl2.val hBF hRoz
    have hwF := hw9.mono (Frag.le_trans hB2 hBF)
    refine Lx.y (mv rfl) rfl ?_
    refine Lx.y (ext rfl rfl) rfl ?_
    refine Lx.y (ext rfl rfl) rfl ?_
    refine Lx.new (allocO ti36) rfl (fun b9 => ?_)
    refine Lx.st (stA (d := .bool) (cs' := (u64 1#64 :: u64 0#64 :: vcs (VS (cutF 2 3 x)) A2 c2 N2 e2)) sz36 rfl rfl rfl rfl (by show 0 + 8 ≤ 8; omega) rfl) ?_
    refine Lx.y (asg rfl) rfl ?_
    refine Lx.nil ?_
    refine Xx.tn (k19 _ _ _ _ ?_)
    refine Cx.seq (fun K20 k20 => ?_)
    refine Cx.drawn (by kernel_rfl) ?_
    refine Dx.p (i := 0) rfl (by kernel_rfl) (fa' fo36_2 rfl) rfl ?_
    refine Dx.r (i := 1) rfl (by kernel_rfl) (ldA Tryz.underlying25 rfl sz25 rfl (Cells.own (n := 6) PickB.eq (show ((u64 1#64 :: u64 0#64 :: vcs (VS (cutF 2 3 x)) A2 c2 N2 e2).drop 2).take 6 = vcs (VS (cutF 2 3 x)) A2 c2 N2 e2 from rfl)) rfl) rfl ?_
    refine Dx.r (i := 3) rfl (by kernel_rfl) (ldA Tryz.underlying39 rfl sz39 rfl (Cells.own (n := 6) PickB.eq (show ((vcs (VS (cutF 2 3 x)) Aw cw Nw dw).drop 0).take 6 = vcs (VS (cutF 2 3 x)) Aw cw Nw dw from rfl)) rfl) rfl ?_
    refine Dx.one (i := 2) (by kernel_rfl) ?_
    refine Dstep.o (i := 2) rfl (Ox.cb rfl rfl rfl (Ref_ct 4 _ _ _ hvz (VS_few (cutF_few _ _ _ _ (by decide))))) rfl (fun v B' H' hΦ hB => ?_)
    obtain ⟨rfl, hΦ⟩ := hΦ
    obtain ⟨wz, rfl, hwz⟩ := hΦ
    obtain ⟨Az, cz, Nz, dz, rfl⟩ := ValR.shape hwz
    obtain ⟨BG, hge⟩ : ∃ BG, BG = B' := ⟨_, rfl⟩
    subst hge
    have hBG := hB
    refine ⟨JOk.yes (JOk.edge (JOk.top) (by kernel_rfl)) (ldA Tryz.underlying39 rfl sz39 rfl (Cells.own (n := 6) PickB.eq (show ((vcs (VS (cutF 2 3 x)) Aw cw Nw dw).drop 0).take 6 = vcs (VS (cutF 2 3 x)) Aw cw Nw dw from rfl)) rfl), ?_⟩
    refine Dx.one (i := 4) (by kernel_rfl) ?_
    refine Dstep.o (i := 4) rfl (Ox.cb rfl rfl rfl (Same_ct 4 (VS (cutF 2 3 x)) (VS (cutF 2 3 x)) 1 _ _ _ hwz (hwF.mono hBG) hck hck)) rfl (fun v B' H' hΦ hB => ?_)
    obtain ⟨rfl, rfl, hBB⟩ := hΦ; have hBB2 := hBB.symm; subst hBB2; clear hB
    refine ⟨JOk.edge (JOk.yes (JOk.top) (ldA Tryz.underlying25 rfl sz25 rfl (Cells.own (n := 6) PickB.eq (show ((u64 1#64 :: u64 0#64 :: vcs (VS (cutF 2 3 x)) A2 c2 N2 e2).drop 2).take 6 = vcs (VS (cutF 2 3 x)) A2 c2 N2 e2 from rfl)) rfl)) (by kernel_rfl), ?_⟩
    refine Dx.p (i := 5) rfl (by kernel_rfl) (asg rfl) rfl ?_
    refine Dx.done (by kernel_rfl) ?_
    refine Xx.tn (k20 _ _ _ _ ?_)
    refine Cx.ret ?_
    refine Xx.perm (H' := (tab T2 * (row b9 36 (u64 1#64 :: u64 0#64 :: vcs (VS (cutF 2 3 x)) A2 c2 N2 e2) * (row by7 25 (valC n ++ sp7) * (row b8 36 (u64 1#64 :: u64 0#64 :: vcs (VS (cutF 2 3 x)) (some ⟨by7, 0, none⟩) c7 N7 e7) * (row bv 25 (valC n ++ spv) * (row b7 39 (vcs (VS (cutF 2 3 x)) Aw cw Nw dw) * (row b5 25 (vcs (VS (cutF 2 3 x)) (some ⟨bv, 0, none⟩) cp An cn) * row b0 25 (vcs x A0 c0 N0v d0v)))))))) * R) ?_ (by ac_rfl)
    refine Xx.drop ?_
    exact Xx.rB1 rfl rfl (congrArg Value.bool (by rw [cmp_refl]; rfl)) (Frag.le_trans hB04 (Frag.le_trans hB5 (Frag.le_trans hB6 (Frag.le_trans hB7 (Frag.le_trans hB8 (Frag.le_trans hB9 (Frag.le_trans hB2 (Frag.le_trans hBF hBG)))))))) rfl
end RwN
end Go.Proofs.YtdidpocakipinaaGreatDoor

/-
  RowsOwn: whatever the input, the law answers true, and the input reads as it did.
-/
namespace Go.Proofs.YtdidpocakipinaaGreatDoor.RowsOwnLaw
open Go.ChangeShapes Go.WideShapes Go.ChangeAt Go.RowKit Go.SL
open Ke6 KeI
open Go.ChangeMaps (open_string shut_string)

theorem own : ownKnob Tryz.prog.godebug = none := by kernel_rfl
theorem laidOut : laidOutB Tryz.prog = true := by kernel_rfl

set_option maxRecDepth 100000 in
theorem contract (H : Type) (enc : TypeId × Value → H) (W : World) (base : Nat) (args : Array Value) (ds gs : List (DataW H)) (before : List MemPlace)
    (hval : ∀ (j : Nat) t v, Tryz.f3.params[j]? = some t → args[j]? = some v → Value.okWide Tryz.prog W .any base t v)
    (hW : DataW.Whole enc Tryz.prog Tryz.f3.params.toList Rows.rowsOwnSpec.vars false W args.toList ds gs before) (ts : List TypeId) (hwt : (DataW.weightsEach Tryz.prog (Tryz.f3.params.toList ++ ts) (ds ++ gs)).all (· ≤ reachBytes) = true) (hsh : W.ShapedOpen Tryz.prog) :
    Calls Tryz.prog 3 args W fun e W' => ∃ v, e = .returned v ∧ Rows.rowsOwnSpec.post enc Tryz.prog Tryz.f3 false true false false W args v W' := by
  have hW' := hW
  obtain ⟨p, q, hA0, hV, rfl, hfz, hnd⟩ := hW
  have hA : DataW.TrodAll enc Tryz.prog W 0 (fun _ => true) true Tryz.f3.params.toList args.toList ds p := hA0
  rw [Tryz.params3] at hA hval
  obtain ⟨v0, vs0, d0, ds0, p0, q0, hargs, rfl, rfl, h0, r0⟩ := trodAll_cons hA
  obtain ⟨v1, vs1, d1, ds1, p1, q1, rfl, rfl, rfl, h1, r1⟩ := trodAll_cons r0
  obtain ⟨rfl, rfl, rfl⟩ := trodAll_nil r1
  obtain rfl : args = #[v0, v1] := by cases args; simp_all
  obtain ⟨a0, k0, l0, rfl, hv0⟩ := open_val (hval 0 25 v0 rfl rfl) h0 (weights_at hwt (j := 0) rfl rfl)
  obtain ⟨a1, rfl, rfl, rfl, m1⟩ := open_int Tryz.underlying2 (hval 1 2 v1 rfl rfl) h1
  obtain ⟨rfl, rfl⟩ := trodVars_none hV
  refine (law_calls (args := [.agg l0.toArray, i64 a1]) (RwN.RowsOwn_ct a0 l0 k0 a1 _ (maxLen_in hsh) hv0)).mono fun e W' ⟨he, hb⟩ => ?_
  exact ⟨_, he, law_post laidOut (by kernel_rfl) (by kernel_rfl) Tryz.underlying4 rfl hW' rfl hb⟩

def ranges : List Nat := [128, 191, 160, 191, 128, 159, 144, 191, 128, 143, 0, 0, 0, 0, 0, 0, 0, 0, 0, 0, 0, 0, 0, 0, 0, 0, 0, 0, 0, 0, 0, 0]
def u8cells (l : List Nat) : Array Value := (l.map fun n => Value.int .u8 ((n : Nat) : Int)).toArray
def putc (cs : Array Value) : Obj → Obj
  | .cells _ t frozen => .cells cs t frozen
  | o => o
/-- A world for the witness: the settled one, both tables laid. -/
noncomputable def laidWorld (os : Os) : World :=
  { World.holding Tryz.prog os ⟨#[], #[], []⟩ with heap := ((World.holding Tryz.prog os ⟨#[], #[], []⟩).heap.modify 1 (putc (u8cells Go.Pinned.utf8FirstZ))).modify 2 (putc (u8cells ranges)) }
theorem laid_met (os : Os) : laidMet Tryz.prog Rows.rowsOwnRow.laid ((laidWorld os).forCall (fun _ _ => 0) ⟨#[], #[.agg #[.int .i64 0, .bool false, .int .i64 0, .string ⟨#[]⟩, .slice none 0 0, .slice none 0 0], .int .i64 0], []⟩).memory :=
  laidMet_of_run' 8 (by kernel_rfl) (by kernel_rfl)
theorem reads (os : Os) {H : Type} (enc : TypeId × Value → H) : ∃ places, DataW.whole enc Tryz.prog ((laidWorld os).forCall (fun _ _ => 0) ⟨#[], #[.agg #[.int .i64 0, .bool false, .int .i64 0, .string ⟨#[]⟩, .slice none 0 0, .slice none 0 0], .int .i64 0], []⟩).memory Tryz.f3.params.toList Rows.rowsOwnSpec.vars false #[.agg #[.int .i64 0, .bool false, .int .i64 0, .string ⟨#[]⟩, .slice none 0 0, .slice none 0 0], .int .i64 0].toList 8 = some ([.agg [.lit (.int .i64 0), .lit (.bool false), .lit (.int .i64 0), .lit (.string []), .nil, .nil], .lit (.int .i64 0)], [], places) :=
  ⟨[], by kernel_rfl⟩

set_option maxRecDepth 100000 in
theorem lifted (os : Os) (started : os.Started) (H : Type) (enc : TypeId × Value → H) (F : Stop.Interp) :
    ReturnsInHanded {} Tryz.checked os 3 .any ((OpenSpec.ofChange Rows.rowsOwnSpec).preRow enc Tryz.prog Tryz.f3 Rows.rowsOwnRow.domain false Rows.rowsOwnRow.laid) (((OpenSpec.ofChange Rows.rowsOwnSpec).at F).post enc Tryz.prog Tryz.f3 false true false false) := by
  obtain ⟨places, hx⟩ := reads os enc
  refine returnsInHanded_of_row (C := Tryz.checked) (s := OpenSpec.ofChange Rows.rowsOwnSpec) own started (by kernel_rfl) Tryz.func3
    (witness_row_at (enc := enc) (C := Tryz.checked) false (laidWorld os) #[.agg #[.int .i64 0, .bool false, .int .i64 0, .string ⟨#[]⟩, .slice none 0 0, .slice none 0 0], .int .i64 0] rfl (by kernel_rfl) (by kernel_rfl) (by kernel_rfl)
      (OpenSpec.preRow_of_cond 8 hx (by kernel_rfl) (fun k hk => by cases hk) (by kernel_rfl) (laid_met os))) ?_
  intro W base args ds gs before hval hW _ _ hwt hL hsh _
  exact contract H enc W base args ds gs before hval hW _ hwt hsh

theorem bare : Rows.RowsOwnSaid :=
  OpenClaim.holds_of_cond 3 Tryz.f3 rfl rfl rfl rfl rfl rfl rfl ⟨rfl, rfl, rfl, rfl, rfl⟩ rfl rfl rfl rfl rfl (by kernel_rfl) Tryz.func3 (by kernel_rfl)
    (of_decide_eq_true (by kernel_rfl)) (by unfold Func.isWrapper; first | (rw [if_pos (by decide +kernel)]; kernel_rfl) | (rw [if_neg (by decide +kernel)]; exact ⟨rfl, rfl⟩))
    (fun os started H enc _ F => by rw [OpenClaim.pre_eq_preRow]; exact lifted os started H enc F)

/-- No parameter wants a stand-in; the program's own looks are off. -/
theorem plain (f : FuncId) (fn : Func) (hf : Tryz.pinned.checked.prog.funcNamed "parchment/parchmentlaw14.RowsOwn" = some f) (hfn : Tryz.pinned.checked.prog.funcs[f]? = some fn) :
    false = Tryz.pinned.checked.prog.looks [] ∧ ∀ (j : Nat) t, fn.params[j]? = some t → Tryz.pinned.checked.prog.wantsStandIn t = false := by
  obtain rfl : f = 3 := Option.some.inj ((show Tryz.prog.funcNamed "parchment/parchmentlaw14.RowsOwn" = some 3 by kernel_rfl).symm.trans hf) |>.symm
  obtain rfl : fn = Tryz.f3 := (Option.some.inj (Tryz.func3.symm.trans hfn)).symm
  refine ⟨by kernel_rfl, fun j t ht => ?_⟩
  rw [Tryz.params3] at ht
  have hm := Array.mem_of_getElem? ht
  simp only [List.mem_toArray, List.mem_cons, List.not_mem_nil, or_false] at hm
  rcases hm with rfl | rfl
  all_goals exact (show Tryz.prog.wantsStandIn _ = false by kernel_rfl)

theorem said : Rows.RowsOwnCardSaid :=
  Claim7.holds_tied_plain_at .later [] _ _ _ _ bare (fun _ h => by cases h) (by kernel_rfl) (fun _ h => by cases h) rowsOwn_row_tie rfl ⟨rfl, rfl⟩ (by kernel_rfl) rfl plain (by kernel_rfl)
end Go.Proofs.YtdidpocakipinaaGreatDoor.RowsOwnLaw
#print axioms Go.Proofs.YtdidpocakipinaaGreatDoor.RowsOwnLaw.said
