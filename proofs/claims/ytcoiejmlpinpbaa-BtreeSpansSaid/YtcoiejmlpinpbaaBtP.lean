/-
  How deep a tree of one key is; awake.
-/
import Derived.Test.YtcoiejmlpinpbaaProg
import Derived.Test.YtcoiejmlpinpbaaSlj
import Derived.Test.YtcoiejmlpinpbaaBtO
namespace Go.Proofs.Ytcoiejmlpinpbaa
open Go.SL Go.RowKit
set_option linter.unusedVariables false
set_option linter.unusedSimpArgs false
set_option maxRecDepth 100000
open BtA BtB BtC BtD BtE BtG BtH BtI BtF BtJ BtK BtL BtM BtN BtO
namespace BtP
theorem sz9 : (Try.prog.info? 9).map (·.size) = some 1 := by kernel_rfl
theorem fo70_0 : FO Try.prog 70 0 0 1 false := FO.of Try.underlying70 rfl rfl (by kernel_rfl) Try.underlying22 rfl rfl
theorem fo70_1 : FO Try.prog 70 1 1 1 false := FO.of Try.underlying70 rfl rfl (by kernel_rfl) Try.underlying22 rfl rfl
theorem fo70_2 : FO Try.prog 70 2 2 1 false := FO.of Try.underlying70 rfl rfl (by kernel_rfl) Try.underlying68 rfl rfl
theorem fo72_0 : FO Try.prog 72 0 0 1 false := FO.of Try.underlying72 rfl rfl (by kernel_rfl) Try.underlying67 rfl rfl

set_option maxHeartbeats 4000000 in
theorem sound_one (b : Nat) (Ak Av Ac : Option Addr) (ck cv cc : Nat) (k : Str8) (fz : Nat × Nat) (B : Frag) (hb : B b = some (.cells [.slice Ak 1 ck, .slice Av 1 cv, .slice Ac 0 cc].toArray 70 fz)) (hR : RoE B Ak 1 [str k]) : CtP Try.prog 42 [.pointer (some ⟨b, 0, none⟩), str [], str [], .bool true] B (i64 1) := by
  obtain ⟨b0, o0, cs0, et0, fz0, rfl, hB0, hv0⟩ := hR.at1 (k := 0) (by decide)
  refine CtB.of_body Try.func42 rfl (nt := 160) rfl (by kernel_rfl) rfl ?_
  intro N0 w0 R
  refine Cx.seq (fun K1 k1 => ?_)
  refine Cx.region ?_
  refine Lx.y (asg rfl) rfl ?_
  refine Lx.nil ?_
  refine Xx.tn (k1 _ _ _ _ ?_)
  refine Cx.seq (fun K2 k2 => ?_)
  refine Cx.seq (fun K3 k3 => ?_)
  refine Cx.drawn (by kernel_rfl) ?_
  refine Dx.p (i := 0) rfl (by kernel_rfl) (mv rfl) rfl ?_
  refine Dx.p (i := 1) rfl (by kernel_rfl) (nilc rfl) rfl ?_
  refine Dx.p (i := 2) rfl (by kernel_rfl) (fa' fo70_0 rfl) rfl ?_
  refine Dx.r (i := 3) rfl (by kernel_rfl) (ldB Try.underlying22 rfl rfl hb rfl) rfl ?_
  refine Dx.p (i := 4) rfl (by kernel_rfl) (lenV (ty' := 0) Try.underlying22 rfl) rfl ?_
  refine Dx.p (i := 5) rfl (by kernel_rfl) (Yx.ff (gtr rfl rfl) (rfl)) rfl ?_
  refine Dx.p (i := 6) rfl (by kernel_rfl) (mv rfl) rfl ?_
  refine Dx.pT (i := 7) rfl rfl rfl rfl (by kernel_rfl) (mv rfl) rfl ?_
  refine Dx.pT (i := 8) rfl rfl rfl rfl (by kernel_rfl) (Yx.ff (not' rfl) (rfl)) rfl ?_
  refine Dx.pT (i := 9) rfl rfl rfl rfl (by kernel_rfl) (mv rfl) rfl ?_
  refine Dx.pF (i := 10) rfl (fun _ h => by cases h) rfl rfl rfl (by kernel_rfl) rfl ?_
  refine Dx.pF (i := 11) rfl (fun _ h => by cases h) rfl rfl rfl (by kernel_rfl) rfl ?_
  refine Dx.pF (i := 12) rfl (fun _ h => by cases h) rfl rfl rfl (by kernel_rfl) rfl ?_
  refine Dx.pF (i := 13) rfl (fun _ h => by cases h) rfl rfl rfl (by kernel_rfl) rfl ?_
  refine Dx.pF (i := 14) rfl (fun _ h => by cases h) rfl rfl rfl (by kernel_rfl) rfl ?_
  refine Dx.pF (i := 15) rfl (fun _ h => by cases h) rfl rfl rfl (by kernel_rfl) rfl ?_
  refine Dx.pT (i := 16) rfl rfl rfl rfl (by kernel_rfl) (pickF rfl rfl) rfl ?_
  refine Dx.p (i := 17) rfl (by kernel_rfl) (pickF rfl rfl) rfl ?_
  refine Dx.p (i := 18) rfl (by kernel_rfl) (mv rfl) rfl ?_
  refine Dx.pT (i := 19) rfl rfl rfl rfl (by kernel_rfl) (mv rfl) rfl ?_
  refine Dx.pT (i := 20) rfl rfl rfl rfl (by kernel_rfl) (nilc rfl) rfl ?_
  refine Dx.pT (i := 21) rfl rfl rfl rfl (by kernel_rfl) (fa' fo70_1 rfl) rfl ?_
  refine Dx.rT (i := 22) rfl rfl rfl rfl (by kernel_rfl) (ldB Try.underlying22 rfl rfl hb rfl) rfl ?_
  refine Dx.pT (i := 23) rfl rfl rfl rfl (by kernel_rfl) (lenV (ty' := 0) Try.underlying22 rfl) rfl ?_
  refine Dx.pT (i := 24) rfl rfl rfl rfl (by kernel_rfl) (mv rfl) rfl ?_
  refine Dx.pT (i := 25) rfl rfl rfl rfl (by kernel_rfl) (nilc rfl) rfl ?_
  refine Dx.pT (i := 26) rfl rfl rfl rfl (by kernel_rfl) (fa' fo70_0 rfl) rfl ?_
  refine Dx.rT (i := 27) rfl rfl rfl rfl (by kernel_rfl) (ldB Try.underlying22 rfl rfl hb rfl) rfl ?_
  refine Dx.pT (i := 28) rfl rfl rfl rfl (by kernel_rfl) (lenV (ty' := 0) Try.underlying22 rfl) rfl ?_
  refine Dx.pT (i := 29) rfl rfl rfl rfl (by kernel_rfl) (Yx.ff (neI rfl rfl) (rfl)) rfl ?_
  refine Dx.p (i := 30) rfl (by kernel_rfl) (pickF rfl rfl) rfl ?_
  refine Dx.done (by kernel_rfl) ?_
  refine Xx.tn (k3 _ _ _ _ ?_)
  refine Cx.condF rfl ?_
  refine Cx.skip ?_
  refine Xx.tn (k2 _ _ _ _ ?_)
  refine Cx.seq (fun K4 k4 => ?_)
  refine Cx.seq (fun K5 k5 => ?_)
  refine Cx.region ?_
  refine Lx.y (mv rfl) rfl ?_
  refine Lx.y (nilc rfl) rfl ?_
  refine Lx.y (fa' fo70_0 rfl) rfl ?_
  refine Lx.y (ldB Try.underlying22 rfl rfl hb rfl) rfl ?_
  refine Lx.y (lenV (ty' := 0) Try.underlying22 rfl) rfl ?_
  refine Lx.y (mv rfl) rfl ?_
  refine Lx.nil ?_
  refine Xx.tn (k5 _ _ _ _ ?_)
  refine Cx.block ?_
  refine Cx.unroll (2) ?_
  refine Xx.rn ?_
  refine Cx.seq (fun K6 k6 => ?_)
  refine Cx.region ?_
  refine Lx.y (Yx.tt (lss rfl rfl) rfl) rfl ?_
  refine Lx.nil ?_
  refine Xx.tn (k6 _ _ _ _ ?_)
  refine Cx.seq (fun K7 k7 => ?_)
  refine Cx.condT rfl ?_
  refine Cx.skip ?_
  refine Xx.tn (k7 _ _ _ _ ?_)
  refine Cx.seq (fun K8 k8 => ?_)
  refine Cx.block ?_
  refine Cx.seq (fun K9 k9 => ?_)
  refine Cx.region ?_
  refine Lx.y (mv rfl) rfl ?_
  refine Lx.y (ia Try.underlying22 sz9 rfl rfl (by first | exact Int.toNat_natCast _ | rfl) (by omega) (by omega)) rfl ?_
  refine Lx.y (ldB Try.underlying9 rfl rfl hB0 hv0) rfl ?_
  refine Lx.y (asg rfl) rfl ?_
  refine Lx.y (asg rfl) rfl ?_
  refine Lx.nil ?_
  refine Xx.tn (k9 _ _ _ _ ?_)
  refine Cx.seq (fun K10 k10 => ?_)
  refine Cx.region ?_
  refine Lx.y (mv rfl) rfl ?_
  refine Lx.y (mv rfl) rfl ?_
  refine Lx.y (Yx.ff (lssS rfl rfl) (bless_nil _)) rfl ?_
  refine Lx.y (mv rfl) rfl ?_
  refine Lx.gT rfl rfl rfl ?_
  refine Lx.y (mv rfl) rfl ?_
  refine Lx.gT rfl rfl rfl ?_
  refine Lx.y (Yx.ff (neS rfl rfl) (rfl)) rfl ?_
  refine Lx.gT rfl rfl rfl ?_
  refine Lx.y (mv rfl) rfl ?_
  refine Lx.gF rfl rfl rfl rfl ?_
  refine Lx.gF rfl rfl rfl rfl ?_
  refine Lx.gF rfl rfl rfl rfl ?_
  refine Lx.gT rfl rfl rfl ?_
  refine Lx.y (pickF rfl rfl) rfl ?_
  refine Lx.y (pickF rfl rfl) rfl ?_
  refine Lx.y (mv rfl) rfl ?_
  refine Lx.gT rfl rfl rfl ?_
  refine Lx.y (mv rfl) rfl ?_
  refine Lx.gT rfl rfl rfl ?_
  refine Lx.y (Yx.ff (gtr rfl rfl) (rfl)) rfl ?_
  refine Lx.gT rfl rfl rfl ?_
  refine Lx.y (mv rfl) rfl ?_
  refine Lx.gF rfl rfl rfl rfl ?_
  refine Lx.gF rfl rfl rfl rfl ?_
  refine Lx.gF rfl rfl rfl rfl ?_
  refine Lx.gF rfl rfl rfl rfl ?_
  refine Lx.gF rfl rfl rfl rfl ?_
  refine Lx.gF rfl rfl rfl rfl ?_
  refine Lx.gF rfl rfl rfl rfl ?_
  refine Lx.gF rfl rfl rfl rfl ?_
  refine Lx.gF rfl rfl rfl rfl ?_
  refine Lx.gF rfl rfl rfl rfl ?_
  refine Lx.gT rfl rfl rfl ?_
  refine Lx.y (pickF rfl rfl) rfl ?_
  refine Lx.y (pickF rfl rfl) rfl ?_
  refine Lx.nil ?_
  refine Xx.tn (k10 _ _ _ _ ?_)
  refine Cx.condF rfl ?_
  refine Cx.skip ?_
  refine Xx.bn ?_
  refine Xx.tn (k8 _ _ _ _ ?_)
  refine Cx.region ?_
  refine Lx.y (add rfl rfl (by first | exact wrap64 (by omega) (by omega) | rfl)) rfl ?_
  refine Lx.y (mv rfl) rfl ?_
  refine Lx.nil ?_
  refine Xx.tn ?_
  refine Xx.rn ?_
  refine Cx.seq (fun K11 k11 => ?_)
  refine Cx.region ?_
  refine Lx.y (Yx.ff (lss rfl rfl) rfl) rfl ?_
  refine Lx.nil ?_
  refine Xx.tn (k11 _ _ _ _ ?_)
  refine Cx.seq (fun K12 k12 => ?_)
  refine Cx.condF rfl ?_
  refine Cx.exit ?_
  refine Xx.te ?_
  refine Xx.te ?_
  refine Xx.bh ?_
  refine Xx.tn (k4 _ _ _ _ ?_)
  refine Cx.seq (fun K13 k13 => ?_)
  refine Cx.seq (fun K14 k14 => ?_)
  refine Cx.region ?_
  refine Lx.y (mv rfl) rfl ?_
  refine Lx.y (nilc rfl) rfl ?_
  refine Lx.y (fa' fo70_2 rfl) rfl ?_
  refine Lx.y (ldB Try.underlying68 rfl rfl hb rfl) rfl ?_
  refine Lx.y (lenV (ty' := 0) Try.underlying68 rfl) rfl ?_
  refine Lx.y (Yx.tt (eqI rfl rfl) rfl) rfl ?_
  refine Lx.nil ?_
  refine Xx.tn (k14 _ _ _ _ ?_)
  refine Cx.condT rfl ?_
  refine Cx.seq (fun K15 k15 => ?_)
  refine Cx.region ?_
  refine Lx.y (asg rfl) rfl ?_
  refine Lx.nil ?_
  refine Xx.tn (k15 _ _ _ _ ?_)
  refine Cx.ret ?_
  refine Xx.tr ?_
  exact Xx.rB1 rfl rfl ⟨rfl, rfl⟩ (Frag.le_refl _) rfl

set_option maxHeartbeats 1000000 in
theorem Deep_ro (c : C) (tb : Nat) (k : Str8) (n : Value) (fz : Nat × Nat) (B : Frag) (hok : Ok 90 1 c) (hk : c.ks = [k]) (hT : B tb = some (.cells [pt c, n].toArray 72 fz)) (hR : TrB B 1 c) : CtP Try.prog 21 [.pointer (some ⟨tb, 0, none⟩)] B (i64 1) := by
  have hc0 := leaf_of hok
  have hvl := hok.1
  obtain ⟨⟨fz2, hB⟩, hRk, _⟩ := hR
  unfold ncells at hB
  rw [hvl, hc0, hk] at hB
  rw [hk] at hRk
  refine CtB.of_body Try.func21 rfl (nt := 10) rfl (by kernel_rfl) rfl ?_
  intro N0 w0 R
  refine Cx.seq (fun K1 k1 => ?_)
  refine Cx.region ?_
  refine Lx.y (asg rfl) rfl ?_
  refine Lx.nil ?_
  refine Xx.tn (k1 _ _ _ _ ?_)
  refine Cx.seq (fun K2 k2 => ?_)
  refine Cx.seq (fun K3 k3 => ?_)
  refine Cx.region ?_
  refine Lx.y (mv rfl) rfl ?_
  refine Lx.y (Yx.ff (eqNilP Try.underlying26 rfl rfl) rfl) rfl ?_
  refine Lx.nil ?_
  refine Xx.tn (k3 _ _ _ _ ?_)
  refine Cx.condF rfl ?_
  refine Cx.skip ?_
  refine Xx.tn (k2 _ _ _ _ ?_)
  refine Cx.seq (fun K4 k4 => ?_)
  refine Cx.region ?_
  refine Lx.y (mv rfl) rfl ?_
  refine Lx.y (nilc rfl) rfl ?_
  refine Lx.y (fa' fo72_0 rfl) rfl ?_
  refine Lx.y (ldB Try.underlying67 rfl rfl hT rfl) rfl ?_
  refine Lx.cp rfl rfl rfl (sound_one c.b c.Ak c.Av c.Ac c.ck c.cv c.cc k fz2 _ hB hRk) rfl ?_
  refine Lx.y (asg rfl) rfl ?_
  refine Lx.nil ?_
  refine Xx.tn (k4 _ _ _ _ ?_)
  refine Cx.ret ?_
  exact Xx.rB1 rfl rfl ⟨rfl, rfl⟩ (Frag.le_refl _) rfl

theorem Deep_one (c : C) (tb : Nat) (k : Str8) (B : Frag) (hok : Ok 90 1 c) (hk : c.ks = [k]) : CtC Try.prog 21 [.pointer (some ⟨tb, 0, none⟩)] B (tree tb 0 c) (i64 1) (tree tb 0 c) := by
  refine CtC.lend (Go.SL.enters_of Try.func21 rfl (by kernel_rfl)) ?_
  rintro k0 ⟨k1, m1, d1, e1, h1, h2⟩ ha
  have l1 := un_le (B := B) e1 d1
  exact Deep_ro c tb k _ (0, 0) _ hok hk (l1.1 _ _ (row_ro h1 (ap_left ha e1))) ((tr_ro _ _ _ h2 (ap_right ha e1 d1) hok.fit).mono l1.2)

set_option maxHeartbeats 4000000 in
theorem awake_ct (B : Frag) : CtP Try.prog 9 [] B (.bool true) := by
  refine CtB.of_body Try.func9 rfl (nt := 53) rfl (by kernel_rfl) rfl ?_
  intro N0 w0 R
  refine Cx.seq (fun K1 k1 => ?_)
  refine Cx.region ?_
  refine Lx.y (asg rfl) rfl ?_
  refine Lx.nil ?_
  refine Xx.tn (k1 _ _ _ _ ?_)
  refine Cx.seq (fun K2 k2 => ?_)
  refine Cx.region ?_
  refine Lx.c rfl rfl rfl (New_ct _) ((one_star _).symm) rfl ?_
  rintro v B1 H1 ⟨hBB, tb, c0, rfl, rfl, ok0, e0⟩ hB1
  subst hBB
  rename Frag => B
  clear hB1
  have or0 : Ord (io (0 + 1) c0) := by rw [e0]; exact List.Pairwise.nil
  refine Lx.y (asg rfl) rfl ?_
  refine Lx.nil ?_
  refine Xx.tn (k2 _ _ _ _ ?_)
  refine Cx.seq (fun K3 k3 => ?_)
  refine Cx.region ?_
  refine Lx.y (mv rfl) rfl ?_
  refine Lx.c rfl rfl rfl (Put_ct 0 c0 tb ([98] : Str8) ([49] : Str8) _ ok0 or0 (by rw [e0]; decide)) (rfl) rfl ?_
  rintro r1 B1 H1 ⟨hBB, d1, c1, hr1, rfl, ok1, io1, hd1⟩ hB1
  subst hBB
  rename Frag => B
  clear hB1
  obtain rfl : r1 = .bool true := by rw [hr1, e0]; rfl
  obtain rfl := hd1 (by have := ks_le ok0; rw [e0] at this; exact Nat.lt_of_le_of_lt this (by decide))
  have e1 : io (0 + 1) c1 = [([98], [49])] := by rw [io1, e0]; rfl
  have or1 : Ord (io (0 + 1) c1) := by rw [e1]; exact List.pairwise_singleton _ _
  refine Lx.y (mv rfl) rfl ?_
  refine Lx.c rfl rfl rfl (Put_ct 0 c1 tb ([97] : Str8) ([50] : Str8) _ ok1 or1 (by rw [e1]; decide)) (rfl) rfl ?_
  rintro r2 B1 H1 ⟨hBB, d2, c2, hr2, rfl, ok2, io2, hd2⟩ hB1
  subst hBB
  rename Frag => B
  clear hB1
  obtain rfl : r2 = .bool true := by rw [hr2, e1]; rfl
  obtain rfl := hd2 (by have := ks_le ok1; rw [e1] at this; exact Nat.lt_of_le_of_lt this (by decide))
  have e2 : io (0 + 1) c2 = [([97], [50]), ([98], [49])] := by rw [io2, e1]; rfl
  have or2 : Ord (io (0 + 1) c2) := by rw [e2]; exact List.pairwise_cons.2 ⟨fun p hp => by rcases List.mem_singleton.1 hp with rfl; rfl, List.pairwise_singleton _ _⟩
  refine Lx.y (asg rfl) rfl ?_
  refine Lx.y (asg rfl) rfl ?_
  refine Lx.nil ?_
  refine Xx.tn (k3 _ _ _ _ ?_)
  refine Cx.seq (fun K4 k4 => ?_)
  refine Cx.region ?_
  refine Lx.y (mv rfl) rfl ?_
  refine Lx.c rfl rfl rfl (Put_ct 0 c2 tb ([98] : Str8) ([51] : Str8) _ ok2 or2 (by rw [e2]; decide)) (rfl) rfl ?_
  rintro r3 B1 H1 ⟨hBB, d3, c3, hr3, rfl, ok3, io3, hd3⟩ hB1
  subst hBB
  rename Frag => B
  clear hB1
  obtain rfl : r3 = .bool false := by rw [hr3, e2]; rfl
  obtain rfl := hd3 (by have := ks_le ok2; rw [e2] at this; exact Nat.lt_of_le_of_lt this (by decide))
  have e3 : io (0 + 1) c3 = [([97], [50]), ([98], [51])] := by rw [io3, e2]; rfl
  have or3 : Ord (io (0 + 1) c3) := by rw [e3]; exact List.pairwise_cons.2 ⟨fun p hp => by rcases List.mem_singleton.1 hp with rfl; rfl, List.pairwise_singleton _ _⟩
  refine Lx.y (asg rfl) rfl ?_
  refine Lx.nil ?_
  refine Xx.tn (k4 _ _ _ _ ?_)
  refine Cx.seq (fun K5 k5 => ?_)
  refine Cx.region ?_
  refine Lx.y (mv rfl) rfl ?_
  refine Lx.co rfl rfl rfl (Get_ct 90 0 (by decide) c3 tb ([98] : Str8) _ ok3 or3) (rfl) rfl ?_
  refine Lx.y (mv rfl) rfl ?_
  refine Lx.y (Yx.val (ext rfl rfl) (show _ = str ([51] : Str8) by rw [e3]; rfl)) rfl ?_
  refine Lx.y (Yx.tt (ext rfl rfl) (by rw [e3]; rfl)) rfl ?_
  refine Lx.y (asg rfl) rfl ?_
  refine Lx.y (asg rfl) rfl ?_
  refine Lx.nil ?_
  refine Xx.tn (k5 _ _ _ _ ?_)
  refine Cx.seq (fun K6 k6 => ?_)
  refine Cx.region ?_
  refine Lx.y (mv rfl) rfl ?_
  refine Lx.y (mv rfl) rfl ?_
  refine Lx.gT rfl rfl rfl ?_
  refine Lx.y (mv rfl) rfl ?_
  refine Lx.y (pickT rfl rfl) rfl ?_
  refine Lx.y (mv rfl) rfl ?_
  refine Lx.gT rfl rfl rfl ?_
  refine Lx.y (mv rfl) rfl ?_
  refine Lx.gT rfl rfl rfl ?_
  refine Lx.y (not' rfl) rfl ?_
  refine Lx.y (pickT rfl rfl) rfl ?_
  refine Lx.y (mv rfl) rfl ?_
  refine Lx.gT rfl rfl rfl ?_
  refine Lx.y (mv rfl) rfl ?_
  refine Lx.y (pickT rfl rfl) rfl ?_
  refine Lx.y (mv rfl) rfl ?_
  refine Lx.gT rfl rfl rfl ?_
  refine Lx.y (mv rfl) rfl ?_
  refine Lx.gT rfl rfl rfl ?_
  refine Lx.y (Yx.tt (eqS rfl rfl) rfl) rfl ?_
  refine Lx.y (pickT rfl rfl) rfl ?_
  refine Lx.y (mv rfl) rfl ?_
  refine Lx.gT rfl rfl rfl ?_
  refine Lx.y (mv rfl) rfl ?_
  refine Lx.gT rfl rfl rfl ?_
  refine Lx.co rfl rfl rfl (Len_ct tb _ _ _) (star_assoc _ _ _) rfl ?_
  refine Lx.gT rfl rfl rfl ?_
  refine Lx.y (Yx.tt (eqI rfl rfl) (by rw [e3]; rfl)) rfl ?_
  refine Lx.y (pickT rfl rfl) rfl ?_
  refine Lx.y (mv rfl) rfl ?_
  have hks : c3.ks = [[97], [98]] := by
    have h9 := zip_keys ok3.1
    rw [← leaf_io ok3, show io 1 c3 = _ from e3] at h9; exact h9.symm
  refine Lx.gT rfl rfl rfl ?_
  refine Lx.y (mv rfl) rfl ?_
  refine Lx.gT rfl rfl rfl ?_
  refine Lx.c rfl rfl rfl (Drop_leaf c3 tb ([97] : Str8) _ ok3 or3 (by rw [hks]; simp)) ((star_assoc _ _ _).symm) rfl ?_
  rintro r4 B1 H1 ⟨rfl, hBB, c4, rfl, ok4, hk4, hv4⟩ hB1
  subst hBB
  rename Frag => B
  clear hB1
  have hks4 : c4.ks = [[98]] := by rw [hk4, hks]; rfl
  have hl4 : (io (0 + 1) c4).length = 1 := by rw [show (io (0 + 1) c4).length = (io 1 c4).length from rfl, leaf_len ok4, hks4]; rfl
  refine Lx.y (pickT rfl rfl) rfl ?_
  refine Lx.y (mv rfl) rfl ?_
  refine Lx.gT rfl rfl rfl ?_
  refine Lx.y (mv rfl) rfl ?_
  refine Lx.gT rfl rfl rfl ?_
  refine Lx.co rfl rfl rfl (Len_ct tb _ _ _) (star_assoc _ _ _) rfl ?_
  refine Lx.gT rfl rfl rfl ?_
  refine Lx.y (Yx.tt (eqI rfl rfl) (by rw [hl4]; rfl)) rfl ?_
  refine Lx.y (pickT rfl rfl) rfl ?_
  refine Lx.y (mv rfl) rfl ?_
  refine Lx.gT rfl rfl rfl ?_
  refine Lx.y (mv rfl) rfl ?_
  refine Lx.gT rfl rfl rfl ?_
  refine Lx.co rfl rfl rfl (Deep_one c4 tb ([98] : Str8) _ ok4 hks4) ((star_assoc _ _ _).symm) rfl ?_
  refine Lx.gT rfl rfl rfl ?_
  refine Lx.y (Yx.tt (eqI rfl rfl) rfl) rfl ?_
  refine Lx.y (pickT rfl rfl) rfl ?_
  refine Lx.y (asg rfl) rfl ?_
  refine Lx.nil ?_
  refine Xx.tn (k6 _ _ _ _ ?_)
  refine Cx.ret ?_
  exact Xx.drop (Xx.rB1 rfl rfl ⟨rfl, rfl⟩ (Frag.le_refl _) rfl)
end BtP
end Go.Proofs.Ytcoiejmlpinpbaa
