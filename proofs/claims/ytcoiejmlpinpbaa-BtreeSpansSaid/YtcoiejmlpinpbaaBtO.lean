/-
  A key dropped from a tree that is one leaf; how deep that is.
-/
import Derived.Test.YtcoiejmlpinpbaaProg
import Derived.Test.YtcoiejmlpinpbaaSlj
import Derived.Test.YtcoiejmlpinpbaaBtN
namespace Go.Proofs.Ytcoiejmlpinpbaa
open Go.SL Go.RowKit
set_option linter.unusedVariables false
set_option linter.unusedSimpArgs false
set_option maxRecDepth 100000
open BtA BtB BtC BtD BtE BtG BtH BtI BtF BtJ BtK BtL BtM BtN
namespace BtO
theorem sz3 : (Try.prog.info? 3).map (·.size) = some 1 := by kernel_rfl
theorem sz22 : (Try.prog.info? 22).map (·.size) = some 1 := by kernel_rfl
theorem fo70_0 : FO Try.prog 70 0 0 1 false := FO.of Try.underlying70 rfl rfl (by kernel_rfl) Try.underlying22 rfl rfl
theorem fo70_1 : FO Try.prog 70 1 1 1 false := FO.of Try.underlying70 rfl rfl (by kernel_rfl) Try.underlying22 rfl rfl
theorem fo70_2 : FO Try.prog 70 2 2 1 false := FO.of Try.underlying70 rfl rfl (by kernel_rfl) Try.underlying68 rfl rfl
theorem fo72_0 : FO Try.prog 72 0 0 1 false := FO.of Try.underlying72 rfl rfl (by kernel_rfl) Try.underlying67 rfl rfl
theorem fo72_1 : FO Try.prog 72 1 1 1 false := FO.of Try.underlying72 rfl rfl (by kernel_rfl) Try.underlying3 rfl rfl

set_option maxHeartbeats 4000000 in
theorem drop_leaf (b : Nat) (Ak Av Ac : Option Addr) (ck cv cc : Nat) (ks vs : List Str8) (k : Str8) (B : Frag) (hv : vs.length = ks.length) (hs : Srt ks) (hk : k ∈ ks) (hn : ks.length ≤ 90) : Ct Try.prog 41 [.pointer (some ⟨b, 0, none⟩), str k] B (row b 70 [.slice Ak ks.length ck, .slice Av ks.length cv, .slice Ac 0 cc] * (sbuf 9 1 Ak ks.length ck (ks.map str) * sbuf 9 1 Av ks.length cv (vs.map str))) (fun v B' H' => v = .bool true ∧ B' = B ∧ H' = row b 70 [.slice Ak (ks.length - 1) ck, .slice Av (ks.length - 1) cv, .slice Ac 0 cc] * (sbuf 9 1 Ak (ks.length - 1) ck ((ks.map str).take (lb ks k) ++ (ks.map str).drop (lb ks k + 1)) * sbuf 9 1 Av (ks.length - 1) cv ((vs.map str).take (lb ks k) ++ (vs.map str).drop (lb ks k + 1)))) := by
  obtain ⟨hlt, hat⟩ := lb_mem hs hk
  refine Ct.of_body Try.func41 rfl (nt := 93) rfl (by kernel_rfl) rfl ?_
  intro N0 w0 R
  simp only [star_assoc]
  refine Cx.seq (fun K1 k1 => ?_)
  refine Cx.region ?_
  refine Lx.y (asg rfl) rfl ?_
  refine Lx.nil ?_
  refine Xx.tn (k1 _ _ _ _ ?_)
  refine Cx.seq (fun K2 k2 => ?_)
  refine Cx.region ?_
  refine Lx.y (mv rfl) rfl ?_
  refine Lx.y (nilc rfl) rfl ?_
  refine Lx.y (fa' fo70_0 rfl) rfl ?_
  refine Lx.y (ld Try.underlying22 rfl rfl rfl) rfl ?_
  refine Lx.y (mv rfl) rfl ?_
  refine Lx.co rfl rfl rfl (BSo_ct ks k Ak ck ks.length _ rfl hs (by omega)) (pickS _) rfl ?_
  refine Lx.y (mv rfl) rfl ?_
  refine Lx.y (ext rfl rfl) rfl ?_
  refine Lx.y (Yx.tt (ext rfl rfl) (decide_eq_true hk)) rfl ?_
  refine Lx.y (asg rfl) rfl ?_
  refine Lx.y (asg rfl) rfl ?_
  refine Lx.nil ?_
  refine Xx.tn (k2 _ _ _ _ ?_)
  refine Cx.seq (fun K3 k3 => ?_)
  refine Cx.block ?_
  refine Cx.seq (fun K4 k4 => ?_)
  refine Cx.region ?_
  refine Lx.y (mv rfl) rfl ?_
  refine Lx.y (nilc rfl) rfl ?_
  refine Lx.y (fa' fo70_2 rfl) rfl ?_
  refine Lx.y (ld Try.underlying68 rfl rfl rfl) rfl ?_
  refine Lx.y (lenV (ty' := 0) Try.underlying68 rfl) rfl ?_
  refine Lx.y (Yx.tt (eqI rfl rfl) rfl) rfl ?_
  refine Lx.y (mv rfl) rfl ?_
  refine Lx.gT rfl rfl rfl ?_
  refine Lx.y (mv rfl) rfl ?_
  refine Lx.y (pickT rfl rfl) rfl ?_
  refine Lx.y (asg rfl) rfl ?_
  refine Lx.nil ?_
  refine Xx.tn (k4 _ _ _ _ ?_)
  refine Cx.condT rfl ?_
  refine Cx.seq (fun K5 k5 => ?_)
  refine Cx.drawn (by kernel_rfl) ?_
  refine Dx.p (i := 0) rfl (by kernel_rfl) (mv rfl) rfl ?_
  refine Dx.p (i := 1) rfl (by kernel_rfl) (mv rfl) rfl ?_
  refine Dx.p (i := 2) rfl (by kernel_rfl) (mv rfl) rfl ?_
  refine Dx.p (i := 3) rfl (by kernel_rfl) (nilc rfl) rfl ?_
  refine Dx.p (i := 4) rfl (by kernel_rfl) (fa' fo70_0 rfl) rfl ?_
  refine Dx.r (i := 5) rfl (by kernel_rfl) (ld Try.underlying22 rfl rfl rfl) rfl ?_
  refine Dx.p (i := 6) rfl (by kernel_rfl) (mv rfl) rfl ?_
  refine Dx.p (i := 7) rfl (by kernel_rfl) (mv rfl) rfl ?_
  refine Dx.p (i := 8) rfl (by kernel_rfl) (Yx.val (add rfl rfl (by first | exact wrap64 (by omega) (by omega) | rfl)) (show _ = i64 ((lb ks k + 1 : Nat) : Int) from rfl)) rfl ?_
  refine Dx.p (i := 10) rfl (by kernel_rfl) (mv rfl) rfl ?_
  refine Dx.p (i := 11) rfl (by kernel_rfl) (nilc rfl) rfl ?_
  refine Dx.p (i := 12) rfl (by kernel_rfl) (fa' fo70_1 rfl) rfl ?_
  refine Dx.r (i := 13) rfl (by kernel_rfl) (ld Try.underlying22 rfl rfl rfl) rfl ?_
  refine Dx.p (i := 14) rfl (by kernel_rfl) (mv rfl) rfl ?_
  refine Dx.p (i := 15) rfl (by kernel_rfl) (mv rfl) rfl ?_
  refine Dx.p (i := 16) rfl (by kernel_rfl) (Yx.val (add rfl rfl (by first | exact wrap64 (by omega) (by omega) | rfl)) (show _ = i64 ((lb ks k + 1 : Nat) : Int) from rfl)) rfl ?_
  refine Dx.one (i := 9) (by kernel_rfl) ?_
  refine Dstep.o (i := 9) rfl (Ox.call rfl rfl rfl (Del_ct Ak (lb ks k) ks.length ck _ _ (by omega) (by rw [List.length_map]) (strs_all _) (by omega)) (pickS _)) rfl (fun v B' H' hΦ hB => ?_)
  obtain ⟨_, rfl, hΦ⟩ := hΦ
  obtain ⟨rfl, hBB, rfl⟩ := hΦ
  subst hBB
  rename Frag => B
  clear hB
  refine ⟨JOk.yes (JOk.edge (JOk.top) (by kernel_rfl)) (ld Try.underlying22 rfl rfl rfl), ?_⟩
  refine Dx.one (i := 17) (by kernel_rfl) ?_
  refine Dstep.o (i := 17) rfl (Ox.call rfl rfl rfl (Del_ct Av (lb ks k) ks.length cv _ _ (by omega) (by rw [List.length_map]; exact hv) (strs_all _) (by omega)) (pickS _)) rfl (fun v B' H' hΦ hB => ?_)
  obtain ⟨_, rfl, hΦ⟩ := hΦ
  obtain ⟨rfl, hBB, rfl⟩ := hΦ
  subst hBB
  rename Frag => B
  clear hB
  refine ⟨JOk.edge (JOk.yes (JOk.top) (ld Try.underlying22 rfl rfl rfl)) (by kernel_rfl), ?_⟩
  refine Dx.p (i := 18) rfl (by kernel_rfl) (nilc rfl) rfl ?_
  refine Dx.p (i := 19) rfl (by kernel_rfl) (fa' fo70_0 rfl) rfl ?_
  refine Dx.one (i := 20) (by kernel_rfl) ?_
  refine Dstep.o0 (i := 20) rfl (stO Try.underlying22 sz22 rfl rfl rfl (by simp) rfl) (fun v B' H' hΦ hB => ?_)
  obtain ⟨rfl, rfl⟩ := hΦ; clear hB v
  refine ⟨JOk.edge (JOk.edge (JOk.top) (by kernel_rfl)) (by kernel_rfl), ?_⟩
  refine Dx.p (i := 21) rfl (by kernel_rfl) (nilc rfl) rfl ?_
  refine Dx.p (i := 22) rfl (by kernel_rfl) (fa' fo70_1 rfl) rfl ?_
  refine Dx.one (i := 23) (by kernel_rfl) ?_
  refine Dstep.o0 (i := 23) rfl (stO Try.underlying22 sz22 rfl rfl rfl (by simp) rfl) (fun v B' H' hΦ hB => ?_)
  obtain ⟨rfl, rfl⟩ := hΦ; clear hB v
  refine ⟨JOk.edge (JOk.edge (JOk.top) (by kernel_rfl)) (by kernel_rfl), ?_⟩
  refine Dx.done (by kernel_rfl) ?_
  refine Xx.tn (k5 _ _ _ _ ?_)
  refine Cx.seq (fun K6 k6 => ?_)
  refine Cx.region ?_
  refine Lx.y (asg rfl) rfl ?_
  refine Lx.nil ?_
  refine Xx.tn (k6 _ _ _ _ ?_)
  refine Cx.ret ?_
  refine Xx.br ?_
  refine Xx.tr ?_
  exact Xx.ret1 rfl rfl ⟨rfl, rfl, rfl⟩ (Frag.le_refl _) (by ac_rfl)

theorem leaf_of {N : Nat} {c : C} (hok : Ok N 1 c) : c.cs = [] := by
  cases h : c.cs with
  | nil => rfl
  | cons p l => exact (hok.2.2.2 p (by rw [h]; simp)).elim
theorem leaf_io {N : Nat} {c : C} (hok : Ok N 1 c) : io 1 c = c.ks.zip c.vs := by
  show ioL (io 0) c.ks c.vs c.cs = _
  rw [leaf_of hok]; exact io_leaf _ _ _ hok.1
theorem leaf_len {N : Nat} {c : C} (hok : Ok N 1 c) : (io 1 c).length = c.ks.length := by
  rw [leaf_io hok, List.length_zip, hok.1, Nat.min_self]
theorem leaf_tr {c : C} (h : c.cs = []) : tr 1 c = row c.b 70 [.slice c.Ak c.ks.length c.ck, .slice c.Av c.vs.length c.cv, .slice c.Ac 0 c.cc] * (kbuf c * (vbuf c * sbuf 67 1 c.Ac 0 c.cc [])) := by
  rw [tr_succ, h]
  simp only [nrow, ncells, cbuf, h, trs, star_one, List.map_nil, List.length_nil]

set_option maxHeartbeats 4000000 in
theorem Drop_leaf (c : C) (tb : Nat) (k : Str8) (B : Frag) (hok : Ok 90 1 c) (ho : Ord (io 1 c)) (hk : k ∈ c.ks) : Ct Try.prog 19 [.pointer (some ⟨tb, 0, none⟩), str k] B (tree tb 0 c) (fun v B' H' => v = .bool true ∧ B' = B ∧ ∃ c', H' = tree tb 0 c' ∧ Ok 90 1 c' ∧ c'.ks = c.ks.take (lb c.ks k) ++ c.ks.drop (lb c.ks k + 1) ∧ c'.vs = c.vs.take (lb c.ks k) ++ c.vs.drop (lb c.ks k + 1)) := by
  have hc0 := leaf_of hok
  have hlen := leaf_len hok
  have hsk := srt_of hok ho
  have hvl := hok.1
  have hkl := hok.2.1
  obtain ⟨hlt, hat⟩ := lb_mem hsk hk
  have htr := leaf_tr hc0
  obtain ⟨b, Ak, ck, Av, cv, Ac, cc, ks, vs, cs⟩ := c
  simp only [C.b, C.Ak, C.ck, C.Av, C.cv, C.Ac, C.cc, C.ks, C.vs, C.cs] at hc0 hlen hsk hvl hkl hlt hat hk ⊢
  subst hc0
  unfold tree
  rw [hlen, htr]
  simp only [kbuf, vbuf, C.b, C.Ak, C.ck, C.Av, C.cv, C.Ac, C.cc, C.ks, C.vs, C.cs, hvl]
  have hpt : pt (.mk b Ak ck Av cv Ac cc ks vs []) = .pointer (some ⟨b, 0, none⟩) := rfl
  rw [hpt]
  refine Ct.of_body Try.func19 rfl (nt := 55) rfl (by kernel_rfl) rfl ?_
  intro N0 w0 R
  simp only [star_assoc]
  refine Cx.seq (fun K1 k1 => ?_)
  refine Cx.region ?_
  refine Lx.y (asg rfl) rfl ?_
  refine Lx.nil ?_
  refine Xx.tn (k1 _ _ _ _ ?_)
  refine Cx.seq (fun K2 k2 => ?_)
  refine Cx.seq (fun K3 k3 => ?_)
  refine Cx.region ?_
  refine Lx.y (mv rfl) rfl ?_
  refine Lx.y (Yx.ff (eqNilP Try.underlying26 rfl rfl) rfl) rfl ?_
  refine Lx.y (mv rfl) rfl ?_
  refine Lx.gT rfl rfl rfl ?_
  refine Lx.y (mv rfl) rfl ?_
  refine Lx.gT rfl rfl rfl ?_
  refine Lx.y (nilc rfl) rfl ?_
  refine Lx.gT rfl rfl rfl ?_
  refine Lx.y (fa' fo72_0 rfl) rfl ?_
  refine Lx.gT rfl rfl rfl ?_
  refine Lx.y (ld Try.underlying67 rfl rfl rfl) rfl ?_
  refine Lx.gT rfl rfl rfl ?_
  refine Lx.y (mv rfl) rfl ?_
  refine Lx.gT rfl rfl rfl ?_
  refine Lx.c rfl rfl rfl (drop_leaf b Ak Av Ac ck cv cc ks vs k _ hvl hsk hk hkl) ((show _ = (row b 70 [.slice Ak ks.length ck, .slice Av ks.length cv, .slice Ac 0 cc] * (sbuf 9 1 Ak ks.length ck (ks.map str) * sbuf 9 1 Av ks.length cv (vs.map str))) * (row tb 72 [.pointer (some ⟨b, 0, none⟩), i64 (ks.length : Nat)] * (sbuf 67 1 Ac 0 cc [] * R)) by ac_rfl)) rfl ?_
  rintro r B1 H1 ⟨rfl, hBB, rfl⟩ hB1
  subst hBB
  rename Frag => B
  clear hB1
  simp only [star_assoc]
  refine Lx.gT rfl rfl rfl ?_
  refine Lx.y (Yx.ff (not' rfl) rfl) rfl ?_
  refine Lx.y (pickF rfl rfl) rfl ?_
  refine Lx.nil ?_
  refine Xx.tn (k3 _ _ _ _ ?_)
  refine Cx.condF rfl ?_
  refine Cx.skip ?_
  refine Xx.tn (k2 _ _ _ _ ?_)
  refine Cx.seq (fun K4 k4 => ?_)
  refine Cx.region ?_
  refine Lx.y (mv rfl) rfl ?_
  refine Lx.y (nilc rfl) rfl ?_
  refine Lx.y (fa' fo72_1 rfl) rfl ?_
  refine Lx.y (ld Try.underlying3 rfl rfl rfl) rfl ?_
  refine Lx.y (Yx.val (sub rfl rfl (show IntKind.i64.wrap _ = ((ks.length - 1 : Nat) : Int) by rw [wrap64 (by omega) (by omega)]; omega)) (show _ = i64 ((ks.length - 1 : Nat) : Int) from rfl)) rfl ?_
  refine Lx.y (nilc rfl) rfl ?_
  refine Lx.y (fa' fo72_1 rfl) rfl ?_
  refine Lx.st (stO Try.underlying3 sz3 rfl rfl rfl (by simp) rfl) ?_
  refine Lx.nil ?_
  refine Xx.tn (k4 _ _ _ _ ?_)
  refine Cx.seq (fun K5 k5 => ?_)
  refine Cx.seq (fun K6 k6 => ?_)
  refine Cx.region ?_
  refine Lx.y (mv rfl) rfl ?_
  refine Lx.y (nilc rfl) rfl ?_
  refine Lx.y (fa' fo72_0 rfl) rfl ?_
  refine Lx.y (ld Try.underlying67 rfl rfl rfl) rfl ?_
  refine Lx.y (nilc rfl) rfl ?_
  refine Lx.y (fa' fo70_0 rfl) rfl ?_
  refine Lx.y (ld Try.underlying22 rfl rfl rfl) rfl ?_
  refine Lx.y (lenV (ty' := 0) Try.underlying22 rfl) rfl ?_
  refine Lx.y (eqI rfl rfl) rfl ?_
  refine Lx.y (mv rfl) rfl ?_
  refine Xx.ifD (t := 32) rfl (fun h7 => ?_) (fun h7 => ?_)
  · skip
    refine Lx.gT rfl rfl rfl ?_
    refine Lx.y (mv rfl) rfl ?_
    refine Lx.gT rfl rfl rfl ?_
    refine Lx.y (nilc rfl) rfl ?_
    refine Lx.gT rfl rfl rfl ?_
    refine Lx.y (fa' fo72_0 rfl) rfl ?_
    refine Lx.gT rfl rfl rfl ?_
    refine Lx.y (ld Try.underlying67 rfl rfl rfl) rfl ?_
    refine Lx.gT rfl rfl rfl ?_
    refine Lx.y (nilc rfl) rfl ?_
    refine Lx.gT rfl rfl rfl ?_
    refine Lx.y (fa' fo70_2 rfl) rfl ?_
    refine Lx.gT rfl rfl rfl ?_
    refine Lx.y (ld Try.underlying68 rfl rfl rfl) rfl ?_
    refine Lx.gT rfl rfl rfl ?_
    refine Lx.y (lenV (ty' := 0) Try.underlying68 rfl) rfl ?_
    refine Lx.gT rfl rfl rfl ?_
    refine Lx.y (Yx.ff (gtr rfl rfl) rfl) rfl ?_
    refine Lx.y (pickT rfl rfl) rfl ?_
    refine Lx.nil ?_
    refine Xx.tn (k6 _ _ _ _ ?_)
    refine Cx.condF rfl ?_
    refine Cx.skip ?_
    refine Xx.tn (k5 _ _ _ _ ?_)
    refine Cx.seq (fun K8 k8 => ?_)
    refine Cx.region ?_
    refine Lx.y (asg rfl) rfl ?_
    refine Lx.nil ?_
    refine Xx.tn (k8 _ _ _ _ ?_)
    refine Cx.ret ?_
    refine Xx.ret1 rfl rfl ⟨rfl, rfl, .mk b Ak ck Av cv Ac cc (ks.take (lb ks k) ++ ks.drop (lb ks k + 1)) (vs.take (lb ks k) ++ vs.drop (lb ks k + 1)) [], rfl, ⟨by show (vs.take _ ++ vs.drop _).length = (ks.take _ ++ ks.drop _).length; simp; omega, by show (ks.take _ ++ ks.drop _).length ≤ 90; simp; omega, .inl rfl, fun p hp => by cases hp⟩, rfl, rfl⟩ (Frag.le_refl _) ?_
    have l1 : (ks.take (lb ks k) ++ ks.drop (lb ks k + 1)).length = ks.length - 1 := by simp; omega
    have l2 : (vs.take (lb ks k) ++ vs.drop (lb ks k + 1)).length = ks.length - 1 := by simp; omega
    simp only [Nat.zero_add]
    have hok9 : Ok 90 1 (.mk b Ak ck Av cv Ac cc (ks.take (lb ks k) ++ ks.drop (lb ks k + 1)) (vs.take (lb ks k) ++ vs.drop (lb ks k + 1)) []) := ⟨l2.trans l1.symm, by show (ks.take (lb ks k) ++ ks.drop (lb ks k + 1)).length ≤ 90; omega, .inl rfl, fun p hp => by cases hp⟩
    rw [leaf_len hok9, leaf_tr (leaf_of hok9)]
    simp only [kbuf, vbuf, pt, C.b, C.Ak, C.ck, C.Av, C.cv, C.Ac, C.cc, C.ks, C.vs, C.cs, l1, l2, List.map_append, List.map_take, List.map_drop]
    ac_rfl
  · skip
    refine Lx.gF rfl rfl rfl rfl ?_
    refine Lx.gF rfl rfl rfl rfl ?_
    refine Lx.gF rfl rfl rfl rfl ?_
    refine Lx.gF rfl rfl rfl rfl ?_
    refine Lx.gF rfl rfl rfl rfl ?_
    refine Lx.gF rfl rfl rfl rfl ?_
    refine Lx.gF rfl rfl rfl rfl ?_
    refine Lx.gF rfl rfl rfl rfl ?_
    refine Lx.gF rfl rfl rfl rfl ?_
    refine Lx.y (pickF rfl rfl) rfl ?_
    refine Lx.nil ?_
    refine Xx.tn (k6 _ _ _ _ ?_)
    refine Cx.condF rfl ?_
    refine Cx.skip ?_
    refine Xx.tn (k5 _ _ _ _ ?_)
    refine Cx.seq (fun K9 k9 => ?_)
    refine Cx.region ?_
    refine Lx.y (asg rfl) rfl ?_
    refine Lx.nil ?_
    refine Xx.tn (k9 _ _ _ _ ?_)
    refine Cx.ret ?_
    refine Xx.ret1 rfl rfl ⟨rfl, rfl, .mk b Ak ck Av cv Ac cc (ks.take (lb ks k) ++ ks.drop (lb ks k + 1)) (vs.take (lb ks k) ++ vs.drop (lb ks k + 1)) [], rfl, ⟨by show (vs.take _ ++ vs.drop _).length = (ks.take _ ++ ks.drop _).length; simp; omega, by show (ks.take _ ++ ks.drop _).length ≤ 90; simp; omega, .inl rfl, fun p hp => by cases hp⟩, rfl, rfl⟩ (Frag.le_refl _) ?_
    have l1 : (ks.take (lb ks k) ++ ks.drop (lb ks k + 1)).length = ks.length - 1 := by simp; omega
    have l2 : (vs.take (lb ks k) ++ vs.drop (lb ks k + 1)).length = ks.length - 1 := by simp; omega
    simp only [Nat.zero_add]
    have hok9 : Ok 90 1 (.mk b Ak ck Av cv Ac cc (ks.take (lb ks k) ++ ks.drop (lb ks k + 1)) (vs.take (lb ks k) ++ vs.drop (lb ks k + 1)) []) := ⟨l2.trans l1.symm, by show (ks.take (lb ks k) ++ ks.drop (lb ks k + 1)).length ≤ 90; omega, .inl rfl, fun p hp => by cases hp⟩
    rw [leaf_len hok9, leaf_tr (leaf_of hok9)]
    simp only [kbuf, vbuf, pt, C.b, C.Ak, C.ck, C.Av, C.cv, C.Ac, C.cc, C.ks, C.vs, C.cs, l1, l2, List.map_append, List.map_take, List.map_drop]
    ac_rfl
end BtO
end Go.Proofs.Ytcoiejmlpinpbaa
