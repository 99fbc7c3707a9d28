/-
  The walk of the law of spans.
-/
import Derived.Test.YtcoiejmlpinpbaaProg
import Derived.Test.YtcoiejmlpinpbaaSlj
import Derived.Test.YtcoiejmlpinpbaaBtU
namespace Go.Proofs.Ytcoiejmlpinpbaa
open Go.SL Go.RowKit
set_option linter.unusedVariables false
set_option linter.unusedSimpArgs false
set_option maxRecDepth 100000
open BtA BtB BtC BtD BtE BtG BtH BtI BtF BtJ BtK BtL BtM BtN BtO BtP BtQ BtR BtS BtT BtU
namespace BtV
theorem sz9 : (Try.prog.info? 9).map (·.size) = some 1 := by kernel_rfl
theorem sz24 : (Try.prog.info? 24).map (·.size) = some 2 := by kernel_rfl
theorem sz77 : (Try.prog.info? 77).map (·.size) = some 2 := by kernel_rfl
theorem ti77 : TI Try.prog 77 [str [], str []] 2 32 := TI.of (by kernel_rfl) rfl rfl

theorem and7_le (n : Int) : (BitVec.ofInt 64 n &&& BitVec.ofInt 64 7).toNat ≤ 7 := by
  rw [BitVec.toNat_and]
  exact Nat.and_le_right
theorem and7 (n : Int) : Value.int .i64 (bAnd .i64 n 7) = i64 ((BitVec.ofInt 64 n &&& BitVec.ofInt 64 7).toNat : Nat) := by
  have h := and7_le n
  show Value.int .i64 (IntKind.i64.wrap (((BitVec.ofInt 64 n &&& BitVec.ofInt 64 7).toNat : Nat) : Int)) = _
  rw [wrap64 (by omega) (by omega)]
/-- What is owned is only read from here on. -/
theorem freezeP {e : Env} {ds : List Deferred} {K : Act → World → Prop} {ρ : Sl} {B : Frag} {p R : HP} (h : ∀ k : Frag, p k → k.apart B → Xx e ds K ρ (Frag.un B k) R) : Xx e ds K ρ B (p * R) := fun a w f b s => by
  obtain ⟨k, hk, hap, s', _⟩ := s.lend
  exact h k hk hap a w f b s'
theorem freeze_tree {e : Env} {ds : List Deferred} {K : Act → World → Prop} {ρ : Sl} {B : Frag} {R : HP} {tb d : Nat} {nd : C} (hok : Ok 90 (d + 1) nd)
    (h : ∀ B', B.le B' → B' tb = some (.cells [pt nd, i64 (((io (d + 1) nd).length : Nat) : Int)].toArray 72 (0, 0)) → TrB B' (d + 1) nd → Xx e ds K ρ B' R) : Xx e ds K ρ B (tree tb d nd * R) := by
  refine freezeP ?_
  rintro k ⟨k1, m1, d1, e1, h1, h2⟩ ha
  have l1 := un_le (B := B) e1 d1
  exact h _ (Frag.le_un B k) (l1.1 _ _ (row_ro h1 (ap_left ha e1))) ((tr_ro _ _ _ h2 (ap_right ha e1 d1) hok.fit).mono l1.2)
theorem insP_le {k v : Str8} {l : List (Str8 × Str8)} (h : Ord l) : (insP k v l).length ≤ l.length + 1 := by
  rw [insP_len h]; split <;> omega

set_option maxHeartbeats 4000000 in
theorem BtreeSpans_ct (xs : List Str8) (A : Option Addr) (c : Nat) (lo hi : Str8) (stop : Int) (B : Frag) (hK : RoE B A xs.length (xs.map str)) (hn : xs.length ≤ 9223372036854775807) : CtB Try.prog 3 [.slice A xs.length c, .agg [str lo, str hi].toArray, i64 stop] B (fun v' _ => v' = .bool true) := by
  refine CtB.of_body Try.func3 rfl (nt := 69) rfl (by kernel_rfl) rfl ?_
  intro N0 w0 R
  refine Cx.seq (fun K1 k1 => ?_)
  refine Cx.region ?_
  refine Lx.new (boxA rfl) rfl (fun b4 => ?_)
  refine Lx.y (asg rfl) rfl ?_
  refine Lx.nil ?_
  refine Xx.tn (k1 _ _ _ _ ?_)
  refine Cx.seq (fun K2 k2 => ?_)
  refine Cx.seq (fun K3 k3 => ?_)
  refine Cx.region ?_
  refine Lx.cp rfl rfl rfl (awake_ct _) rfl ?_
  refine Lx.y (not' rfl) rfl ?_
  refine Lx.nil ?_
  refine Xx.tn (k3 _ _ _ _ ?_)
  refine Cx.condF rfl ?_
  refine Cx.skip ?_
  refine Xx.tn (k2 _ _ _ _ ?_)
  refine Cx.seq (fun K4 k4 => ?_)
  refine Cx.region ?_
  refine Lx.c rfl rfl rfl (New_ct _) ((one_star _).symm) rfl ?_
  rintro v B1 H1 ⟨hBB, tb, c0, rfl, rfl, ok0, e0⟩ hB1
  subst hBB
  rename Frag => B
  clear hB1
  have or0 : Ord (io (0 + 1) c0) := by rw [e0]; exact List.Pairwise.nil
  refine Lx.o (bslZ Try.underlying28 ti77) rfl (fun v B' H' hΦ hB => ?_)
  obtain ⟨b0, rfl, hBB, rfl⟩ := hΦ
  have hBB2 := hBB.symm
  subst hBB2
  clear hB
  refine Xx.freezeT (some ⟨b0, 0, none⟩) fun B3 hB3 hRo hnc3 _ => ?_
  refine Lx.y (asg rfl) rfl ?_
  refine Lx.y (asg rfl) rfl ?_
  refine Lx.nil ?_
  refine Xx.tn (k4 _ _ _ _ ?_)
  refine Cx.seq (fun K5 k5 => ?_)
  refine Cx.seq (fun K6 k6 => ?_)
  refine Cx.region ?_
  refine Lx.y (asg rfl) rfl ?_
  refine Lx.nil ?_
  refine Xx.tn (k6 _ _ _ _ ?_)
  refine Cx.block ?_
  refine Cx.loopK (Sub.cons (s := 0) rfl (Sub.cons (s := 1) rfl (Sub.cons (s := 2) rfl (Sub.cons (s := 4) rfl (Sub.cons (s := 6) rfl (Sub.cons (s := 7) rfl (Sub.cons (s := 13) rfl (Sub.cons (s := 14) rfl (Sub.cons (s := 15) rfl (Sub.cons (s := 16) rfl (Sub.nil _))))))))))) (fun m ρ' B' H' => ∃ (i d : Nat) (nd : C) (Am : Option Addr) (cm : Nat) (B2 : Frag), (i ≤ xs.length ∧ i ≤ 60 ∧ Ok 90 (d + 1) nd ∧ Ord (io (d + 1) nd) ∧ (io (d + 1) nd).length ≤ i ∧ RoS B2 2 Am (io (d + 1) nd).length (flatP (io (d + 1) nd)) ∧ (io (d + 1) nd).length ≤ cm ∧ B.le B2) ∧ m = 60 - i ∧ ρ' = [(8, .slice Am (io (d + 1) nd).length cm), (9, i64 i)] ∧ B2 = B' ∧ tree tb d nd * (row b4 24 [str lo, str hi] * R) = H') ⟨0, 0, c0, _, _, _, ⟨Nat.zero_le _, Nat.zero_le _, ok0, or0, by rw [e0]; exact Nat.le_refl _, by rw [e0]; exact hRo, by rw [e0]; exact Nat.le_refl _, hB3⟩, rfl, rfl, rfl, rfl⟩ (Sub.consE (s := 8) rfl (by rw [e0]; rfl) (Sub.cons (s := 9) rfl (Sub.cons (s := 0) rfl (Sub.cons (s := 1) rfl (Sub.cons (s := 2) rfl (Sub.cons (s := 4) rfl (Sub.cons (s := 6) rfl (Sub.cons (s := 7) rfl (Sub.cons (s := 13) rfl (Sub.cons (s := 14) rfl (Sub.cons (s := 15) rfl (Sub.cons (s := 16) rfl (Sub.nil _))))))))))))) ?_
  rintro m ρ' B' H' ⟨i, d, nd, Am, cm, B2, ⟨hi1, hi2, hok, ho, hl, hm, hcm, hB2⟩, rfl, rfl, rfl, rfl⟩
  refine Cx.seq (fun K7 k7 => ?_)
  refine Cx.seq (fun K8 k8 => ?_)
  refine Cx.region ?_
  refine Lx.y (mv rfl) rfl ?_
  refine Lx.y (mv rfl) rfl ?_
  refine Lx.y (lenV (ty' := 0) Try.underlying22 rfl) rfl ?_
  refine Lx.y (lss rfl rfl) rfl ?_
  refine Lx.y (mv rfl) rfl ?_
  refine Xx.ifD (t := 21) rfl (fun h9 => ?_) (fun h9 => ?_)
  · skip
    have h1 := h9
    refine Lx.gT rfl rfl rfl ?_
    refine Lx.y (mv rfl) rfl ?_
    refine Lx.gT rfl rfl rfl ?_
    refine Lx.y (lss rfl rfl) rfl ?_
    refine Lx.y (pickT rfl rfl) rfl ?_
    refine Lx.nil ?_
    refine Xx.tn (k8 _ _ _ _ ?_)
    refine Cx.condD rfl (fun h10 => ?_) (fun h10 => ?_)
    · skip
      have h2 := h10
      have hix : i < xs.length := by omega
      obtain ⟨bq, oq, csq, etq, fzq, hAq, hBq, hvq⟩ := roe_str (hK.mono hB2) hix rfl
      subst hAq
      have hlen : (io (d + 1) nd).length ≤ 80 := by omega
      refine Cx.skip ?_
      refine Xx.tn (k7 _ _ _ _ ?_)
      refine Cx.seq (fun K11 k11 => ?_)
      refine Cx.block ?_
      refine Cx.seq (fun K12 k12 => ?_)
      refine Cx.region ?_
      refine Lx.y (mv rfl) rfl ?_
      refine Lx.y (mv rfl) rfl ?_
      refine Lx.y (ia Try.underlying22 sz9 rfl rfl (by first | exact Int.toNat_natCast _ | rfl) (by omega) (by omega)) rfl ?_
      refine Lx.y (ldB Try.underlying9 rfl rfl hBq hvq) rfl ?_
      refine Lx.cp rfl rfl rfl (few_ct _ _) rfl ?_
      refine Lx.y (asg rfl) rfl ?_
      refine Lx.nil ?_
      refine Xx.tn (k12 _ _ _ _ ?_)
      refine Cx.seq (fun K13 k13 => ?_)
      refine Cx.region ?_
      refine Lx.y (mv rfl) rfl ?_
      refine Lx.y (mv rfl) rfl ?_
      refine Lx.y (mv rfl) rfl ?_
      refine Lx.c rfl rfl rfl (Put_ct d nd tb (xs[i].take 40) (xs[i].take 40) _ hok ho hlen) (rfl) rfl ?_
      rintro r B1 H1 ⟨hBB, d2, c2, rfl, rfl, ok2, io2, _⟩ hB1
      have hBB2 := hBB.symm
      subst hBB2
      clear hB1
      have hil := insP_le (k := xs[i].take 40) (v := xs[i].take 40) ho
      refine Lx.nil ?_
      refine Xx.tn (k13 _ _ _ _ ?_)
      refine Cx.region ?_
      refine Lx.y (mv rfl) rfl ?_
      refine Lx.y (mv rfl) rfl ?_
      refine Lx.y (mv rfl) rfl ?_
      refine Lx.cb rfl rfl rfl (put_ct (io (d + 1) nd) (xs[i].take 40) (xs[i].take 40) Am cm _ hm hcm ho (by omega)) rfl ?_
      rintro r B7 ⟨Am2, cm2, rfl, hm2, hcm2⟩ hB7
      refine Lx.y (mv rfl) rfl ?_
      refine Lx.y (ext rfl rfl) rfl ?_
      refine Lx.y (ext rfl rfl) rfl ?_
      refine Lx.y (asg rfl) rfl ?_
      refine Lx.nil ?_
      refine Xx.bn ?_
      refine Xx.tn (k11 _ _ _ _ ?_)
      refine Cx.region ?_
      refine Lx.y (mv rfl) rfl ?_
      refine Lx.y (Yx.val (add rfl rfl (by first | exact wrap64 (by omega) (by omega) | rfl)) (show _ = i64 ((i + 1 : Nat) : Int) from rfl)) rfl ?_
      refine Lx.y (asg rfl) rfl ?_
      refine Lx.nil ?_
      exact Xx.againK ⟨i + 1, d2, c2, Am2, cm2, _, ⟨by omega, by omega, ok2, by rw [io2]; exact insP_ord ho, by rw [io2]; omega, by rw [io2]; exact hm2, by rw [io2]; exact hcm2, Frag.le_trans hB2 hB7⟩, rfl, rfl, rfl, rfl⟩ (by omega) (Sub.consE (s := 8) rfl (by rw [io2]; rfl) (Sub.cons (s := 9) rfl (Sub.cons (s := 0) rfl (Sub.cons (s := 1) rfl (Sub.cons (s := 2) rfl (Sub.cons (s := 4) rfl (Sub.cons (s := 6) rfl (Sub.cons (s := 7) rfl (Sub.cons (s := 13) rfl (Sub.cons (s := 14) rfl (Sub.cons (s := 15) rfl (Sub.cons (s := 16) rfl (Sub.nil _)))))))))))))
    · skip
      have h2 := h10
      refine Cx.exit ?_
      refine Xx.te ?_
      refine Xx.te ?_
      refine Xx.bh ?_
      refine Xx.tn (k5 _ _ _ _ ?_)
      refine Cx.seq (fun K15 k15 => ?_)
      refine freeze_tree hok fun B5 hB5 hT hR => ?_
      have hm := hm.mono hB5
      have hfl : (inS lo hi (io (d + 1) nd)).length ≤ 100 := Nat.le_trans (List.length_filter_le _ _) (by omega)
      refine Cx.region ?_
      refine Lx.y (mv rfl) rfl ?_
      refine Lx.y (ldA Try.underlying24 rfl sz24 rfl (Cells.own (n := 2) PickB.eq rfl) rfl) rfl ?_
      refine Lx.cb rfl rfl rfl (in_ct (io (d + 1) nd) lo hi Am cm _ hm (by omega)) rfl ?_
      rintro r B6 ⟨Al, cl, rfl, hl2, hcl⟩ hB6
      refine Lx.y (asg rfl) rfl ?_
      refine Lx.nil ?_
      refine Xx.tn (k15 _ _ _ _ ?_)
      refine Cx.seq (fun K17 k17 => ?_)
      refine Cx.region ?_
      refine Lx.y (mv rfl) rfl ?_
      refine Lx.y (ldA Try.underlying24 rfl sz24 rfl (Cells.own (n := 2) PickB.eq rfl) rfl) rfl ?_
      refine Lx.y (mv rfl) rfl ?_
      refine Lx.y (Yx.val (band rfl rfl rfl) (show _ = i64 (((BitVec.ofInt 64 stop &&& BitVec.ofInt 64 7).toNat) : Nat) from (by rw [and7]))) rfl ?_
      refine Lx.y (Yx.val (add rfl rfl (by first | exact wrap64 (by have := and7_le stop; omega) (by have := and7_le stop; omega) | rfl)) (show _ = i64 ((((BitVec.ofInt 64 stop &&& BitVec.ofInt 64 7).toNat) + 1 : Nat) : Int) from rfl)) rfl ?_
      refine Lx.cb rfl rfl rfl (first_ct d nd tb _ _ lo hi _ (hB6 _ _ hT) (hR.mono hB6) hok ho (((BitVec.ofInt 64 stop &&& BitVec.ofInt 64 7).toNat) + 1) (by omega) (by have := and7_le stop; omega)) rfl ?_
      rintro r B8 rfl hB8
      refine Lx.y (asg rfl) rfl ?_
      refine Lx.nil ?_
      refine Xx.tn (k17 _ _ _ _ ?_)
      refine Cx.seq (fun K19 k19 => ?_)
      refine Cx.region ?_
      refine Lx.cp rfl rfl rfl (awake_ct _) rfl ?_
      refine Lx.y (mv rfl) rfl ?_
      refine Lx.gT rfl rfl rfl ?_
      refine Lx.y (mv rfl) rfl ?_
      refine Lx.gT rfl rfl rfl ?_
      refine Lx.y (ldA Try.underlying24 rfl sz24 rfl (Cells.own (n := 2) PickB.eq rfl) rfl) rfl ?_
      refine Lx.gT rfl rfl rfl ?_
      refine Lx.y (mv rfl) rfl ?_
      refine Lx.gT rfl rfl rfl ?_
      refine Lx.cb rfl rfl rfl (same_ct d nd tb _ _ lo hi _ (hB8 _ _ (hB6 _ _ hT)) ((hR.mono hB6).mono hB8) hok ho Al cl (hl2.mono hB8) hfl) rfl ?_
      rintro r B9 rfl hB9
      refine Lx.y (pickT rfl rfl) rfl ?_
      refine Lx.y (mv rfl) rfl ?_
      refine Lx.gT rfl rfl rfl ?_
      refine Lx.y (mv rfl) rfl ?_
      refine Lx.gT rfl rfl rfl ?_
      refine Lx.y (mv rfl) rfl ?_
      refine Lx.gT rfl rfl rfl ?_
      refine Lx.y (Yx.val (band rfl rfl rfl) (show _ = i64 (((BitVec.ofInt 64 stop &&& BitVec.ofInt 64 7).toNat) : Nat) from (by rw [and7]))) rfl ?_
      refine Lx.gT rfl rfl rfl ?_
      refine Lx.y (Yx.val (add rfl rfl (by first | exact wrap64 (by have := and7_le stop; omega) (by have := and7_le stop; omega) | rfl)) (show _ = i64 ((((BitVec.ofInt 64 stop &&& BitVec.ofInt 64 7).toNat) + 1 : Nat) : Int) from rfl)) rfl ?_
      refine Lx.gT rfl rfl rfl ?_
      refine Lx.y (mv rfl) rfl ?_
      refine Lx.gT rfl rfl rfl ?_
      refine Lx.y (lenV (ty' := 0) Try.underlying28 rfl) rfl ?_
      refine Lx.gT rfl rfl rfl ?_
      refine Lx.y (minN rfl rfl) rfl ?_
      refine Lx.gT rfl rfl rfl ?_
      refine Lx.y (Yx.tt (eqI rfl rfl) (decide_eq_true rfl)) rfl ?_
      refine Lx.y (pickT rfl rfl) rfl ?_
      refine Lx.y (asg rfl) rfl ?_
      refine Lx.nil ?_
      refine Xx.tn (k19 _ _ _ _ ?_)
      refine Cx.ret ?_
      refine Xx.dropB b4 ?_
      exact Xx.rB1 rfl rfl rfl (Frag.le_trans hB2 (Frag.le_trans hB5 (Frag.le_trans hB6 (Frag.le_trans hB8 hB9)))) rfl
  · skip
    have h1 := h9
    refine Lx.gF rfl rfl rfl rfl ?_
    refine Lx.gF rfl rfl rfl rfl ?_
    refine Lx.y (pickF rfl rfl) rfl ?_
    refine Lx.nil ?_
    refine Xx.tn (k8 _ _ _ _ ?_)
    refine Cx.condF rfl ?_
    refine Cx.exit ?_
    refine Xx.te ?_
    refine Xx.te ?_
    refine Xx.bh ?_
    refine Xx.tn (k5 _ _ _ _ ?_)
    refine Cx.seq (fun K21 k21 => ?_)
    refine freeze_tree hok fun B5 hB5 hT hR => ?_
    have hm := hm.mono hB5
    have hfl : (inS lo hi (io (d + 1) nd)).length ≤ 100 := Nat.le_trans (List.length_filter_le _ _) (by omega)
    refine Cx.region ?_
    refine Lx.y (mv rfl) rfl ?_
    refine Lx.y (ldA Try.underlying24 rfl sz24 rfl (Cells.own (n := 2) PickB.eq rfl) rfl) rfl ?_
    refine Lx.cb rfl rfl rfl (in_ct (io (d + 1) nd) lo hi Am cm _ hm (by omega)) rfl ?_
    rintro r B6 ⟨Al, cl, rfl, hl2, hcl⟩ hB6
    refine Lx.y (asg rfl) rfl ?_
    refine Lx.nil ?_
    refine Xx.tn (k21 _ _ _ _ ?_)
    refine Cx.seq (fun K23 k23 => ?_)
    refine Cx.region ?_
    refine Lx.y (mv rfl) rfl ?_
    refine Lx.y (ldA Try.underlying24 rfl sz24 rfl (Cells.own (n := 2) PickB.eq rfl) rfl) rfl ?_
    refine Lx.y (mv rfl) rfl ?_
    refine Lx.y (Yx.val (band rfl rfl rfl) (show _ = i64 (((BitVec.ofInt 64 stop &&& BitVec.ofInt 64 7).toNat) : Nat) from (by rw [and7]))) rfl ?_
    refine Lx.y (Yx.val (add rfl rfl (by first | exact wrap64 (by have := and7_le stop; omega) (by have := and7_le stop; omega) | rfl)) (show _ = i64 ((((BitVec.ofInt 64 stop &&& BitVec.ofInt 64 7).toNat) + 1 : Nat) : Int) from rfl)) rfl ?_
    refine Lx.cb rfl rfl rfl (first_ct d nd tb _ _ lo hi _ (hB6 _ _ hT) (hR.mono hB6) hok ho (((BitVec.ofInt 64 stop &&& BitVec.ofInt 64 7).toNat) + 1) (by omega) (by have := and7_le stop; omega)) rfl ?_
    rintro r B8 rfl hB8
    refine Lx.y (asg rfl) rfl ?_
    refine Lx.nil ?_
    refine Xx.tn (k23 _ _ _ _ ?_)
    refine Cx.seq (fun K25 k25 => ?_)
    refine Cx.region ?_
    refine Lx.cp rfl rfl rfl (awake_ct _) rfl ?_
    refine Lx.y (mv rfl) rfl ?_
    refine Lx.gT rfl rfl rfl ?_
    refine Lx.y (mv rfl) rfl ?_
    refine Lx.gT rfl rfl rfl ?_
    refine Lx.y (ldA Try.underlying24 rfl sz24 rfl (Cells.own (n := 2) PickB.eq rfl) rfl) rfl ?_
    refine Lx.gT rfl rfl rfl ?_
    refine Lx.y (mv rfl) rfl ?_
    refine Lx.gT rfl rfl rfl ?_
    refine Lx.cb rfl rfl rfl (same_ct d nd tb _ _ lo hi _ (hB8 _ _ (hB6 _ _ hT)) ((hR.mono hB6).mono hB8) hok ho Al cl (hl2.mono hB8) hfl) rfl ?_
    rintro r B9 rfl hB9
    refine Lx.y (pickT rfl rfl) rfl ?_
    refine Lx.y (mv rfl) rfl ?_
    refine Lx.gT rfl rfl rfl ?_
    refine Lx.y (mv rfl) rfl ?_
    refine Lx.gT rfl rfl rfl ?_
    refine Lx.y (mv rfl) rfl ?_
    refine Lx.gT rfl rfl rfl ?_
    refine Lx.y (Yx.val (band rfl rfl rfl) (show _ = i64 (((BitVec.ofInt 64 stop &&& BitVec.ofInt 64 7).toNat) : Nat) from (by rw [and7]))) rfl ?_
    refine Lx.gT rfl rfl rfl ?_
    refine Lx.y (Yx.val (add rfl rfl (by first | exact wrap64 (by have := and7_le stop; omega) (by have := and7_le stop; omega) | rfl)) (show _ = i64 ((((BitVec.ofInt 64 stop &&& BitVec.ofInt 64 7).toNat) + 1 : Nat) : Int) from rfl)) rfl ?_
    refine Lx.gT rfl rfl rfl ?_
    refine Lx.y (mv rfl) rfl ?_
    refine Lx.gT rfl rfl rfl ?_
    refine Lx.y (lenV (ty' := 0) Try.underlying28 rfl) rfl ?_
    refine Lx.gT rfl rfl rfl ?_
    refine Lx.y (minN rfl rfl) rfl ?_
    refine Lx.gT rfl rfl rfl ?_
    refine Lx.y (Yx.tt (eqI rfl rfl) (decide_eq_true rfl)) rfl ?_
    refine Lx.y (pickT rfl rfl) rfl ?_
    refine Lx.y (asg rfl) rfl ?_
    refine Lx.nil ?_
    refine Xx.tn (k25 _ _ _ _ ?_)
    refine Cx.ret ?_
    refine Xx.dropB b4 ?_
    exact Xx.rB1 rfl rfl rfl (Frag.le_trans hB2 (Frag.le_trans hB5 (Frag.le_trans hB6 (Frag.le_trans hB8 hB9)))) rfl

theorem BtreeSpans_ct2 (xs : List Str8) (A : Option Addr) (n c : Nat) (lo hi : Str8) (stop : Int) (B : Frag) (hK : RoE B A n (xs.map str)) (hn : n ≤ 9223372036854775807) : CtB Try.prog 3 [.slice A n c, .agg [str lo, str hi].toArray, i64 stop] B (fun v' _ => v' = .bool true) := by
  obtain rfl : xs.length = n := by simpa using hK.1
  exact BtreeSpans_ct xs A c lo hi stop B hK hn
end BtV
end Go.Proofs.Ytcoiejmlpinpbaa
