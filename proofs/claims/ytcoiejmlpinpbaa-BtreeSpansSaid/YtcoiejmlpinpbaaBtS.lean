/-
  The keys of a tree that are in a span: the walk of the iterator, and of what counts them.
-/
import Derived.Test.YtcoiejmlpinpbaaProg
import Derived.Test.YtcoiejmlpinpbaaSlj
import Derived.Test.YtcoiejmlpinpbaaBtR
namespace Go.Proofs.Ytcoiejmlpinpbaa
open Go.SL Go.RowKit
set_option linter.unusedVariables false
set_option linter.unusedSimpArgs false
set_option maxRecDepth 100000
open BtA BtB BtC BtD BtE BtG BtH BtI BtF BtJ BtK BtL BtM BtN BtO BtP BtQ BtR
namespace BtS
theorem sz24 : (Try.prog.info? 24).map (·.size) = some 2 := by kernel_rfl
theorem fo24_0 : FO Try.prog 24 0 0 1 false := FO.of Try.underlying24 rfl rfl (by kernel_rfl) Try.underlying9 rfl rfl
theorem fo24_1 : FO Try.prog 24 1 1 1 false := FO.of Try.underlying24 rfl rfl (by kernel_rfl) Try.underlying9 rfl rfl
theorem fo72_0 : FO Try.prog 72 0 0 1 false := FO.of Try.underlying72 rfl rfl (by kernel_rfl) Try.underlying67 rfl rfl

theorem From_it : ∀ (d : Nat) (nd : C) (lo : Str8) (b1 b2 : Nat) (B : Frag), TrB B d nd → Ok 90 d nd → Ord (io d nd) → FromIt d nd lo b1 b2 B := by
  intro d
  induction d with
  | zero => intro nd lo b1 b2 B h; exact h.elim
  | succ d ih => intro nd lo b1 b2 B h1 h2 h3; exact From_step d (fun nd lo b1 b2 B => ih nd lo b1 b2 B) nd lo b1 b2 B h1 h2 h3
def hasB (lo hi k : Str8) : Bool := !bless k lo && (decide (hi = []) || bless k hi)
def inS (lo hi : Str8) (l : List (Str8 × Str8)) : List (Str8 × Str8) := l.filter fun p => hasB lo hi p.1
theorem inS_from (lo hi : Str8) (l : List (Str8 × Str8)) : inS lo hi (fromL lo l) = inS lo hi l := by
  unfold inS fromL
  rw [List.filter_filter]
  refine congrArg (fun f => List.filter f l) (funext fun p => ?_)
  unfold hasB
  cases bless p.1 lo <;> simp
theorem inS_app (lo hi : Str8) (a b : List (Str8 × Str8)) : inS lo hi (a ++ b) = inS lo hi a ++ inS lo hi b := List.filter_append ..
theorem inS_all {lo hi : Str8} {l : List (Str8 × Str8)} (h : ∀ p ∈ l, hasB lo hi p.1 = true) : inS lo hi l = l := List.filter_eq_self.2 h
theorem inS_cons {lo hi : Str8} {p : Str8 × Str8} {l : List (Str8 × Str8)} (h : hasB lo hi p.1 = true) : inS lo hi (p :: l) = p :: inS lo hi l := by
  unfold inS; simp [List.filter_cons, h]
/-- behind the first key that is not in the span there is none -/
theorem inS_stop {lo hi : Str8} {x : Str8 × Str8} {post : List (Str8 × Str8)} (ho : Ord (x :: post)) (hx : bless x.1 lo = false) (hn : hasB lo hi x.1 = false) : inS lo hi (x :: post) = [] := by
  unfold inS
  rw [List.filter_eq_nil_iff]
  obtain ⟨h1, _⟩ := List.pairwise_cons.1 ho
  have hh : decide (hi = []) = false ∧ bless x.1 hi = false := by
    unfold hasB at hn
    rw [hx] at hn
    simpa using hn
  intro p hp
  rcases List.mem_cons.1 hp with rfl | hp
  · rw [hn]; decide
  · unfold hasB
    rw [hh.1]
    cases hb : bless p.1 hi with
    | false => simp
    | true => have := bless_trans (h1 p hp) hb; rw [hh.2] at this; cases this
theorem ord_from {lo : Str8} {l : List (Str8 × Str8)} (h : Ord l) : Ord (fromL lo l) := List.Pairwise.filter _ h
theorem from_mem {lo : Str8} {l : List (Str8 × Str8)} {p : Str8 × Str8} (h : p ∈ fromL lo l) : bless p.1 lo = false := by
  have := (List.mem_filter.1 h).2; simpa using this

set_option maxHeartbeats 1000000 in
theorem Has_ct (lo hi k : Str8) (B : Frag) : CtP Try.prog 40 [.agg [str lo, str hi].toArray, str k] B (.bool (hasB lo hi k)) := by
  refine CtB.of_body Try.func40 rfl (nt := 20) rfl (by kernel_rfl) rfl ?_
  intro N0 w0 R
  refine Cx.seq (fun K1 k1 => ?_)
  refine Cx.region ?_
  refine Lx.new (boxA rfl) rfl (fun b2 => ?_)
  refine Lx.y (asg rfl) rfl ?_
  refine Lx.nil ?_
  refine Xx.tn (k1 _ _ _ _ ?_)
  refine Cx.seq (fun K2 k2 => ?_)
  refine Cx.region ?_
  refine Lx.y (mv rfl) rfl ?_
  refine Lx.y (fa' fo24_0 rfl) rfl ?_
  refine Lx.y (ld Try.underlying9 rfl rfl rfl) rfl ?_
  refine Lx.y (geqS rfl rfl) rfl ?_
  refine Lx.y (mv rfl) rfl ?_
  refine Xx.ifB (t := 9) rfl (fun h3 => ?_) (fun h3 => ?_)
  · skip
    have g1 := h3
    refine Lx.gT rfl rfl rfl ?_
    refine Lx.y (fa' fo24_1 rfl) rfl ?_
    refine Lx.gT rfl rfl rfl ?_
    refine Lx.y (ld Try.underlying9 rfl rfl rfl) rfl ?_
    refine Lx.gT rfl rfl rfl ?_
    refine Lx.y (eqS rfl rfl) rfl ?_
    refine Lx.gT rfl rfl rfl ?_
    refine Lx.y (mv rfl) rfl ?_
    refine Xx.ifD (t := 13) rfl (fun h4 => ?_) (fun h4 => ?_)
    · skip
      have g2 := h4
      refine Lx.gF rfl rfl rfl rfl ?_
      refine Lx.gF rfl rfl rfl rfl ?_
      refine Lx.gF rfl rfl rfl rfl ?_
      refine Lx.gF rfl rfl rfl rfl ?_
      refine Lx.gT rfl rfl rfl ?_
      refine Lx.y (pickT rfl rfl) rfl ?_
      refine Lx.y (pickT rfl rfl) rfl ?_
      refine Lx.y (asg rfl) rfl ?_
      refine Lx.nil ?_
      refine Xx.tn (k2 _ _ _ _ ?_)
      refine Cx.ret ?_
      exact Xx.dropB b2 (Xx.rB1 rfl rfl ⟨congrArg Value.bool (by unfold hasB; simp_all), rfl⟩ (Frag.le_refl _) rfl)
    · skip
      have g2 := h4
      refine Lx.gT rfl rfl rfl ?_
      refine Lx.y (mv rfl) rfl ?_
      refine Lx.gT rfl rfl rfl ?_
      refine Lx.y (fa' fo24_1 rfl) rfl ?_
      refine Lx.gT rfl rfl rfl ?_
      refine Lx.y (ld Try.underlying9 rfl rfl rfl) rfl ?_
      refine Lx.gT rfl rfl rfl ?_
      refine Lx.y (lssS rfl rfl) rfl ?_
      refine Lx.gT rfl rfl rfl ?_
      refine Lx.y (pickF rfl rfl) rfl ?_
      refine Lx.y (pickT rfl rfl) rfl ?_
      refine Lx.y (asg rfl) rfl ?_
      refine Lx.nil ?_
      refine Xx.tn (k2 _ _ _ _ ?_)
      refine Cx.ret ?_
      exact Xx.dropB b2 (Xx.rB1 rfl rfl ⟨congrArg Value.bool (by unfold hasB; simp_all), rfl⟩ (Frag.le_refl _) rfl)
  · skip
    have g1 := h3
    refine Lx.gF rfl rfl rfl rfl ?_
    refine Lx.gF rfl rfl rfl rfl ?_
    refine Lx.gF rfl rfl rfl rfl ?_
    refine Lx.gF rfl rfl rfl rfl ?_
    refine Lx.gU rfl rfl rfl rfl ?_
    refine Lx.gU rfl rfl rfl rfl ?_
    refine Lx.gU rfl rfl rfl rfl ?_
    refine Lx.gU rfl rfl rfl rfl ?_
    refine Lx.gF rfl rfl rfl rfl ?_
    refine Lx.y (pickF rfl rfl) rfl ?_
    refine Lx.y (asg rfl) rfl ?_
    refine Lx.nil ?_
    refine Xx.tn (k2 _ _ _ _ ?_)
    refine Cx.ret ?_
    exact Xx.dropB b2 (Xx.rB1 rfl rfl ⟨congrArg Value.bool (by unfold hasB; simp_all), rfl⟩ (Frag.le_refl _) rfl)

set_option maxHeartbeats 4000000 in
theorem Range_it (d : Nat) (nd : C) (tb : Nat) (n : Int) (fz : Nat × Nat) (lo hi : Str8) (B : Frag) (hT : B tb = some (.cells [pt nd, i64 n].toArray 72 fz)) (hR : TrB B (d + 1) nd) (hok : Ok 90 (d + 1) nd) (ho : Ord (io (d + 1) nd)) (b1 b2 : Nat) (h1 : B b1 = some (.cells [.pointer (some ⟨tb, 0, none⟩)].toArray 26 (0, 0))) (h2 : B b2 = some (.cells [str lo, str hi].toArray 24 (0, 0))) : It Try.prog 38 [.pointer (some ⟨b1, 0, none⟩), .pointer (some ⟨b2, 0, none⟩)] kv (inS lo hi (io (d + 1) nd)) B 1 := by
  refine ⟨Go.SL.enters_of Try.func38 rfl (by kernel_rfl), fun lp J Jx hy Bz Hz hBz hJ0 => ?_⟩
  have h1 := hBz _ _ h1
  have h2 := hBz _ _ h2
  have hT := hBz _ _ hT
  have hR2 := hR.mono hBz
  have hxs0 := inS_from lo hi (io (d + 1) nd)
  refine Ct.of_bodyM Try.func38 rfl (nt := 28) rfl (by kernel_rfl) rfl ?_
  intro N0 w0 R
  rw [one_star]
  refine Cx.seq (fun K1 k1 => ?_)
  refine Cx.region ?_
  refine Lx.new (boxO rfl rfl) rfl (fun b3 => ?_)
  refine Lx.nil ?_
  refine Xx.tn (k1 _ _ _ _ ?_)
  refine Cx.seq (fun K2 k2 => ?_)
  refine Cx.seq (fun K3 k3 => ?_)
  refine Cx.region ?_
  refine Lx.y (ldB Try.underlying26 rfl rfl (by first | exact h1 | exact hB _ _ h1) rfl) rfl ?_
  refine Lx.y (Yx.ff (eqNilP Try.underlying26 rfl rfl) rfl) rfl ?_
  refine Lx.nil ?_
  refine Xx.tn (k3 _ _ _ _ ?_)
  refine Cx.condF rfl ?_
  refine Cx.skip ?_
  refine Xx.tn (k2 _ _ _ _ ?_)
  refine Cx.seq (fun K4 k4 => ?_)
  refine Cx.drawn (by kernel_rfl) ?_
  refine Dx.r (i := 0) rfl (by kernel_rfl) (ldB Try.underlying26 rfl rfl (by first | exact h1 | exact hB _ _ h1) rfl) rfl ?_
  refine Dx.p (i := 1) rfl (by kernel_rfl) (nilc rfl) rfl ?_
  refine Dx.p (i := 2) rfl (by kernel_rfl) (fa' fo72_0 rfl) rfl ?_
  refine Dx.r (i := 3) rfl (by kernel_rfl) (ldB Try.underlying67 rfl rfl (by first | exact hT | exact hB _ _ hT) rfl) rfl ?_
  refine Dx.p (i := 4) rfl (by kernel_rfl) (fa' fo24_0 rfl) rfl ?_
  refine Dx.r (i := 5) rfl (by kernel_rfl) (ldB Try.underlying9 rfl rfl (by first | exact h2 | exact hB _ _ h2) rfl) rfl ?_
  refine Dx.one (i := 6) (by kernel_rfl) ?_
  refine Dstep.o (i := 6) rfl (Ox.call rfl rfl rfl (From_ct nd lo _) ((one_star _).symm)) rfl (fun v B' H' hΦ hB => ?_)
  obtain ⟨_, rfl, hΦ⟩ := hΦ
  obtain ⟨hBB, b4, b5, rfl, rfl⟩ := hΦ
  have hBB2 := hBB.symm
  subst hBB2
  refine ⟨JOk.edge (JOk.edge (JOk.yes (JOk.top) (ldB Try.underlying26 rfl rfl (by first | exact h1 | exact hB _ _ h1) rfl)) (by kernel_rfl)) (by kernel_rfl), ?_⟩
  refine Dx.done (by kernel_rfl) ?_
  refine Xx.tn (k4 _ _ _ _ ?_)
  refine Cx.block ?_
  refine Cx.rangeK (σ := _) (Sub.cons (s := 2) rfl (Sub.cons (s := 3) rfl (Sub.nil _))) rfl rfl (From_it (d + 1) nd lo b4 b5 Bz hR2 hok ho) (show _ = (row b4 67 [pt nd] * row b5 9 [str lo]) * ((row b3 30 [.func (.yield lp) #[] #[]] * Hz) * R) by ac_rfl) rfl (fun _ => rfl) (fun pre B' H' => ∃ Hj, J pre B' Hj ∧ (∀ p ∈ pre, hasB lo hi p.1 = true) ∧ H' = row b3 30 [.func (.yield lp) #[] #[]] * Hj) (fun cd pre B' H' => cd = .ret ∧ ∃ Hj, H' = row b3 30 [.func (.yield lp) #[] #[]] * Hj ∧ (J (inS lo hi (io (d + 1) nd)) B' Hj ∨ ∃ pre post, (inS lo hi (io (d + 1) nd)) = pre ++ post ∧ Jx pre B' Hj)) (fun pre x B1 ρ' B' H' => ∃ Hj, ρ' = [(4, str x.1), (5, str x.2)] ∧ B' = B1 ∧ J pre B' Hj ∧ (∀ p ∈ pre, hasB lo hi p.1 = true) ∧ H' = row b3 30 [.func (.yield lp) #[] #[]] * Hj) (⟨Hz, hJ0, fun _ hp => absurd hp List.not_mem_nil, rfl⟩) ?_ ?_ ?_ ?_
  · rintro lz Nz wz pre x post B1 H1 F K hxs hB1 hJ hK
    obtain ⟨Hj, hJj, hall, rfl⟩ := hJ
    refine Cx.seq (fun K5 k5 => ?_)
    refine Cx.region ?_
    refine Lx.y (asg rfl) rfl ?_
    refine Lx.nil ?_
    refine Xx.tn (k5 _ _ _ _ ?_)
    refine Cx.region ?_
    refine Lx.y (asg rfl) rfl ?_
    refine Lx.nil ?_
    refine Xx.tn ?_
    exact Xx.sub (hK _ _ _ ⟨Hj, rfl, rfl, hJj, hall, rfl⟩ (Frag.le_refl _)) (Sub.cons (s := 4) rfl (Sub.cons (s := 5) rfl (Sub.cons (s := 2) rfl (Sub.cons (s := 3) rfl (Sub.nil _)))))
  · rintro lz Nz wz pre x post B1 F ρ' B' H' hxs hB1 hBx hAS
    obtain ⟨Hj, rfl, hBB, hJj, hall, rfl⟩ := hAS
    subst hBB
    rename Frag => B6
    clear hBx
    simp only [star_assoc]
    have hb2 := hB1 _ _ h2
    have hxp : (inS lo hi (io (d + 1) nd)) = pre ++ inS lo hi (x :: post) := by rw [← hxs0, hxs, inS_app, inS_all hall]
    have hox : Ord (x :: post) := by have := ord_from (lo := lo) ho; rw [hxs] at this; exact Ord.right this
    have hxl : bless x.1 lo = false := from_mem (l := (io (d + 1) nd)) (by rw [hxs]; simp)
    refine Cx.block ?_
    refine Cx.seq (fun K6 k6 => ?_)
    refine Cx.region ?_
    refine Lx.y (ldA Try.underlying24 rfl sz24 rfl (Cells.base (n := 2) hb2 rfl) rfl) rfl ?_
    refine Lx.y (mv rfl) rfl ?_
    refine Lx.cp rfl rfl rfl (Has_ct lo hi x.1 _) rfl ?_
    refine Lx.y (not' rfl) rfl ?_
    refine Lx.y (mv rfl) rfl ?_
    refine Xx.ifB (t := 21) rfl (fun h7 => ?_) (fun h7 => ?_)
    · skip
      have hout : hasB lo hi x.1 = false := by simpa using h7
      refine Lx.gF rfl rfl rfl rfl ?_
      refine Lx.gF rfl rfl rfl rfl ?_
      refine Lx.gF rfl rfl rfl rfl ?_
      refine Lx.gF rfl rfl rfl rfl ?_
      refine Lx.gF rfl rfl rfl rfl ?_
      refine Lx.y (pickT rfl rfl) rfl ?_
      refine Lx.nil ?_
      refine Xx.tn (k6 _ _ _ _ ?_)
      refine Cx.condT rfl ?_
      refine Cx.ret ?_
      refine Xx.br ?_
      exact Xx.rqr ⟨rfl, Hj, rfl, .inl (by rw [hxp, inS_stop hox hxl hout, List.append_nil]; exact hJj)⟩ (Frag.le_refl _) (by ac_rfl)
    · skip
      have hin : hasB lo hi x.1 = true := by simpa using h7
      refine Lx.gT rfl rfl rfl ?_
      refine Lx.y (ld Try.underlying30 rfl rfl rfl) rfl ?_
      refine Lx.gT rfl rfl rfl ?_
      refine Lx.y (mv rfl) rfl ?_
      refine Lx.gT rfl rfl rfl ?_
      refine Lx.y (mv rfl) rfl ?_
      refine Lx.gT rfl rfl rfl ?_
      refine Lx.yield rfl rfl (hy pre x (inS lo hi post) B6 Hj (by rw [hxp, inS_cons hin]) (Frag.le_trans hBz hB1) hJj) (star_left _ _ _) rfl ?_
      rintro t B7 H7 hΦ hB7
      refine Lx.gT rfl rfl rfl ?_
      refine Lx.y (not' rfl) rfl ?_
      refine Lx.y (pickF rfl rfl) rfl ?_
      refine Lx.nil ?_
      refine Xx.tn (k6 _ _ _ _ ?_)
      refine Cx.condB rfl (fun h8 => ?_) (fun h8 => ?_)
      · skip
        obtain ⟨_, hΦ⟩ : t = false ∧ Jx (pre ++ [x]) B7 H7 := by simpa [show t = false by simpa using h8] using hΦ
        refine Cx.ret ?_
        refine Xx.br ?_
        exact Xx.rqr ⟨rfl, _, rfl, .inr ⟨_, inS lo hi post, by rw [hxp, inS_cons hin]; simp, hΦ⟩⟩ hB7 (by ac_rfl)
      · skip
        obtain ⟨_, hΦ⟩ : t = true ∧ J (pre ++ [x]) B7 H7 := by simpa [show t = true by simpa using h8] using hΦ
        refine Cx.skip ?_
        refine Xx.bn ?_
        exact Xx.rqn ⟨_, hΦ, fun p hp => by rcases List.mem_append.1 hp with h | h; exact hall p h; rw [List.mem_singleton.1 h]; exact hin, rfl⟩ hB7 (by ac_rfl)
  · rintro D B' H' hBx hJ
    obtain ⟨Hc, hJc, hall, rfl⟩ := hJ
    simp only [star_assoc]
    refine Xx.dropB b4 (Xx.dropB b5 ?_)
    refine Xx.bn ?_
    refine Xx.dropB b3 ?_
    exact Xx.eM [D] rfl (fun a w f _ => results_none rfl _ _ _) ⟨Hc, (one_star _).symm, .inl (by rw [← hxs0, inS_all hall]; exact hJc)⟩ hBx (by rw [marks_cons, marks_nil, star_one]; ac_rfl)
  · rintro D c pre post B' H' hxs hBx hJx
    obtain ⟨rfl, Hc, rfl, hJc⟩ := hJx
    simp only [star_assoc]
    refine Cx.ret ?_
    refine Xx.br ?_
    refine Xx.dropB b3 (Xx.dropB b4 (Xx.dropB b5 ?_))
    exact Xx.rM (Ds := [D]) (fun a w f _ => results_none rfl _ _ _) ⟨Hc, (one_star _).symm, hJc⟩ hBx (by rw [marks_cons, marks_nil, star_one]; ac_rfl)

set_option maxHeartbeats 1000000 in
theorem few_ct (s : Str8) (B : Frag) : CtP Try.prog 11 [str s] B (str (s.take 40)) := by
  refine CtB.of_body Try.func11 rfl (nt := 9) rfl (by kernel_rfl) rfl ?_
  intro N0 w0 R
  refine Cx.seq (fun K1 k1 => ?_)
  refine Cx.region ?_
  refine Lx.y (asg rfl) rfl ?_
  refine Lx.nil ?_
  refine Xx.tn (k1 _ _ _ _ ?_)
  refine Cx.seq (fun K2 k2 => ?_)
  refine Cx.seq (fun K3 k3 => ?_)
  refine Cx.region ?_
  refine Lx.y (mv rfl) rfl ?_
  refine Lx.y (lenS Try.underlying9 rfl) rfl ?_
  refine Lx.y (gtr rfl rfl) rfl ?_
  refine Lx.nil ?_
  refine Xx.tn (k3 _ _ _ _ ?_)
  refine Cx.condD rfl (fun h4 => ?_) (fun h4 => ?_)
  · skip
    have g := h4
    refine Cx.seq (fun K5 k5 => ?_)
    refine Cx.region ?_
    refine Lx.y (mv rfl) rfl ?_
    refine Lx.y (sl2S Try.underlying9 rfl rfl (show Int.toNat _ = 40 from rfl) (by omega) (by omega)) rfl ?_
    refine Lx.y (asg rfl) rfl ?_
    refine Lx.nil ?_
    refine Xx.tn (k5 _ _ _ _ ?_)
    refine Cx.ret ?_
    refine Xx.tr ?_
    exact Xx.rB1 rfl rfl ⟨rfl, rfl⟩ (Frag.le_refl _) rfl
  · skip
    have g := h4
    refine Cx.skip ?_
    refine Xx.tn (k2 _ _ _ _ ?_)
    refine Cx.seq (fun K6 k6 => ?_)
    refine Cx.region ?_
    refine Lx.y (mv rfl) rfl ?_
    refine Lx.y (asg rfl) rfl ?_
    refine Lx.nil ?_
    refine Xx.tn (k6 _ _ _ _ ?_)
    refine Cx.ret ?_
    exact Xx.rB1 rfl rfl ⟨by rw [List.take_of_length_le (by omega)], rfl⟩ (Frag.le_refl _) rfl
end BtS
end Go.Proofs.Ytcoiejmlpinpbaa
