/-
  The keys of a node from one on: the walk of the iterator.
-/
import Derived.Test.YtcoiejmlpinpbaaProg
import Derived.Test.YtcoiejmlpinpbaaSlj
import Derived.Test.YtcoiejmlpinpbaaBtQ
namespace Go.Proofs.Ytcoiejmlpinpbaa
open Go.SL Go.RowKit
set_option linter.unusedVariables false
set_option linter.unusedSimpArgs false
set_option maxRecDepth 100000
open BtA BtB BtC BtD BtE BtG BtH BtI BtF BtJ BtK BtL BtM BtN BtO BtP BtQ
namespace BtR
theorem sz9 : (Try.prog.info? 9).map (·.size) = some 1 := by kernel_rfl
theorem sz67 : (Try.prog.info? 67).map (·.size) = some 1 := by kernel_rfl
theorem fo70_0 : FO Try.prog 70 0 0 1 false := FO.of Try.underlying70 rfl rfl (by kernel_rfl) Try.underlying22 rfl rfl
theorem fo70_1 : FO Try.prog 70 1 1 1 false := FO.of Try.underlying70 rfl rfl (by kernel_rfl) Try.underlying22 rfl rfl
theorem fo70_2 : FO Try.prog 70 2 2 1 false := FO.of Try.underlying70 rfl rfl (by kernel_rfl) Try.underlying68 rfl rfl

def fromL (lo : Str8) (l : List (Str8 × Str8)) : List (Str8 × Str8) := l.filter fun p => !bless p.1 lo
theorem fromL_app (lo : Str8) (a b : List (Str8 × Str8)) : fromL lo (a ++ b) = fromL lo a ++ fromL lo b := List.filter_append ..
theorem fromL_cons {lo : Str8} {p : Str8 × Str8} {l : List (Str8 × Str8)} (h : bless p.1 lo = false) : fromL lo (p :: l) = p :: fromL lo l := by
  unfold fromL; rw [List.filter_cons_of_pos (by simp [h])]
theorem fromL_none {lo : Str8} {l : List (Str8 × Str8)} (h : ∀ p ∈ l, bless p.1 lo = true) : fromL lo l = [] := by
  unfold fromL; rw [List.filter_eq_nil_iff]; intro p hp; simp [h p hp]
/-- what is ahead of key i, and what comes from there on -/
theorem io_cut (f : C → List (Str8 × Str8)) : ∀ (i : Nat) (ks vs : List Str8) (cs : List C), vs.length = ks.length → (cs = [] ∨ cs.length = ks.length + 1) → (hi : i ≤ ks.length) →
    ∃ A, ioL f ks vs cs = A ++ ioL f (ks.drop i) (vs.drop i) (cs.drop i) ∧ ((i = 0 ∧ A = []) ∨ ∃ A' v, ∃ h : i - 1 < ks.length, 0 < i ∧ A = A' ++ [(ks[i - 1], v)]) := by
  intro i
  induction i with
  | zero => intro ks vs cs _ _ _; exact ⟨[], rfl, .inl ⟨rfl, rfl⟩⟩
  | succ i ih =>
    intro ks vs cs hv hc hi
    cases ks with
    | nil => simp at hi
    | cons k ks => cases vs with
      | nil => simp at hv
      | cons v vs =>
        have hv' : vs.length = ks.length := by simpa using hv
        have hi' : i ≤ ks.length := by simpa using hi
        have fin : ∀ (pre A : List (Str8 × Str8)), ((i = 0 ∧ A = []) ∨ ∃ A' v, ∃ h : i - 1 < ks.length, 0 < i ∧ A = A' ++ [(ks[i - 1], v)]) → ∃ A' v', ∃ h : i + 1 - 1 < (k :: ks).length, 0 < i + 1 ∧ pre ++ (k, v) :: A = A' ++ [((k :: ks)[i + 1 - 1], v')] := by
          intro pre A hA
          rcases hA with ⟨rfl, rfl⟩ | ⟨A', v', h, h0, rfl⟩
          · exact ⟨pre, v, by simp, by omega, rfl⟩
          · refine ⟨pre ++ (k, v) :: A', v', by simp; omega, by omega, ?_⟩
            obtain ⟨i, rfl⟩ : ∃ i', i = i' + 1 := ⟨i - 1, by omega⟩
            simp
        cases cs with
        | nil =>
          obtain ⟨A, e, hA⟩ := ih ks vs [] hv' (.inl rfl) hi'
          refine ⟨(k, v) :: A, ?_, .inr ?_⟩
          · show (k, v) :: ioL f ks vs [] = _
            rw [e]; simp
          · simpa using fin [] A hA
        | cons c cs =>
          have hc' : cs.length = ks.length + 1 := by simpa using hc
          obtain ⟨A, e, hA⟩ := ih ks vs cs hv' (.inr hc') hi'
          refine ⟨f c ++ (k, v) :: A, ?_, .inr (fin (f c) A hA)⟩
          show f c ++ (k, v) :: ioL f ks vs cs = _
          rw [e]; simp
theorem from_start {N d : Nat} {nd : C} {lo : Str8} (hok : Ok N (d + 1) nd) (ho : Ord (io (d + 1) nd)) : fromL lo (io (d + 1) nd) = fromL lo (ioL (io d) (nd.ks.drop (lb nd.ks lo)) (nd.vs.drop (lb nd.ks lo)) (nd.cs.drop (lb nd.ks lo))) := by
  have hs := srt_of hok ho
  obtain ⟨A, e, hA⟩ := io_cut (io d) (lb nd.ks lo) nd.ks nd.vs nd.cs hok.1 hok.2.2.1 (lb_le _ _)
  have e' : io (d + 1) nd = A ++ ioL (io d) (nd.ks.drop (lb nd.ks lo)) (nd.vs.drop (lb nd.ks lo)) (nd.cs.drop (lb nd.ks lo)) := e
  rw [e'] at ho ⊢
  rw [fromL_app, fromL_none, List.nil_append]
  rcases hA with ⟨_, rfl⟩ | ⟨A', v, h, h0, rfl⟩
  · intro p hp; cases hp
  · have hk := (lb_spec (t := lo) hs).1 (lb nd.ks lo - 1) h (by omega)
    intro p hp
    rcases List.mem_append.1 hp with hp | hp
    · exact bless_trans (Ord.cross (Ord.left ho) p hp _ (List.mem_singleton.2 rfl)) hk
    · rw [List.mem_singleton.1 hp]; exact hk
def tl (f : C → List (Str8 × Str8)) (ks vs : List Str8) (cs : List C) (j : Nat) : List (Str8 × Str8) := match ks.drop j, vs.drop j with
  | k :: ks', v :: vs' => (k, v) :: ioL f ks' vs' (cs.drop (j + 1))
  | _, _ => []
theorem tl_lt {f : C → List (Str8 × Str8)} {ks vs : List Str8} {cs : List C} {j : Nat} (h : j < ks.length) (hv : j < vs.length) : tl f ks vs cs j = (ks[j], vs[j]) :: ioL f (ks.drop (j + 1)) (vs.drop (j + 1)) (cs.drop (j + 1)) := by
  unfold tl; rw [List.drop_eq_getElem_cons h, List.drop_eq_getElem_cons hv]
theorem tl_ge {f : C → List (Str8 × Str8)} {ks vs : List Str8} {cs : List C} {j : Nat} (h : ks.length ≤ j) : tl f ks vs cs j = [] := by
  unfold tl; rw [List.drop_of_length_le h]
theorem tl_kid {f : C → List (Str8 × Str8)} {ks vs : List Str8} {cs : List C} {j : Nat} (hv : vs.length = ks.length) (hc : cs.length = ks.length + 1) (h : j < cs.length) : ioL f (ks.drop j) (vs.drop j) (cs.drop j) = f cs[j] ++ tl f ks vs cs j := by
  by_cases hj : j < ks.length
  · rw [tl_lt hj (by omega), List.drop_eq_getElem_cons hj, List.drop_eq_getElem_cons (l := vs) (by omega), List.drop_eq_getElem_cons h]; rfl
  · rw [tl_ge (by omega), List.drop_of_length_le (l := ks) (by omega), List.drop_of_length_le (l := vs) (by omega), List.drop_eq_getElem_cons h, List.append_nil]; rfl
theorem tl_leaf {f : C → List (Str8 × Str8)} {ks vs : List Str8} {j : Nat} (hv : vs.length = ks.length) : ioL f (ks.drop j) (vs.drop j) (([] : List C).drop j) = tl f ks vs [] j := by
  by_cases hj : j < ks.length
  · rw [tl_lt hj (by omega), List.drop_eq_getElem_cons hj, List.drop_eq_getElem_cons (l := vs) (by omega), List.drop_nil, List.drop_nil]; rfl
  · rw [tl_ge (by omega), List.drop_of_length_le (l := ks) (by omega), List.drop_of_length_le (l := vs) (by omega), List.drop_nil]; rfl
theorem rest_end {f : C → List (Str8 × Str8)} {ks vs : List Str8} {cs : List C} {j : Nat} (hv : vs.length = ks.length) (hc : cs = [] ∨ cs.length = ks.length + 1) (h : ks.length < j) : ioL f (ks.drop j) (vs.drop j) (cs.drop j) = [] := by
  rw [List.drop_of_length_le (l := ks) (by omega), List.drop_of_length_le (l := vs) (by omega), List.drop_of_length_le (l := cs) (by rcases hc with rfl | hc; simp; omega)]; rfl
/-- the kid's own keys stand in order -/
theorem kid_ord {N d : Nat} {nd : C} {j : Nat} (hok : Ok N (d + 1) nd) (ho : Ord (io (d + 1) nd)) (hc : nd.cs.length = nd.ks.length + 1) (h : j < nd.cs.length) : Ord (io d nd.cs[j]) := by
  have e := io_split (io d) j nd.ks nd.vs nd.cs h hok.1 hc
  have ho' : Ord (ioL (io d) nd.ks nd.vs nd.cs) := ho
  rw [e] at ho'
  exact Ord.left (Ord.right ho')
def FrV (b1 b2 : Nat) : Value := .func (.func 70) #[] [.pointer (some ⟨b1, 0, none⟩), .pointer (some ⟨b2, 0, none⟩)].toArray
abbrev FromIt (d : Nat) (nd : C) (lo : Str8) (b1 b2 : Nat) (B : Frag) : Prop := It Try.prog 70 [.pointer (some ⟨b1, 0, none⟩), .pointer (some ⟨b2, 0, none⟩)] kv (fromL lo (io d nd)) B (row b1 67 [pt nd] * row b2 9 [str lo])

set_option maxHeartbeats 1000000 in
theorem From_ct (nd : C) (lo : Str8) (B : Frag) : Ct Try.prog 39 [.pointer (some ⟨nd.b, 0, none⟩), str lo] B 1 (fun v B' H' => B' = B ∧ ∃ b1 b2, v = FrV b1 b2 ∧ H' = row b1 67 [pt nd] * row b2 9 [str lo]) := by
  refine Ct.of_body Try.func39 rfl (nt := 6) rfl (by kernel_rfl) rfl ?_
  intro N0 w0 R
  rw [one_star]
  refine Cx.seq (fun K1 k1 => ?_)
  refine Cx.region ?_
  refine Lx.new (boxO rfl rfl) rfl (fun b1 => ?_)
  refine Lx.new (boxO rfl rfl) rfl (fun b2 => ?_)
  refine Lx.y (asg rfl) rfl ?_
  refine Lx.nil ?_
  refine Xx.tn (k1 _ _ _ _ ?_)
  refine Cx.seq (fun K2 k2 => ?_)
  refine Cx.region ?_
  refine Lx.y (mkf rfl rfl) rfl ?_
  refine Lx.y (asg rfl) rfl ?_
  refine Lx.nil ?_
  refine Xx.tn (k2 _ _ _ _ ?_)
  refine Cx.ret ?_
  exact Xx.ret1 rfl rfl ⟨rfl, b1, b2, rfl, rfl⟩ (Frag.le_refl _) (by ac_rfl)

set_option maxHeartbeats 4000000 in
theorem From_step (d : Nat) (ih : ∀ (nd : C) (lo : Str8) (b1 b2 : Nat) (B : Frag), TrB B d nd → Ok 90 d nd → Ord (io d nd) → FromIt d nd lo b1 b2 B) (nd : C) (lo : Str8) (b1 b2 : Nat) (B : Frag) (hR : TrB B (d + 1) nd) (hok : Ok 90 (d + 1) nd) (ho : Ord (io (d + 1) nd)) : FromIt (d + 1) nd lo b1 b2 B := by
  refine ⟨Go.SL.enters_of Try.func70 rfl (by kernel_rfl), fun lp J Jx hy Bz Hz hBz hJ0 => ?_⟩
  have hs := srt_of hok ho
  have hst := from_start (lo := lo) hok ho
  have hvl := hok.1
  have hkl := hok.2.1
  have hcl := hok.2.2.1
  have hlb := lb_le nd.ks lo
  obtain ⟨⟨fz, hqn⟩, hRk, hRv, hRc, hkids⟩ := hR.mono hBz
  refine Ct.of_bodyM Try.func70 rfl (nt := 74) rfl (by kernel_rfl) rfl ?_
  intro N0 w0 R
  simp only [star_assoc]
  refine Cx.seq (fun K1 k1 => ?_)
  refine Cx.region ?_
  refine Lx.new (boxO rfl rfl) rfl (fun b3 => ?_)
  refine Lx.nil ?_
  refine Xx.tn (k1 _ _ _ _ ?_)
  refine Cx.seq (fun K2 k2 => ?_)
  refine Cx.drawn (by kernel_rfl) ?_
  refine Dx.r (i := 0) rfl (by kernel_rfl) (ld Try.underlying67 rfl rfl rfl) rfl ?_
  refine Dx.p (i := 1) rfl (by kernel_rfl) (nilc rfl) rfl ?_
  refine Dx.p (i := 2) rfl (by kernel_rfl) (fa' fo70_0 rfl) rfl ?_
  refine Dx.r (i := 3) rfl (by kernel_rfl) (ldB Try.underlying22 rfl rfl (by first | exact hqn | exact hB _ _ hqn) rfl) rfl ?_
  refine Dx.r (i := 4) rfl (by kernel_rfl) (ld Try.underlying9 rfl rfl rfl) rfl ?_
  refine Dx.one (i := 5) (by kernel_rfl) ?_
  refine Dstep.o (i := 5) rfl (Ox.cb rfl rfl rfl (BS_ct nd.ks lo _ _ _ hRk hs (by omega))) rfl (fun v B' H' hΦ hB => ?_)
  obtain ⟨rfl, rfl, hBB⟩ := hΦ; have hBB2 := hBB.symm; subst hBB2; clear hB
  refine ⟨JOk.edge (JOk.edge (JOk.yes (JOk.top) (ld Try.underlying67 rfl rfl rfl)) (by kernel_rfl)) (by kernel_rfl), ?_⟩
  refine Dx.p (i := 6) rfl (by kernel_rfl) (mv rfl) rfl ?_
  refine Dx.p (i := 7) rfl (by kernel_rfl) (ext rfl rfl) rfl ?_
  refine Dx.p (i := 8) rfl (by kernel_rfl) (ext rfl rfl) rfl ?_
  refine Dx.p (i := 9) rfl (by kernel_rfl) (asg rfl) rfl ?_
  refine Dx.p (i := 10) rfl (by kernel_rfl) (asg rfl) rfl ?_
  refine Dx.done (by kernel_rfl) ?_
  refine Xx.tn (k2 _ _ _ _ ?_)
  refine Cx.block ?_
  refine Cx.loopKD (Sub.cons (s := 0) rfl (Sub.cons (s := 1) rfl (Sub.cons (s := 2) rfl (Sub.cons (s := 3) rfl (Sub.cons (s := 8) rfl (Sub.cons (s := 9) rfl (Sub.cons (s := 10) rfl (Sub.cons (s := 11) rfl (Sub.cons (s := 12) rfl (Sub.cons (s := 13) rfl (Sub.cons (s := 14) rfl (Sub.cons (s := 15) rfl (Sub.cons (s := 16) rfl (Sub.nil _)))))))))))))) (fun m Ds ρ' B' H' => ∃ (j : Nat) (qs : List (Str8 × Str8)) (B2 : Frag) (H2 : HP), (lb nd.ks lo ≤ j ∧ j ≤ nd.ks.length + 1 ∧ fromL lo (io (d + 1) nd) = qs ++ fromL lo (ioL (io d) (nd.ks.drop j) (nd.vs.drop j) (nd.cs.drop j)) ∧ J qs B2 H2 ∧ Bz.le B2) ∧ m = nd.ks.length + 2 - j ∧ ρ' = [(4, i64 j)] ∧ B2 = B' ∧ row b3 30 [.func (.yield lp) #[] #[]] * (row b1 67 [pt nd] * (row b2 9 [str lo] * (H2 * (marks Ds * R)))) = H') [] rfl ⟨lb nd.ks lo, [], Bz, Hz, ⟨Nat.le_refl _, by omega, by rw [List.nil_append]; exact hst, hJ0, Frag.le_refl _⟩, rfl, rfl, rfl, by rw [marks_nil, one_star]⟩ (Sub.cons (s := 4) rfl (Sub.cons (s := 0) rfl (Sub.cons (s := 1) rfl (Sub.cons (s := 2) rfl (Sub.cons (s := 3) rfl (Sub.cons (s := 8) rfl (Sub.cons (s := 9) rfl (Sub.cons (s := 10) rfl (Sub.cons (s := 11) rfl (Sub.cons (s := 12) rfl (Sub.cons (s := 13) rfl (Sub.cons (s := 14) rfl (Sub.cons (s := 15) rfl (Sub.cons (s := 16) rfl (Sub.nil _))))))))))))))) ?_
  rintro m Ds ρ' B' H' ⟨j, qs, B2, H2, ⟨hlj, hjn, hxs0, hJq, hB2⟩, rfl, rfl, rfl, rfl⟩
  have hqn := hB2 _ _ hqn
  have hRk := hRk.mono hB2
  have hRv := hRv.mono hB2
  have hRc := hRc.mono hB2
  refine Cx.seq (fun K3 k3 => ?_)
  refine Cx.seq (fun K4 k4 => ?_)
  refine Cx.region ?_
  refine Lx.y (mv rfl) rfl ?_
  refine Lx.y (ld Try.underlying67 rfl rfl rfl) rfl ?_
  refine Lx.y (nilc rfl) rfl ?_
  refine Lx.y (fa' fo70_0 rfl) rfl ?_
  refine Lx.y (ldB Try.underlying22 rfl rfl (by first | exact hqn | exact hB _ _ hqn) rfl) rfl ?_
  refine Lx.y (lenV (ty' := 0) Try.underlying22 rfl) rfl ?_
  refine Lx.y (leq rfl rfl) rfl ?_
  refine Lx.nil ?_
  refine Xx.tn (k4 _ _ _ _ ?_)
  refine Cx.condD rfl (fun h5 => ?_) (fun h5 => ?_)
  · skip
    have hjn2 := h5
    refine Cx.skip ?_
    refine Xx.tn (k3 _ _ _ _ ?_)
    refine Cx.seq (fun K6 k6 => ?_)
    refine Cx.block ?_
    refine Cx.seq (fun K7 k7 => ?_)
    refine Cx.seq (fun K8 k8 => ?_)
    refine Cx.region ?_
    refine Lx.y (ld Try.underlying67 rfl rfl rfl) rfl ?_
    refine Lx.y (nilc rfl) rfl ?_
    refine Lx.y (fa' fo70_2 rfl) rfl ?_
    refine Lx.y (ldB Try.underlying68 rfl rfl (by first | exact hqn | exact hB _ _ hqn) rfl) rfl ?_
    refine Lx.y (lenV (ty' := 0) Try.underlying68 rfl) rfl ?_
    refine Lx.y (gtr rfl rfl) rfl ?_
    refine Lx.nil ?_
    refine Xx.tn (k8 _ _ _ _ ?_)
    refine Cx.condD rfl (fun h9 => ?_) (fun h9 => ?_)
    · skip
      have hz := h9
      have hcl2 : nd.cs.length = nd.ks.length + 1 := by rcases hcl with z | z; exact absurd hz (by rw [z]; decide); exact z
      have hcj : j < nd.cs.length := by omega
      obtain ⟨bv, ov, csv, etv, fzv, hAv, hBv, hvv⟩ := hRc.at1 (k := j) hcj
      rw [List.getElem?_map, List.getElem?_eq_getElem hcj] at hvv
      have hJc := hJq
      refine Cx.seq (fun K10 k10 => ?_)
      refine Cx.drawn (by kernel_rfl) ?_
      refine Dx.r (i := 0) rfl (by kernel_rfl) (ld Try.underlying67 rfl rfl rfl) rfl ?_
      refine Dx.p (i := 1) rfl (by kernel_rfl) (nilc rfl) rfl ?_
      refine Dx.p (i := 2) rfl (by kernel_rfl) (fa' fo70_2 rfl) rfl ?_
      refine Dx.r (i := 3) rfl (by kernel_rfl) (Yx.val (ldB Try.underlying68 rfl rfl (by first | exact hqn | exact hB _ _ hqn) rfl) (show _ = Value.slice (some ⟨bv, ov, none⟩) nd.cs.length nd.cc by rw [← hAv])) rfl ?_
      refine Dx.p (i := 4) rfl (by kernel_rfl) (mv rfl) rfl ?_
      refine Dx.p (i := 5) rfl (by kernel_rfl) (ia Try.underlying68 sz67 rfl rfl (by first | exact Int.toNat_natCast _ | rfl) (by omega) (by omega)) rfl ?_
      refine Dx.r (i := 6) rfl (by kernel_rfl) (ldB Try.underlying67 rfl rfl (by first | exact hBv | exact hB _ _ hBv) hvv) rfl ?_
      refine Dx.r (i := 7) rfl (by kernel_rfl) (ld Try.underlying9 rfl rfl rfl) rfl ?_
      refine Dx.one (i := 8) (by kernel_rfl) ?_
      refine Dstep.o (i := 8) rfl (Ox.call rfl rfl rfl (From_ct nd.cs[j] lo _) ((one_star _).symm)) rfl (fun v B' H' hΦ hB => ?_)
      obtain ⟨_, rfl, hΦ⟩ := hΦ
      obtain ⟨hBB, b4, b5, rfl, rfl⟩ := hΦ
      have hBB2 := hBB.symm
      subst hBB2
      have hle := hB2
      refine ⟨JOk.edge (JOk.edge (JOk.yes (JOk.yes (JOk.top) (ld Try.underlying67 rfl rfl rfl)) (Yx.val (ldB Try.underlying68 rfl rfl (by first | exact hqn | exact hB _ _ hqn) rfl) (show _ = Value.slice (some ⟨bv, ov, none⟩) nd.cs.length nd.cc by rw [← hAv]))) (by kernel_rfl)) (by kernel_rfl), ?_⟩
      refine Dx.done (by kernel_rfl) ?_
      refine Xx.tn (k10 _ _ _ _ ?_)
      refine Cx.block ?_
      refine Cx.rangeK (σ := _) (Sub.cons (s := 3) rfl (Sub.nil _)) rfl rfl (ih nd.cs[j] lo b4 b5 B2 ((hkids _ (List.getElem_mem hcj)).mono hB2) ((Ok.of1 (hok.2.2.2 _ (List.getElem_mem hcj))).le (by decide)) (kid_ord hok ho hcl2 hcj)) (show _ = (row b4 67 [pt nd.cs[j]] * row b5 9 [str lo]) * ((row b3 30 [.func (.yield lp) #[] #[]] * H2) * (row b1 67 [pt nd] * (row b2 9 [str lo] * (marks Ds * R)))) by ac_rfl) rfl (fun _ => rfl) (fun pre2 B' H' => ∃ Hj, J (qs ++ pre2) B' Hj ∧ H' = row b3 30 [.func (.yield lp) #[] #[]] * Hj) (fun c pre2 B' H' => c = .ret ∧ ∃ Hj, Jx (qs ++ pre2) B' Hj ∧ H' = row b3 30 [.func (.yield lp) #[] #[]] * Hj) (fun pre2 x B1 ρ' B' H' => ∃ Hj, ρ' = [(6, str x.1), (7, str x.2)] ∧ B' = B1 ∧ J (qs ++ pre2) B' Hj ∧ H' = row b3 30 [.func (.yield lp) #[] #[]] * Hj) (⟨H2, by rw [List.append_nil]; exact hJc, rfl⟩) ?_ ?_ ?_ ?_
      · rintro lz Nz wz pre x post B1 H1 F K hxs hB1 hJ hK
        obtain ⟨Hj, hJj, rfl⟩ := hJ
        refine Cx.seq (fun K11 k11 => ?_)
        refine Cx.region ?_
        refine Lx.y (asg rfl) rfl ?_
        refine Lx.nil ?_
        refine Xx.tn (k11 _ _ _ _ ?_)
        refine Cx.region ?_
        refine Lx.y (asg rfl) rfl ?_
        refine Lx.nil ?_
        refine Xx.tn ?_
        exact Xx.sub (hK _ _ _ ⟨Hj, rfl, rfl, hJj, rfl⟩ (Frag.le_refl _)) (Sub.cons (s := 6) rfl (Sub.cons (s := 7) rfl (Sub.cons (s := 3) rfl (Sub.nil _))))
      · rintro lz Nz wz pre x post B1 F ρ' B' H' hxs hB1 hBx hAS
        obtain ⟨Hj, rfl, hBB, hJj, rfl⟩ := hAS
        subst hBB
        rename Frag => B6
        clear hBx
        simp only [star_assoc]
        refine Cx.block ?_
        refine Cx.seq (fun K12 k12 => ?_)
        refine Cx.region ?_
        refine Lx.y (ld Try.underlying30 rfl rfl rfl) rfl ?_
        refine Lx.y (mv rfl) rfl ?_
        refine Lx.y (mv rfl) rfl ?_
        refine Lx.yield rfl rfl (hy (qs ++ pre) x (post ++ fromL lo (tl (io d) nd.ks nd.vs nd.cs j)) B6 Hj (by rw [hxs0, tl_kid hvl hcl2 hcj, fromL_app, hxs]; simp) (Frag.le_trans hBz (Frag.le_trans hle hB1)) hJj) (star_left _ _ _) rfl ?_
        rintro t B7 H7 hΦ hB7
        refine Lx.y (not' rfl) rfl ?_
        refine Lx.nil ?_
        refine Xx.tn (k12 _ _ _ _ ?_)
        refine Cx.condB rfl (fun h13 => ?_) (fun h13 => ?_)
        · skip
          obtain ⟨_, hΦ⟩ : t = false ∧ Jx ((qs ++ pre) ++ [x]) B7 H7 := by simpa [show t = false by simpa using h13] using hΦ
          refine Cx.ret ?_
          refine Xx.br ?_
          exact Xx.rqr ⟨rfl, _, by rw [← List.append_assoc]; exact hΦ, rfl⟩ hB7 (by ac_rfl)
        · skip
          obtain ⟨_, hΦ⟩ : t = true ∧ J ((qs ++ pre) ++ [x]) B7 H7 := by simpa [show t = true by simpa using h13] using hΦ
          refine Cx.skip ?_
          refine Xx.bn ?_
          exact Xx.rqn ⟨_, by rw [← List.append_assoc]; exact hΦ, rfl⟩ hB7 (by ac_rfl)
      · rintro D B' H' hBx hJ
        obtain ⟨Hc, hJc, rfl⟩ := hJ
        rename Frag => Bc
        have hle := Frag.le_trans hle hBx
        have hxt : fromL lo (io (d + 1) nd) = (qs ++ fromL lo (io d nd.cs[j])) ++ fromL lo (tl (io d) nd.ks nd.vs nd.cs j) := by rw [hxs0, tl_kid hvl hcl2 hcj, fromL_app, List.append_assoc]
        generalize qs ++ fromL lo (io d nd.cs[j]) = qs at hJc hxt
        have hqn := hBx _ _ hqn
        have hRk := hRk.mono hBx
        have hRv := hRv.mono hBx
        have hRc := hRc.mono hBx
        simp only [star_assoc]
        refine Xx.dropB b4 (Xx.dropB b5 ?_)
        refine Xx.perm ?_ (show _ = row b3 30 [.func (.yield lp) #[] #[]] * (row b1 67 [pt nd] * (row b2 9 [str lo] * (Hc * (marks (D :: Ds) * R)))) by rw [marks_cons]; ac_rfl)
        refine Xx.bn ?_
        refine Xx.tn (k7 _ _ _ _ ?_)
        refine Cx.seq (fun K14 k14 => ?_)
        refine Cx.drawn (by kernel_rfl) ?_
        refine Dx.p (i := 0) rfl (by kernel_rfl) (mv rfl) rfl ?_
        refine Dx.r (i := 1) rfl (by kernel_rfl) (ld Try.underlying67 rfl rfl rfl) rfl ?_
        refine Dx.p (i := 2) rfl (by kernel_rfl) (nilc rfl) rfl ?_
        refine Dx.p (i := 3) rfl (by kernel_rfl) (fa' fo70_0 rfl) rfl ?_
        refine Dx.r (i := 4) rfl (by kernel_rfl) (ldB Try.underlying22 rfl rfl (by first | exact hqn | exact hB _ _ hqn) rfl) rfl ?_
        refine Dx.p (i := 5) rfl (by kernel_rfl) (lenV (ty' := 0) Try.underlying22 rfl) rfl ?_
        refine Dx.p (i := 6) rfl (by kernel_rfl) (lss rfl rfl) rfl ?_
        refine Dx.p (i := 7) rfl (by kernel_rfl) (mv rfl) rfl ?_
        refine Xx.ifD (t := 55) rfl (fun h15 => ?_) (fun h15 => ?_)
        · skip
          have hlt := h15
          have hlt : j < nd.ks.length := by omega
          obtain ⟨bk, ok, csk, etk, fzk, hAk, hBk, hvk⟩ := roe_str hRk hlt rfl
          obtain ⟨bw, ow, csw, etw, fzw, hAw, hBw, hvw⟩ := roe_str hRv (show j < nd.vs.length by omega) rfl
          have hx3 : fromL lo (io (d + 1) nd) = qs ++ (nd.ks[j], nd.vs[j]'(by omega)) :: fromL lo (ioL (io d) (nd.ks.drop (j + 1)) (nd.vs.drop (j + 1)) (nd.cs.drop (j + 1))) := by
            have hge : bless nd.ks[j] lo = false := by
              have h9 := (lb_spec (t := lo) hs).2 (by omega)
              rcases Nat.lt_or_ge (lb nd.ks lo) j with h8 | h8
              · cases hb8 : bless nd.ks[j] lo with
                | false => rfl
                | true => rw [bless_trans (hs.lt hlt h8) hb8] at h9; cases h9
              · obtain rfl : lb nd.ks lo = j := by omega
                exact h9
            rw [hxt, tl_lt hlt (by omega), fromL_cons hge]
          refine Dx.rT (i := 8) rfl rfl rfl rfl (by kernel_rfl) (ld Try.underlying30 rfl rfl rfl) rfl ?_
          refine Dx.rT (i := 9) rfl rfl rfl rfl (by kernel_rfl) (ld Try.underlying67 rfl rfl rfl) rfl ?_
          refine Dx.pT (i := 10) rfl rfl rfl rfl (by kernel_rfl) (nilc rfl) rfl ?_
          refine Dx.pT (i := 11) rfl rfl rfl rfl (by kernel_rfl) (fa' fo70_0 rfl) rfl ?_
          refine Dx.rT (i := 12) rfl rfl rfl rfl (by kernel_rfl) (Yx.val (ldB Try.underlying22 rfl rfl (by first | exact hqn | exact hB _ _ hqn) rfl) (show _ = Value.slice (some ⟨bk, ok, none⟩) nd.ks.length nd.ck by rw [← hAk])) rfl ?_
          refine Dx.pT (i := 13) rfl rfl rfl rfl (by kernel_rfl) (mv rfl) rfl ?_
          refine Dx.pT (i := 14) rfl rfl rfl rfl (by kernel_rfl) (ia Try.underlying22 sz9 rfl rfl (by first | exact Int.toNat_natCast _ | rfl) (by omega) (by omega)) rfl ?_
          refine Dx.rT (i := 15) rfl rfl rfl rfl (by kernel_rfl) (ldB Try.underlying9 rfl rfl (by first | exact hBk | exact hB _ _ hBk) hvk) rfl ?_
          refine Dx.rT (i := 16) rfl rfl rfl rfl (by kernel_rfl) (ld Try.underlying67 rfl rfl rfl) rfl ?_
          refine Dx.pT (i := 17) rfl rfl rfl rfl (by kernel_rfl) (nilc rfl) rfl ?_
          refine Dx.pT (i := 18) rfl rfl rfl rfl (by kernel_rfl) (fa' fo70_1 rfl) rfl ?_
          refine Dx.rT (i := 19) rfl rfl rfl rfl (by kernel_rfl) (Yx.val (ldB Try.underlying22 rfl rfl (by first | exact hqn | exact hB _ _ hqn) rfl) (show _ = Value.slice (some ⟨bw, ow, none⟩) nd.vs.length nd.cv by rw [← hAw])) rfl ?_
          refine Dx.pT (i := 20) rfl rfl rfl rfl (by kernel_rfl) (mv rfl) rfl ?_
          refine Dx.pT (i := 21) rfl rfl rfl rfl (by kernel_rfl) (ia Try.underlying22 sz9 rfl rfl (by first | exact Int.toNat_natCast _ | rfl) (by omega) (by omega)) rfl ?_
          refine Dx.rT (i := 22) rfl rfl rfl rfl (by kernel_rfl) (ldB Try.underlying9 rfl rfl (by first | exact hBw | exact hB _ _ hBw) hvw) rfl ?_
          refine Dx.one (i := 23) (by kernel_rfl) ?_
          refine Dstep.oT (i := 23) rfl rfl rfl rfl (Ox.yield rfl rfl (hy qs (nd.ks[j], nd.vs[j]'(by omega)) _ _ _ hx3 (Frag.le_trans hBz hle) hJc) (pick3 _ _ _ _ _)) rfl (fun v B' H' hΦ hB => ?_)
          obtain ⟨t, _, rfl, rfl, hΦ⟩ := hΦ
          have hle8 := Frag.le_trans hle hB
          refine ⟨JOk.edge (JOk.yes (JOk.yes (JOk.edge (JOk.yes (JOk.yes (JOk.edge (JOk.yes (JOk.yes (JOk.top) (ld Try.underlying67 rfl rfl rfl)) (ldB Try.underlying22 rfl rfl (by first | exact hqn | exact hB _ _ hqn) rfl)) (by kernel_rfl)) (ld Try.underlying67 rfl rfl rfl)) (Yx.val (ldB Try.underlying22 rfl rfl (by first | exact hqn | exact hB _ _ hqn) rfl) (show _ = Value.slice (some ⟨bk, ok, none⟩) nd.ks.length nd.ck by rw [← hAk]))) (by kernel_rfl)) (ld Try.underlying67 rfl rfl rfl)) (Yx.val (ldB Try.underlying22 rfl rfl (by first | exact hqn | exact hB _ _ hqn) rfl) (show _ = Value.slice (some ⟨bw, ow, none⟩) nd.vs.length nd.cv by rw [← hAw]))) (by kernel_rfl), ?_⟩
          refine Dx.pT (i := 24) rfl rfl rfl rfl (by kernel_rfl) (not' rfl) rfl ?_
          refine Dx.p (i := 25) rfl (by kernel_rfl) (pickT rfl rfl) rfl ?_
          refine Dx.done (by kernel_rfl) ?_
          refine Xx.tn (k14 _ _ _ _ ?_)
          refine Cx.condB rfl (fun h16 => ?_) (fun h16 => ?_)
          · skip
            obtain ⟨_, hΦ⟩ : t = false ∧ Jx (qs ++ [(nd.ks[j], nd.vs[j]'(by omega))]) _ _ := by simpa [show t = false by simpa using h16] using hΦ
            refine Cx.ret ?_
            refine Xx.br ?_
            refine Xx.tr ?_
            refine Xx.tr ?_
            refine Xx.br ?_
            refine Xx.dropB b3 ?_
            exact Xx.rM (Ds := D :: Ds) (fun a w f _ => results_none rfl _ _ _) ⟨_, rfl, .inr ⟨_, _, by rw [hx3, List.append_cons], hΦ⟩⟩ hle8 (by ac_rfl)
          · skip
            obtain ⟨_, hΦ⟩ : t = true ∧ J (qs ++ [(nd.ks[j], nd.vs[j]'(by omega))]) _ _ := by simpa [show t = true by simpa using h16] using hΦ
            have hle := hle8
            have hx4 : fromL lo (io (d + 1) nd) = (qs ++ [(nd.ks[j], nd.vs[j]'(by omega))]) ++ fromL lo (ioL (io d) (nd.ks.drop (j + 1)) (nd.vs.drop (j + 1)) (nd.cs.drop (j + 1))) := by rw [hx3]; simp
            refine Cx.skip ?_
            refine Xx.bn ?_
            refine Xx.tn (k6 _ _ _ _ ?_)
            refine Cx.region ?_
            refine Lx.y (mv rfl) rfl ?_
            refine Lx.y (Yx.val (add rfl rfl (by first | exact wrap64 (by omega) (by omega) | rfl)) (show _ = i64 ((j + 1 : Nat) : Int) from rfl)) rfl ?_
            refine Lx.y (asg rfl) rfl ?_
            refine Lx.nil ?_
            exact Xx.againKD (D :: Ds) rfl ⟨j + 1, _, _, _, ⟨by omega, by omega, hx4, hΦ, hle⟩, rfl, rfl, rfl, (by rw [marks_cons]; ac_rfl)⟩ (by omega) (Sub.cons (s := 4) rfl (Sub.cons (s := 0) rfl (Sub.cons (s := 1) rfl (Sub.cons (s := 2) rfl (Sub.cons (s := 3) rfl (Sub.cons (s := 8) rfl (Sub.cons (s := 9) rfl (Sub.cons (s := 10) rfl (Sub.cons (s := 11) rfl (Sub.cons (s := 12) rfl (Sub.cons (s := 13) rfl (Sub.cons (s := 14) rfl (Sub.cons (s := 15) rfl (Sub.cons (s := 16) rfl (Sub.nil _)))))))))))))))
        · skip
          have hge := h15
          have hjn3 : j = nd.ks.length := by omega
          have hx4 : fromL lo (io (d + 1) nd) = qs ++ fromL lo (ioL (io d) (nd.ks.drop (j + 1)) (nd.vs.drop (j + 1)) (nd.cs.drop (j + 1))) := by rw [hxt, tl_ge (by omega), rest_end hvl hcl (by omega)]
          refine Dx.pF (i := 8) rfl (fun _ h => by cases h) rfl rfl rfl (by kernel_rfl) rfl ?_
          refine Dx.pF (i := 9) rfl (fun _ h => by cases h) rfl rfl rfl (by kernel_rfl) rfl ?_
          refine Dx.pF (i := 10) rfl (fun _ h => by cases h) rfl rfl rfl (by kernel_rfl) rfl ?_
          refine Dx.pF (i := 11) rfl (fun _ h => by cases h) rfl rfl rfl (by kernel_rfl) rfl ?_
          refine Dx.pF (i := 12) rfl (fun _ h => by cases h) rfl rfl rfl (by kernel_rfl) rfl ?_
          refine Dx.pF (i := 13) rfl (fun _ h => by cases h) rfl rfl rfl (by kernel_rfl) rfl ?_
          refine Dx.pF (i := 14) rfl (fun _ h => by cases h) rfl rfl rfl (by kernel_rfl) rfl ?_
          refine Dx.pF (i := 15) rfl (fun _ h => by cases h) rfl rfl rfl (by kernel_rfl) rfl ?_
          refine Dx.pF (i := 16) rfl (fun _ h => by cases h) rfl rfl rfl (by kernel_rfl) rfl ?_
          refine Dx.pF (i := 17) rfl (fun _ h => by cases h) rfl rfl rfl (by kernel_rfl) rfl ?_
          refine Dx.pF (i := 18) rfl (fun _ h => by cases h) rfl rfl rfl (by kernel_rfl) rfl ?_
          refine Dx.pF (i := 19) rfl (fun _ h => by cases h) rfl rfl rfl (by kernel_rfl) rfl ?_
          refine Dx.pF (i := 20) rfl (fun _ h => by cases h) rfl rfl rfl (by kernel_rfl) rfl ?_
          refine Dx.pF (i := 21) rfl (fun _ h => by cases h) rfl rfl rfl (by kernel_rfl) rfl ?_
          refine Dx.pF (i := 22) rfl (fun _ h => by cases h) rfl rfl rfl (by kernel_rfl) rfl ?_
          refine Dx.pF (i := 23) rfl (fun _ h => by cases h) rfl rfl rfl (by kernel_rfl) rfl ?_
          refine Dx.pF (i := 24) rfl (fun _ h => by cases h) rfl rfl rfl (by kernel_rfl) rfl ?_
          refine Dx.p (i := 25) rfl (by kernel_rfl) (pickF rfl rfl) rfl ?_
          refine Dx.done (by kernel_rfl) ?_
          refine Xx.tn (k14 _ _ _ _ ?_)
          refine Cx.condF rfl ?_
          refine Cx.skip ?_
          refine Xx.bn ?_
          refine Xx.tn (k6 _ _ _ _ ?_)
          refine Cx.region ?_
          refine Lx.y (mv rfl) rfl ?_
          refine Lx.y (Yx.val (add rfl rfl (by first | exact wrap64 (by omega) (by omega) | rfl)) (show _ = i64 ((j + 1 : Nat) : Int) from rfl)) rfl ?_
          refine Lx.y (asg rfl) rfl ?_
          refine Lx.nil ?_
          exact Xx.againKD (D :: Ds) rfl ⟨j + 1, _, _, _, ⟨by omega, by omega, hx4, hJc, hle⟩, rfl, rfl, rfl, rfl⟩ (by omega) (Sub.cons (s := 4) rfl (Sub.cons (s := 0) rfl (Sub.cons (s := 1) rfl (Sub.cons (s := 2) rfl (Sub.cons (s := 3) rfl (Sub.cons (s := 8) rfl (Sub.cons (s := 9) rfl (Sub.cons (s := 10) rfl (Sub.cons (s := 11) rfl (Sub.cons (s := 12) rfl (Sub.cons (s := 13) rfl (Sub.cons (s := 14) rfl (Sub.cons (s := 15) rfl (Sub.cons (s := 16) rfl (Sub.nil _)))))))))))))))
      · rintro D c pre post B' H' hxs hBx hJx
        obtain ⟨rfl, Hc, hJc, rfl⟩ := hJx
        have hle := Frag.le_trans hle hBx
        have hxt : fromL lo (io (d + 1) nd) = (qs ++ pre) ++ (post ++ fromL lo (tl (io d) nd.ks nd.vs nd.cs j)) := by rw [hxs0, tl_kid hvl hcl2 hcj, fromL_app, hxs]; simp
        refine Cx.ret ?_
        refine Xx.br ?_
        refine Xx.tr ?_
        refine Xx.br ?_
        refine Xx.tr ?_
        refine Xx.tr ?_
        refine Xx.br ?_
        simp only [star_assoc]
        refine Xx.dropB b3 (Xx.dropB b4 (Xx.dropB b5 ?_))
        exact Xx.rM (Ds := D :: Ds) (fun a w f _ => results_none rfl _ _ _) ⟨_, rfl, .inr ⟨_, _, hxt, hJc⟩⟩ hle (by rw [marks_cons]; ac_rfl)
    · skip
      have hz := h9
      have hc0 : nd.cs = [] := List.length_eq_zero_iff.1 (by omega)
      have hJc := hJq
      have hle := hB2
      have hxt : fromL lo (io (d + 1) nd) = qs ++ fromL lo (tl (io d) nd.ks nd.vs nd.cs j) := by rw [hxs0, hc0, tl_leaf hvl]
      refine Cx.skip ?_
      refine Xx.tn (k7 _ _ _ _ ?_)
      refine Cx.seq (fun K17 k17 => ?_)
      refine Cx.drawn (by kernel_rfl) ?_
      refine Dx.p (i := 0) rfl (by kernel_rfl) (mv rfl) rfl ?_
      refine Dx.r (i := 1) rfl (by kernel_rfl) (ld Try.underlying67 rfl rfl rfl) rfl ?_
      refine Dx.p (i := 2) rfl (by kernel_rfl) (nilc rfl) rfl ?_
      refine Dx.p (i := 3) rfl (by kernel_rfl) (fa' fo70_0 rfl) rfl ?_
      refine Dx.r (i := 4) rfl (by kernel_rfl) (ldB Try.underlying22 rfl rfl (by first | exact hqn | exact hB _ _ hqn) rfl) rfl ?_
      refine Dx.p (i := 5) rfl (by kernel_rfl) (lenV (ty' := 0) Try.underlying22 rfl) rfl ?_
      refine Dx.p (i := 6) rfl (by kernel_rfl) (lss rfl rfl) rfl ?_
      refine Dx.p (i := 7) rfl (by kernel_rfl) (mv rfl) rfl ?_
      refine Xx.ifD (t := 55) rfl (fun h18 => ?_) (fun h18 => ?_)
      · skip
        have hlt := h18
        have hlt : j < nd.ks.length := by omega
        obtain ⟨bk, ok, csk, etk, fzk, hAk, hBk, hvk⟩ := roe_str hRk hlt rfl
        obtain ⟨bw, ow, csw, etw, fzw, hAw, hBw, hvw⟩ := roe_str hRv (show j < nd.vs.length by omega) rfl
        have hx3 : fromL lo (io (d + 1) nd) = qs ++ (nd.ks[j], nd.vs[j]'(by omega)) :: fromL lo (ioL (io d) (nd.ks.drop (j + 1)) (nd.vs.drop (j + 1)) (nd.cs.drop (j + 1))) := by
          have hge : bless nd.ks[j] lo = false := by
            have h9 := (lb_spec (t := lo) hs).2 (by omega)
            rcases Nat.lt_or_ge (lb nd.ks lo) j with h8 | h8
            · cases hb8 : bless nd.ks[j] lo with
              | false => rfl
              | true => rw [bless_trans (hs.lt hlt h8) hb8] at h9; cases h9
            · obtain rfl : lb nd.ks lo = j := by omega
              exact h9
          rw [hxt, tl_lt hlt (by omega), fromL_cons hge]
        refine Dx.rT (i := 8) rfl rfl rfl rfl (by kernel_rfl) (ld Try.underlying30 rfl rfl rfl) rfl ?_
        refine Dx.rT (i := 9) rfl rfl rfl rfl (by kernel_rfl) (ld Try.underlying67 rfl rfl rfl) rfl ?_
        refine Dx.pT (i := 10) rfl rfl rfl rfl (by kernel_rfl) (nilc rfl) rfl ?_
        refine Dx.pT (i := 11) rfl rfl rfl rfl (by kernel_rfl) (fa' fo70_0 rfl) rfl ?_
        refine Dx.rT (i := 12) rfl rfl rfl rfl (by kernel_rfl) (Yx.val (ldB Try.underlying22 rfl rfl (by first | exact hqn | exact hB _ _ hqn) rfl) (show _ = Value.slice (some ⟨bk, ok, none⟩) nd.ks.length nd.ck by rw [← hAk])) rfl ?_
        refine Dx.pT (i := 13) rfl rfl rfl rfl (by kernel_rfl) (mv rfl) rfl ?_
        refine Dx.pT (i := 14) rfl rfl rfl rfl (by kernel_rfl) (ia Try.underlying22 sz9 rfl rfl (by first | exact Int.toNat_natCast _ | rfl) (by omega) (by omega)) rfl ?_
        refine Dx.rT (i := 15) rfl rfl rfl rfl (by kernel_rfl) (ldB Try.underlying9 rfl rfl (by first | exact hBk | exact hB _ _ hBk) hvk) rfl ?_
        refine Dx.rT (i := 16) rfl rfl rfl rfl (by kernel_rfl) (ld Try.underlying67 rfl rfl rfl) rfl ?_
        refine Dx.pT (i := 17) rfl rfl rfl rfl (by kernel_rfl) (nilc rfl) rfl ?_
        refine Dx.pT (i := 18) rfl rfl rfl rfl (by kernel_rfl) (fa' fo70_1 rfl) rfl ?_
        refine Dx.rT (i := 19) rfl rfl rfl rfl (by kernel_rfl) (Yx.val (ldB Try.underlying22 rfl rfl (by first | exact hqn | exact hB _ _ hqn) rfl) (show _ = Value.slice (some ⟨bw, ow, none⟩) nd.vs.length nd.cv by rw [← hAw])) rfl ?_
        refine Dx.pT (i := 20) rfl rfl rfl rfl (by kernel_rfl) (mv rfl) rfl ?_
        refine Dx.pT (i := 21) rfl rfl rfl rfl (by kernel_rfl) (ia Try.underlying22 sz9 rfl rfl (by first | exact Int.toNat_natCast _ | rfl) (by omega) (by omega)) rfl ?_
        refine Dx.rT (i := 22) rfl rfl rfl rfl (by kernel_rfl) (ldB Try.underlying9 rfl rfl (by first | exact hBw | exact hB _ _ hBw) hvw) rfl ?_
        refine Dx.one (i := 23) (by kernel_rfl) ?_
        refine Dstep.oT (i := 23) rfl rfl rfl rfl (Ox.yield rfl rfl (hy qs (nd.ks[j], nd.vs[j]'(by omega)) _ _ _ hx3 (Frag.le_trans hBz hle) hJc) (pick3 _ _ _ _ _)) rfl (fun v B' H' hΦ hB => ?_)
        obtain ⟨t, _, rfl, rfl, hΦ⟩ := hΦ
        have hle8 := Frag.le_trans hle hB
        refine ⟨JOk.edge (JOk.yes (JOk.yes (JOk.edge (JOk.yes (JOk.yes (JOk.edge (JOk.yes (JOk.yes (JOk.top) (ld Try.underlying67 rfl rfl rfl)) (ldB Try.underlying22 rfl rfl (by first | exact hqn | exact hB _ _ hqn) rfl)) (by kernel_rfl)) (ld Try.underlying67 rfl rfl rfl)) (Yx.val (ldB Try.underlying22 rfl rfl (by first | exact hqn | exact hB _ _ hqn) rfl) (show _ = Value.slice (some ⟨bk, ok, none⟩) nd.ks.length nd.ck by rw [← hAk]))) (by kernel_rfl)) (ld Try.underlying67 rfl rfl rfl)) (Yx.val (ldB Try.underlying22 rfl rfl (by first | exact hqn | exact hB _ _ hqn) rfl) (show _ = Value.slice (some ⟨bw, ow, none⟩) nd.vs.length nd.cv by rw [← hAw]))) (by kernel_rfl), ?_⟩
        refine Dx.pT (i := 24) rfl rfl rfl rfl (by kernel_rfl) (not' rfl) rfl ?_
        refine Dx.p (i := 25) rfl (by kernel_rfl) (pickT rfl rfl) rfl ?_
        refine Dx.done (by kernel_rfl) ?_
        refine Xx.tn (k17 _ _ _ _ ?_)
        refine Cx.condB rfl (fun h19 => ?_) (fun h19 => ?_)
        · skip
          obtain ⟨_, hΦ⟩ : t = false ∧ Jx (qs ++ [(nd.ks[j], nd.vs[j]'(by omega))]) _ _ := by simpa [show t = false by simpa using h19] using hΦ
          refine Cx.ret ?_
          refine Xx.br ?_
          refine Xx.tr ?_
          refine Xx.tr ?_
          refine Xx.br ?_
          refine Xx.dropB b3 ?_
          exact Xx.rM (Ds := Ds) (fun a w f _ => results_none rfl _ _ _) ⟨_, rfl, .inr ⟨_, _, by rw [hx3, List.append_cons], hΦ⟩⟩ hle8 (by ac_rfl)
        · skip
          obtain ⟨_, hΦ⟩ : t = true ∧ J (qs ++ [(nd.ks[j], nd.vs[j]'(by omega))]) _ _ := by simpa [show t = true by simpa using h19] using hΦ
          have hle := hle8
          have hx4 : fromL lo (io (d + 1) nd) = (qs ++ [(nd.ks[j], nd.vs[j]'(by omega))]) ++ fromL lo (ioL (io d) (nd.ks.drop (j + 1)) (nd.vs.drop (j + 1)) (nd.cs.drop (j + 1))) := by rw [hx3]; simp
          refine Cx.skip ?_
          refine Xx.bn ?_
          refine Xx.tn (k6 _ _ _ _ ?_)
          refine Cx.region ?_
          refine Lx.y (mv rfl) rfl ?_
          refine Lx.y (Yx.val (add rfl rfl (by first | exact wrap64 (by omega) (by omega) | rfl)) (show _ = i64 ((j + 1 : Nat) : Int) from rfl)) rfl ?_
          refine Lx.y (asg rfl) rfl ?_
          refine Lx.nil ?_
          exact Xx.againKD (Ds) rfl ⟨j + 1, _, _, _, ⟨by omega, by omega, hx4, hΦ, hle⟩, rfl, rfl, rfl, (by ac_rfl)⟩ (by omega) (Sub.cons (s := 4) rfl (Sub.cons (s := 0) rfl (Sub.cons (s := 1) rfl (Sub.cons (s := 2) rfl (Sub.cons (s := 3) rfl (Sub.cons (s := 8) rfl (Sub.cons (s := 9) rfl (Sub.cons (s := 10) rfl (Sub.cons (s := 11) rfl (Sub.cons (s := 12) rfl (Sub.cons (s := 13) rfl (Sub.cons (s := 14) rfl (Sub.cons (s := 15) rfl (Sub.cons (s := 16) rfl (Sub.nil _)))))))))))))))
      · skip
        have hge := h18
        have hjn3 : j = nd.ks.length := by omega
        have hx4 : fromL lo (io (d + 1) nd) = qs ++ fromL lo (ioL (io d) (nd.ks.drop (j + 1)) (nd.vs.drop (j + 1)) (nd.cs.drop (j + 1))) := by rw [hxt, tl_ge (by omega), rest_end hvl hcl (by omega)]
        refine Dx.pF (i := 8) rfl (fun _ h => by cases h) rfl rfl rfl (by kernel_rfl) rfl ?_
        refine Dx.pF (i := 9) rfl (fun _ h => by cases h) rfl rfl rfl (by kernel_rfl) rfl ?_
        refine Dx.pF (i := 10) rfl (fun _ h => by cases h) rfl rfl rfl (by kernel_rfl) rfl ?_
        refine Dx.pF (i := 11) rfl (fun _ h => by cases h) rfl rfl rfl (by kernel_rfl) rfl ?_
        refine Dx.pF (i := 12) rfl (fun _ h => by cases h) rfl rfl rfl (by kernel_rfl) rfl ?_
        refine Dx.pF (i := 13) rfl (fun _ h => by cases h) rfl rfl rfl (by kernel_rfl) rfl ?_
        refine Dx.pF (i := 14) rfl (fun _ h => by cases h) rfl rfl rfl (by kernel_rfl) rfl ?_
        refine Dx.pF (i := 15) rfl (fun _ h => by cases h) rfl rfl rfl (by kernel_rfl) rfl ?_
        refine Dx.pF (i := 16) rfl (fun _ h => by cases h) rfl rfl rfl (by kernel_rfl) rfl ?_
        refine Dx.pF (i := 17) rfl (fun _ h => by cases h) rfl rfl rfl (by kernel_rfl) rfl ?_
        refine Dx.pF (i := 18) rfl (fun _ h => by cases h) rfl rfl rfl (by kernel_rfl) rfl ?_
        refine Dx.pF (i := 19) rfl (fun _ h => by cases h) rfl rfl rfl (by kernel_rfl) rfl ?_
        refine Dx.pF (i := 20) rfl (fun _ h => by cases h) rfl rfl rfl (by kernel_rfl) rfl ?_
        refine Dx.pF (i := 21) rfl (fun _ h => by cases h) rfl rfl rfl (by kernel_rfl) rfl ?_
        refine Dx.pF (i := 22) rfl (fun _ h => by cases h) rfl rfl rfl (by kernel_rfl) rfl ?_
        refine Dx.pF (i := 23) rfl (fun _ h => by cases h) rfl rfl rfl (by kernel_rfl) rfl ?_
        refine Dx.pF (i := 24) rfl (fun _ h => by cases h) rfl rfl rfl (by kernel_rfl) rfl ?_
        refine Dx.p (i := 25) rfl (by kernel_rfl) (pickF rfl rfl) rfl ?_
        refine Dx.done (by kernel_rfl) ?_
        refine Xx.tn (k17 _ _ _ _ ?_)
        refine Cx.condF rfl ?_
        refine Cx.skip ?_
        refine Xx.bn ?_
        refine Xx.tn (k6 _ _ _ _ ?_)
        refine Cx.region ?_
        refine Lx.y (mv rfl) rfl ?_
        refine Lx.y (Yx.val (add rfl rfl (by first | exact wrap64 (by omega) (by omega) | rfl)) (show _ = i64 ((j + 1 : Nat) : Int) from rfl)) rfl ?_
        refine Lx.y (asg rfl) rfl ?_
        refine Lx.nil ?_
        exact Xx.againKD (Ds) rfl ⟨j + 1, _, _, _, ⟨by omega, by omega, hx4, hJc, hle⟩, rfl, rfl, rfl, rfl⟩ (by omega) (Sub.cons (s := 4) rfl (Sub.cons (s := 0) rfl (Sub.cons (s := 1) rfl (Sub.cons (s := 2) rfl (Sub.cons (s := 3) rfl (Sub.cons (s := 8) rfl (Sub.cons (s := 9) rfl (Sub.cons (s := 10) rfl (Sub.cons (s := 11) rfl (Sub.cons (s := 12) rfl (Sub.cons (s := 13) rfl (Sub.cons (s := 14) rfl (Sub.cons (s := 15) rfl (Sub.cons (s := 16) rfl (Sub.nil _)))))))))))))))
  · skip
    have hjn2 := h5
    refine Cx.exit ?_
    refine Xx.te ?_
    refine Xx.te ?_
    refine Xx.bh ?_
    refine Xx.dropB b3 ?_
    exact Xx.eM Ds rfl (fun a w f _ => results_none rfl _ _ _) ⟨_, rfl, .inl (by rw [hxs0, rest_end hvl hcl (by omega)]; show J (qs ++ []) _ _; rw [List.append_nil]; exact hJq)⟩ hB2 (by ac_rfl)
end BtR
end Go.Proofs.Ytcoiejmlpinpbaa
