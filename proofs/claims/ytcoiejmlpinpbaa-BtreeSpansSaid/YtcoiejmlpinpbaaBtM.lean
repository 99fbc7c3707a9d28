/-
  New, Len, Put of a tree; a nil tree.
-/
import Derived.Test.YtcoiejmlpinpbaaProg
import Derived.Test.YtcoiejmlpinpbaaSlj
import Derived.Test.YtcoiejmlpinpbaaBtL
import Derived.Test.YtcoiejmlpinpbaaSlt
namespace Go.Proofs.Ytcoiejmlpinpbaa
open Go.SL Go.RowKit
set_option linter.unusedVariables false
set_option linter.unusedSimpArgs false
set_option maxRecDepth 100000
open BtA BtB BtC BtD BtE BtG BtH BtI BtF BtJ BtK BtL
namespace BtM
theorem sz3 : (Try.prog.info? 3).map (·.size) = some 1 := by kernel_rfl
theorem sz67 : (Try.prog.info? 67).map (·.size) = some 1 := by kernel_rfl
theorem sz70 : (Try.prog.info? 70).map (·.size) = some 3 := by kernel_rfl
theorem sz72 : (Try.prog.info? 72).map (·.size) = some 2 := by kernel_rfl
theorem ti67 : TI Try.prog 67 [.pointer none] 1 8 := TI.of (by kernel_rfl) rfl rfl
theorem ti70 : TI Try.prog 70 [.slice none 0 0, .slice none 0 0, .slice none 0 0] 3 72 := TI.of (by kernel_rfl) rfl rfl
theorem ti72 : TI Try.prog 72 [.pointer none, .int .i64 0] 2 16 := TI.of (by kernel_rfl) rfl rfl
theorem fo70_0 : FO Try.prog 70 0 0 1 false := FO.of Try.underlying70 rfl rfl (by kernel_rfl) Try.underlying22 rfl rfl
theorem fo72_0 : FO Try.prog 72 0 0 1 false := FO.of Try.underlying72 rfl rfl (by kernel_rfl) Try.underlying67 rfl rfl
theorem fo72_1 : FO Try.prog 72 1 1 1 false := FO.of Try.underlying72 rfl rfl (by kernel_rfl) Try.underlying3 rfl rfl
theorem pl70 : PL Try.prog 70 [(0, 1), (1, 1), (2, 1)] := PL.of Try.underlying70 (by kernel_rfl)
theorem pl72 : PL Try.prog 72 [(0, 1), (1, 1)] := PL.of Try.underlying72 (by kernel_rfl)

/-- A tree of one's own: its root, how many keys it has. -/
abbrev tree (tb d : Nat) (c : C) : HP := row tb 72 [pt c, i64 ((io (d + 1) c).length : Nat)] * tr (d + 1) c
theorem insP_len {k v : Str8} : ∀ {l : List (Str8 × Str8)}, Ord l → (insP k v l).length = if k ∈ l.map (·.1) then l.length else l.length + 1 := by
  intro l
  induction l with
  | nil => intro _; simp [insP]
  | cons p l ih =>
    intro h
    obtain ⟨h1, h2⟩ := List.pairwise_cons.1 h
    unfold insP
    by_cases hb : bless p.1 k = true
    · have hne : ¬ k = p.1 := fun e => by rw [e, bless_irrefl] at hb; cases hb
      rw [if_pos hb, List.length_cons, ih h2, List.map_cons]
      simp only [List.mem_cons, hne, false_or]
      split <;> simp
    · rw [if_neg hb]
      by_cases he : p.1 = k
      · rw [if_pos he, if_pos (by simp [he])]; simp
      · have hlt : bless k p.1 = true := by
          cases hc : bless k p.1 with
          | true => rfl
          | false => exact absurd (bless_total (by simpa using hb) hc) he
        have hn : ¬ k ∈ (p :: l).map (·.1) := by
          intro hm
          obtain ⟨q, hq, e⟩ := List.mem_map.1 hm
          rcases List.mem_cons.1 hq with rfl | hq
          · exact he e
          · have := bless_trans hlt (h1 q hq)
            rw [e, bless_irrefl] at this; cases this
        rw [if_neg he, if_neg hn]; simp
theorem ks_le {N d : Nat} {c : C} (hok : Ok N (d + 1) c) : c.ks.length ≤ (io (d + 1) c).length := by
  have := (keys_sub (io d) c.ks c.vs c.cs hok.1).length_le
  rw [List.length_map] at this; exact this
theorem root_keys {N0 d tb : Nat} {B : Frag} {R : HP} {vs : List Value} {c : C} : Cells N0 B (row tb 72 vs * (tr (d + 1) c * R)) c.b (0 + 0) [.slice c.Ak c.ks.length c.ck] := by
  refine under ?_
  rw [tr_succ, star_assoc]
  exact Cells.own (n := 1) rfl rfl
theorem Get_ct (N d : Nat) (hN : N ≤ 90) (c : C) (tb : Nat) (k : Str8) (B : Frag) (hok : Ok N (d + 1) c) (ho : Ord (io (d + 1) c)) : CtC Try.prog 17 [.pointer (some ⟨tb, 0, none⟩), str k] B (tree tb d c) (.tuple #[str (lkp k (io (d + 1) c)), .bool (decide (k ∈ (io (d + 1) c).map (·.1)))]) (tree tb d c) := by
  refine CtC.lend (Go.SL.enters_of Try.func17 rfl (by kernel_rfl)) ?_
  rintro k ⟨k1, m1, d1, e1, h1, h2⟩ ha
  have l1 := un_le (B := B) e1 d1
  exact Get_ro N d hN c tb _ _ _ _ (l1.1 _ _ (row_ro h1 (ap_left ha e1))) ((tr_ro _ _ _ h2 (ap_right ha e1 d1) hok.fit).mono l1.2) hok ho
def rootC (b bs : Nat) (c : C) : C := .mk b none 0 none 0 (some ⟨bs, 0, none⟩) 1 [] [] [c]
theorem rootC_tr {d b bs : Nat} {c : C} : tr (d + 2) (rootC b bs c) = row b 70 [.slice none 0 0, .slice none 0 0, .slice (some ⟨bs, 0, none⟩) 1 1] * (sbuf 67 1 (some ⟨bs, 0, none⟩) 1 1 [pt c] * tr (d + 1) c) := by
  rw [tr_succ]
  simp only [rootC, nrow, kbuf, vbuf, cbuf, ncells, C.b, C.Ak, C.ck, C.Av, C.cv, C.Ac, C.cc, C.ks, C.vs, C.cs, List.map_nil, List.map_cons, List.length_nil, List.length_cons, sbuf_nil, one_star, trs, star_one]
theorem rootC_ok {N d b bs : Nat} {c : C} (hok : Ok N (d + 1) c) (h7 : c.ks.length = 7) : Ok 90 (d + 2) (rootC b bs c) :=
  ⟨rfl, Nat.zero_le _, .inr rfl, fun p hp => by rcases List.mem_singleton.1 hp with rfl; exact ⟨hok.1, by omega, hok.2.2⟩⟩
theorem rootC_io {d b bs : Nat} {c : C} : io (d + 2) (rootC b bs c) = io (d + 1) c := rfl

set_option maxHeartbeats 1000000 in
theorem New_ct (B : Frag) : Ct Try.prog 10 [] B 1 (fun v B' H' => B' = B ∧ ∃ tb c, v = .pointer (some ⟨tb, 0, none⟩) ∧ H' = tree tb 0 c ∧ Ok 90 1 c ∧ io 1 c = []) := by
  refine Ct.of_body Try.func10 rfl (nt := 5) rfl (by kernel_rfl) rfl ?_
  intro N0 w0 R
  rw [one_star]
  refine Cx.seq (fun K1 k1 => ?_)
  refine Cx.region ?_
  refine Lx.y (asg rfl) rfl ?_
  refine Lx.nil ?_
  refine Xx.tn (k1 _ _ _ _ ?_)
  refine Cx.seq (fun K2 k2 => ?_)
  refine Cx.region ?_
  refine Lx.y (bld ti70 pl70 rfl rfl) rfl ?_
  refine Lx.new (boxA rfl) rfl (fun b1 => ?_)
  refine Lx.y (bld ti72 pl72 rfl rfl) rfl ?_
  refine Lx.new (boxA rfl) rfl (fun b3 => ?_)
  refine Lx.y (asg rfl) rfl ?_
  refine Lx.nil ?_
  refine Xx.tn (k2 _ _ _ _ ?_)
  refine Cx.ret ?_
  exact Xx.ret1 rfl rfl ⟨rfl, b3, .mk b1 none 0 none 0 none 0 [] [] [], rfl, rfl, ⟨rfl, Nat.zero_le _, .inl rfl, fun p hp => by cases hp⟩, rfl⟩ (Frag.le_refl _) (by unfold tree; rw [tr_succ]; simp only [nrow, kbuf, vbuf, cbuf, ncells, C.b, C.Ak, C.ck, C.Av, C.cv, C.Ac, C.cc, C.ks, C.vs, C.cs, List.map_nil, List.length_nil, sbuf_nil, one_star, trs, star_one]; rw [star_assoc]; rfl)

set_option maxHeartbeats 1000000 in
theorem GetNil (k : Str8) (B : Frag) : CtP Try.prog 17 [.pointer none, str k] B (.tuple #[str [], .bool false]) := by
  refine CtB.of_body Try.func17 rfl (nt := 45) rfl (by kernel_rfl) rfl ?_
  intro N0 w0 R
  refine Cx.seq (fun K1 k1 => ?_)
  refine Cx.region ?_
  refine Lx.y (asg rfl) rfl ?_
  refine Lx.y (asg rfl) rfl ?_
  refine Lx.nil ?_
  refine Xx.tn (k1 _ _ _ _ ?_)
  refine Cx.seq (fun K2 k2 => ?_)
  refine Cx.seq (fun K3 k3 => ?_)
  refine Cx.region ?_
  refine Lx.y (mv rfl) rfl ?_
  refine Lx.y (Yx.tt (eqNilP Try.underlying26 rfl rfl) rfl) rfl ?_
  refine Lx.nil ?_
  refine Xx.tn (k3 _ _ _ _ ?_)
  refine Cx.condT rfl ?_
  refine Cx.seq (fun K4 k4 => ?_)
  refine Cx.region ?_
  refine Lx.y (asg rfl) rfl ?_
  refine Lx.y (asg rfl) rfl ?_
  refine Lx.nil ?_
  refine Xx.tn (k4 _ _ _ _ ?_)
  refine Cx.ret ?_
  refine Xx.tr ?_
  exact Xx.rB2 rfl rfl rfl ⟨rfl, rfl⟩ (Frag.le_refl _) rfl

set_option maxHeartbeats 1000000 in
theorem PutNil (k v : Str8) (B : Frag) : CtP Try.prog 12 [.pointer none, str k, str v] B (.bool false) := by
  refine CtB.of_body Try.func12 rfl (nt := 62) rfl (by kernel_rfl) rfl ?_
  intro N0 w0 R
  refine Cx.seq (fun K1 k1 => ?_)
  refine Cx.region ?_
  refine Lx.y (asg rfl) rfl ?_
  refine Lx.nil ?_
  refine Xx.tn (k1 _ _ _ _ ?_)
  refine Cx.seq (fun K2 k2 => ?_)
  refine Cx.seq (fun K3 k3 => ?_)
  refine Cx.region ?_
  refine Lx.y (mv rfl) rfl ?_
  refine Lx.y (Yx.tt (eqNilP Try.underlying26 rfl rfl) rfl) rfl ?_
  refine Lx.nil ?_
  refine Xx.tn (k3 _ _ _ _ ?_)
  refine Cx.condT rfl ?_
  refine Cx.seq (fun K4 k4 => ?_)
  refine Cx.region ?_
  refine Lx.y (asg rfl) rfl ?_
  refine Lx.nil ?_
  refine Xx.tn (k4 _ _ _ _ ?_)
  refine Cx.ret ?_
  refine Xx.tr ?_
  exact Xx.rB1 rfl rfl ⟨rfl, rfl⟩ (Frag.le_refl _) rfl

set_option maxHeartbeats 1000000 in
theorem DropNil (k : Str8) (B : Frag) : CtP Try.prog 19 [.pointer none, str k] B (.bool false) := by
  refine CtB.of_body Try.func19 rfl (nt := 55) rfl (by kernel_rfl) rfl ?_
  intro N0 w0 R
  refine Cx.seq (fun K1 k1 => ?_)
  refine Cx.region ?_
  refine Lx.y (asg rfl) rfl ?_
  refine Lx.nil ?_
  refine Xx.tn (k1 _ _ _ _ ?_)
  refine Cx.seq (fun K2 k2 => ?_)
  refine Cx.seq (fun K3 k3 => ?_)
  refine Cx.region ?_
  refine Lx.y (mv rfl) rfl ?_
  refine Lx.y (Yx.tt (eqNilP Try.underlying26 rfl rfl) rfl) rfl ?_
  refine Lx.y (mv rfl) rfl ?_
  refine Lx.gF rfl rfl rfl rfl ?_
  refine Lx.gF rfl rfl rfl rfl ?_
  refine Lx.gF rfl rfl rfl rfl ?_
  refine Lx.gF rfl rfl rfl rfl ?_
  refine Lx.gF rfl rfl rfl rfl ?_
  refine Lx.gF rfl rfl rfl rfl ?_
  refine Lx.gF rfl rfl rfl rfl ?_
  refine Lx.y (pickT rfl rfl) rfl ?_
  refine Lx.nil ?_
  refine Xx.tn (k3 _ _ _ _ ?_)
  refine Cx.condT rfl ?_
  refine Cx.seq (fun K4 k4 => ?_)
  refine Cx.region ?_
  refine Lx.y (asg rfl) rfl ?_
  refine Lx.nil ?_
  refine Xx.tn (k4 _ _ _ _ ?_)
  refine Cx.ret ?_
  refine Xx.tr ?_
  exact Xx.rB1 rfl rfl ⟨rfl, rfl⟩ (Frag.le_refl _) rfl

set_option maxHeartbeats 1000000 in
theorem LenNil (B : Frag) : CtP Try.prog 20 [.pointer none] B (i64 0) := by
  refine CtB.of_body Try.func20 rfl (nt := 9) rfl (by kernel_rfl) rfl ?_
  intro N0 w0 R
  refine Cx.seq (fun K1 k1 => ?_)
  refine Cx.region ?_
  refine Lx.y (asg rfl) rfl ?_
  refine Lx.nil ?_
  refine Xx.tn (k1 _ _ _ _ ?_)
  refine Cx.seq (fun K2 k2 => ?_)
  refine Cx.seq (fun K3 k3 => ?_)
  refine Cx.region ?_
  refine Lx.y (mv rfl) rfl ?_
  refine Lx.y (Yx.tt (eqNilP Try.underlying26 rfl rfl) rfl) rfl ?_
  refine Lx.nil ?_
  refine Xx.tn (k3 _ _ _ _ ?_)
  refine Cx.condT rfl ?_
  refine Cx.seq (fun K4 k4 => ?_)
  refine Cx.region ?_
  refine Lx.y (asg rfl) rfl ?_
  refine Lx.nil ?_
  refine Xx.tn (k4 _ _ _ _ ?_)
  refine Cx.ret ?_
  refine Xx.tr ?_
  exact Xx.rB1 rfl rfl ⟨rfl, rfl⟩ (Frag.le_refl _) rfl

set_option maxHeartbeats 1000000 in
theorem DeepNil (B : Frag) : CtP Try.prog 21 [.pointer none] B (i64 0) := by
  refine CtB.of_body Try.func21 rfl (nt := 10) rfl (by kernel_rfl) rfl ?_
  intro N0 w0 R
  refine Cx.seq (fun K1 k1 => ?_)
  refine Cx.region ?_
  refine Lx.y (asg rfl) rfl ?_
  refine Lx.nil ?_
  refine Xx.tn (k1 _ _ _ _ ?_)
  refine Cx.seq (fun K2 k2 => ?_)
  refine Cx.seq (fun K3 k3 => ?_)
  refine Cx.region ?_
  refine Lx.y (mv rfl) rfl ?_
  refine Lx.y (Yx.tt (eqNilP Try.underlying26 rfl rfl) rfl) rfl ?_
  refine Lx.nil ?_
  refine Xx.tn (k3 _ _ _ _ ?_)
  refine Cx.condT rfl ?_
  refine Cx.seq (fun K4 k4 => ?_)
  refine Cx.region ?_
  refine Lx.y (asg rfl) rfl ?_
  refine Lx.nil ?_
  refine Xx.tn (k4 _ _ _ _ ?_)
  refine Cx.ret ?_
  refine Xx.tr ?_
  exact Xx.rB1 rfl rfl ⟨rfl, rfl⟩ (Frag.le_refl _) rfl

set_option maxHeartbeats 1000000 in
theorem Len_ct (tb : Nat) (p n : Value) (B : Frag) : CtC Try.prog 20 [.pointer (some ⟨tb, 0, none⟩)] B (row tb 72 [p, n]) n (row tb 72 [p, n]) := by
  refine Ct.of_body Try.func20 rfl (nt := 9) rfl (by kernel_rfl) rfl ?_
  intro N0 w0 R
  refine Cx.seq (fun K1 k1 => ?_)
  refine Cx.region ?_
  refine Lx.y (asg rfl) rfl ?_
  refine Lx.nil ?_
  refine Xx.tn (k1 _ _ _ _ ?_)
  refine Cx.seq (fun K2 k2 => ?_)
  refine Cx.seq (fun K3 k3 => ?_)
  refine Cx.region ?_
  refine Lx.y (mv rfl) rfl ?_
  refine Lx.y (Yx.ff (eqNilP Try.underlying26 rfl rfl) rfl) rfl ?_
  refine Lx.nil ?_
  refine Xx.tn (k3 _ _ _ _ ?_)
  refine Cx.condF rfl ?_
  refine Cx.skip ?_
  refine Xx.tn (k2 _ _ _ _ ?_)
  refine Cx.seq (fun K4 k4 => ?_)
  refine Cx.region ?_
  refine Lx.y (mv rfl) rfl ?_
  refine Lx.y (nilc rfl) rfl ?_
  refine Lx.y (fa' fo72_1 rfl) rfl ?_
  refine Lx.y (ld Try.underlying3 rfl rfl rfl) rfl ?_
  refine Lx.y (asg rfl) rfl ?_
  refine Lx.nil ?_
  refine Xx.tn (k4 _ _ _ _ ?_)
  refine Cx.ret ?_
  exact Xx.ret1 rfl rfl ⟨rfl, rfl, rfl⟩ (Frag.le_refl _) rfl

set_option maxHeartbeats 4000000 in
theorem Put_ct (d : Nat) (c : C) (tb : Nat) (k v : Str8) (B : Frag) (hok : Ok 90 (d + 1) c) (ho : Ord (io (d + 1) c)) (hlen : (io (d + 1) c).length ≤ 80) : Ct Try.prog 12 [.pointer (some ⟨tb, 0, none⟩), str k, str v] B (tree tb d c) (fun r B' H' => B' = B ∧ ∃ d' c', r = .bool (!decide (k ∈ (io (d + 1) c).map (·.1))) ∧ H' = tree tb d' c' ∧ Ok 90 (d' + 1) c' ∧ io (d' + 1) c' = insP k v (io (d + 1) c) ∧ (c.ks.length < 7 → d' = d)) := by
  have hkl := ks_le hok
  refine Ct.of_body Try.func12 rfl (nt := 62) rfl (by kernel_rfl) rfl ?_
  intro N0 w0 R
  refine Cx.seq (fun K1 k1 => ?_)
  refine Cx.region ?_
  refine Lx.y (asg rfl) rfl ?_
  refine Lx.nil ?_
  refine Xx.tn (k1 _ _ _ _ ?_)
  refine Cx.seq (fun K2 k2 => ?_)
  refine Cx.seq (fun K3 k3 => ?_)
  refine Cx.region ?_
  refine Lx.y (mv rfl) rfl ?_
  refine Lx.y (Yx.ff (eqNilP Try.underlying26 rfl rfl) rfl) rfl ?_
  refine Lx.nil ?_
  refine Xx.tn (k3 _ _ _ _ ?_)
  refine Cx.condF rfl ?_
  refine Cx.skip ?_
  refine Xx.tn (k2 _ _ _ _ ?_)
  refine Cx.cutK (ds' := []) (Sub.cons (s := 0) rfl (Sub.cons (s := 1) rfl (Sub.cons (s := 2) rfl (Sub.cons (s := 6) rfl (Sub.cons (s := 10) rfl (Sub.cons (s := 11) rfl (Sub.nil _))))))) (fun ρ' B' H' => ∃ d2 c2, ρ' = [] ∧ B = B' ∧ row tb 72 [pt c2, i64 ((io (d + 1) c).length : Nat)] * (tr (d2 + 1) c2 * R) = H' ∧ Ok 90 (d2 + 1) c2 ∧ io (d2 + 1) c2 = io (d + 1) c ∧ c2.ks.length < 90 ∧ (c.ks.length < 7 → d2 = d)) ?_ ?_
  · skip
    refine Cx.seq (fun K4 k4 => ?_)
    refine Cx.region ?_
    refine Lx.y (mv rfl) rfl ?_
    refine Lx.y (mv rfl) rfl ?_
    refine Lx.co rfl rfl rfl (Get_ct 90 d (by decide) c tb k _ hok ho) (rfl) rfl ?_
    refine Lx.y (mv rfl) rfl ?_
    refine Lx.y (ext rfl rfl) rfl ?_
    refine Lx.y (ext rfl rfl) rfl ?_
    refine Lx.y (asg rfl) rfl ?_
    refine Lx.y (asg rfl) rfl ?_
    refine Lx.nil ?_
    refine Xx.tn (k4 _ _ _ _ ?_)
    refine Cx.seq (fun K5 k5 => ?_)
    rw [star_assoc]
    refine Cx.region ?_
    refine Lx.y (mv rfl) rfl ?_
    refine Lx.y (not' rfl) rfl ?_
    refine Lx.y (mv rfl) rfl ?_
    refine Xx.ifB (t := 20) rfl (fun h6 => ?_) (fun h6 => ?_)
    · skip
      have hni := h6
      refine Lx.gT rfl rfl rfl ?_
      refine Lx.y (mv rfl) rfl ?_
      refine Lx.gT rfl rfl rfl ?_
      refine Lx.y (nilc rfl) rfl ?_
      refine Lx.gT rfl rfl rfl ?_
      refine Lx.y (fa' fo72_0 rfl) rfl ?_
      refine Lx.gT rfl rfl rfl ?_
      refine Lx.y (ld Try.underlying67 rfl rfl rfl) rfl ?_
      refine Lx.gT rfl rfl rfl ?_
      refine Lx.y (nilc rfl) rfl ?_
      refine Lx.gT rfl rfl rfl ?_
      refine Lx.y (fa' fo70_0 rfl) rfl ?_
      refine Lx.gT rfl rfl rfl ?_
      refine Lx.y (ldC Try.underlying22 rfl rfl root_keys) rfl ?_
      refine Lx.gT rfl rfl rfl ?_
      refine Lx.y (lenV (ty' := 0) Try.underlying22 rfl) rfl ?_
      refine Lx.gT rfl rfl rfl ?_
      refine Lx.y (eqI rfl rfl) rfl ?_
      refine Lx.y (pickT rfl rfl) rfl ?_
      refine Lx.nil ?_
      refine Xx.tn (k5 _ _ _ _ ?_)
      refine Cx.condD rfl (fun h7 => ?_) (fun h7 => ?_)
      · skip
        have h7 := h7
        have h7 : c.ks.length = 7 := by omega
        refine Cx.seq (fun K8 k8 => ?_)
        refine Cx.region ?_
        refine Lx.y (mv rfl) rfl ?_
        refine Lx.y (mv rfl) rfl ?_
        refine Lx.y (nilc rfl) rfl ?_
        refine Lx.y (fa' fo72_0 rfl) rfl ?_
        refine Lx.y (ld Try.underlying67 rfl rfl rfl) rfl ?_
        refine Lx.bsl (bsl1 Try.underlying68 ti67 rfl rfl rfl (by decide)) rfl (fun bs => ?_)
        refine Lx.y (bld ti70 pl70 rfl rfl) rfl ?_
        refine Lx.new (boxA rfl) rfl (fun br => ?_)
        refine Lx.y (nilc rfl) rfl ?_
        refine Lx.y (fa' fo72_0 rfl) rfl ?_
        refine Lx.st (stO Try.underlying67 sz67 rfl rfl rfl (by simp) rfl) ?_
        refine Xx.toS bs 1 1 1 rfl (Nat.le_refl _) rfl ?_
        refine Lx.nil ?_
        refine Xx.tn (k8 _ _ _ _ ?_)
        refine Cx.region ?_
        refine Lx.y (mv rfl) rfl ?_
        refine Lx.y (nilc rfl) rfl ?_
        refine Lx.y (fa' fo72_0 rfl) rfl ?_
        refine Lx.y (ld Try.underlying67 rfl rfl rfl) rfl ?_
        refine Lx.c rfl rfl rfl (halve_ct 90 (by decide) d (rootC br bs c) 0 Nat.one_pos (rootC_ok hok h7) h7 _) ((show _ = tr (d + 2) (rootC br bs c) * (row tb 72 [.pointer (some ⟨br, 0, none⟩), i64 ((io (d + 1) c).length : Nat)] * R) by rw [rootC_tr]; ac_rfl)) rfl ?_
        rintro v1 B1 H1 ⟨rfl, hBB, c2, rfl, hh⟩ hB1
        subst hBB
        rename Frag => B
        clear hB1
        obtain ⟨g1, g2, g3, g4, g5⟩ := halved_io (show 0 < (rootC br bs c).cs.length from Nat.one_pos) (rootC_ok (b := br) (bs := bs) hok h7) rfl h7 hh (show (0 : Nat) < 90 by decide)
        have g6 : c2.ks.length = 1 := by obtain ⟨_, _, _, hks, _⟩ := hh; rw [hks]; rfl
        refine Lx.nil ?_
        exact Xx.mkK (⟨d + 1, c2, rfl, rfl, by rw [show pt c2 = .pointer (some ⟨br, 0, none⟩) by unfold pt; rw [g3]; rfl]; exact star_left _ _ _, g1, g2.trans rootC_io, by omega, fun h => absurd h (by omega)⟩) (Sub.cons (s := 0) rfl (Sub.cons (s := 1) rfl (Sub.cons (s := 2) rfl (Sub.cons (s := 6) rfl (Sub.cons (s := 10) rfl (Sub.cons (s := 11) rfl (Sub.nil _)))))))
      · skip
        skip
        refine Cx.skip ?_
        exact Xx.mkK (⟨d, c, rfl, rfl, rfl, hok, rfl, by omega, fun _ => rfl⟩) (Sub.cons (s := 0) rfl (Sub.cons (s := 1) rfl (Sub.cons (s := 2) rfl (Sub.cons (s := 6) rfl (Sub.cons (s := 10) rfl (Sub.cons (s := 11) rfl (Sub.nil _)))))))
    · skip
      have hni := h6
      refine Lx.gF rfl rfl rfl rfl ?_
      refine Lx.gF rfl rfl rfl rfl ?_
      refine Lx.gF rfl rfl rfl rfl ?_
      refine Lx.gF rfl rfl rfl rfl ?_
      refine Lx.gF rfl rfl rfl rfl ?_
      refine Lx.gF rfl rfl rfl rfl ?_
      refine Lx.gF rfl rfl rfl rfl ?_
      refine Lx.gF rfl rfl rfl rfl ?_
      refine Lx.gF rfl rfl rfl rfl ?_
      refine Lx.y (pickF rfl rfl) rfl ?_
      refine Lx.nil ?_
      refine Xx.tn (k5 _ _ _ _ ?_)
      refine Cx.condF rfl ?_
      refine Cx.skip ?_
      exact Xx.mkK (⟨d, c, rfl, rfl, rfl, hok, rfl, by omega, fun _ => rfl⟩) (Sub.cons (s := 0) rfl (Sub.cons (s := 1) rfl (Sub.cons (s := 2) rfl (Sub.cons (s := 6) rfl (Sub.cons (s := 10) rfl (Sub.cons (s := 11) rfl (Sub.nil _)))))))
  · rintro ρ' B' H' ⟨d2, c2, rfl, rfl, rfl, hok2, hio2, h90, hd2⟩
    refine Cx.seq (fun K9 k9 => ?_)
    refine Cx.region ?_
    refine Lx.y (mv rfl) rfl ?_
    refine Lx.y (nilc rfl) rfl ?_
    refine Lx.y (fa' fo72_0 rfl) rfl ?_
    refine Lx.y (ld Try.underlying67 rfl rfl rfl) rfl ?_
    refine Lx.y (mv rfl) rfl ?_
    refine Lx.y (mv rfl) rfl ?_
    refine Lx.c rfl rfl rfl (putc k v d2 90 (by decide) c2 _ hok2 (by rw [hio2]; exact ho) h90) (star_left _ _ _) rfl ?_
    rintro r B1 H1 ⟨hBB, c3, rfl, hb3, p1, p2, rfl⟩ hB1
    subst hBB
    rename Frag => B
    clear hB1
    rw [hio2] at p2 ⊢
    have hln := insP_len (k := k) (v := v) ho
    have hpt : pt c2 = pt c3 := by unfold pt; rw [hb3]
    refine Lx.y (asg rfl) rfl ?_
    refine Lx.nil ?_
    refine Xx.tn (k9 _ _ _ _ ?_)
    refine Cx.seq (fun K10 k10 => ?_)
    refine Cx.seq (fun K11 k11 => ?_)
    rw [star_left]
    refine Cx.region ?_
    refine Lx.y (mv rfl) rfl ?_
    refine Lx.nil ?_
    refine Xx.tn (k11 _ _ _ _ ?_)
    refine Cx.condB rfl (fun h12 => ?_) (fun h12 => ?_)
    · skip
      rw [if_neg (by simpa using h12)] at hln
      refine Cx.region ?_
      refine Lx.y (mv rfl) rfl ?_
      refine Lx.y (nilc rfl) rfl ?_
      refine Lx.y (fa' fo72_1 rfl) rfl ?_
      refine Lx.y (ld Try.underlying3 rfl rfl rfl) rfl ?_
      refine Lx.y (Yx.val (add rfl rfl (by first | exact wrap64 (by omega) (by omega) | rfl)) (show _ = i64 (((io (d + 1) c).length + 1 : Nat) : Int) from rfl)) rfl ?_
      refine Lx.y (nilc rfl) rfl ?_
      refine Lx.y (fa' fo72_1 rfl) rfl ?_
      refine Lx.st (stO Try.underlying3 sz3 rfl rfl rfl (by simp) rfl) ?_
      refine Lx.nil ?_
      refine Xx.tn (k10 _ _ _ _ ?_)
      refine Cx.seq (fun K13 k13 => ?_)
      refine Cx.region ?_
      refine Lx.y (mv rfl) rfl ?_
      refine Lx.y (asg rfl) rfl ?_
      refine Lx.nil ?_
      refine Xx.tn (k13 _ _ _ _ ?_)
      refine Cx.ret ?_
      exact Xx.ret1 rfl rfl ⟨rfl, d2, c3, by first | (rfl) | rfl, rfl, p1, p2, hd2⟩ (Frag.le_refl _) (by unfold tree; rw [hpt, p2, hln]; exact (star_assoc _ _ _).symm)
    · skip
      rw [if_pos (by simpa using h12)] at hln
      refine Cx.skip ?_
      refine Xx.tn (k10 _ _ _ _ ?_)
      refine Cx.seq (fun K14 k14 => ?_)
      refine Cx.region ?_
      refine Lx.y (mv rfl) rfl ?_
      refine Lx.y (asg rfl) rfl ?_
      refine Lx.nil ?_
      refine Xx.tn (k14 _ _ _ _ ?_)
      refine Cx.ret ?_
      exact Xx.ret1 rfl rfl ⟨rfl, d2, c3, by first | (rfl) | rfl, rfl, p1, p2, hd2⟩ (Frag.le_refl _) (by unfold tree; rw [hpt, p2, hln]; exact (star_assoc _ _ _).symm)
end BtM
end Go.Proofs.Ytcoiejmlpinpbaa
