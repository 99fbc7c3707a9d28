/-
  The walks of the laws of keys.
-/
import Derived.Test.YtcoiejmlpinpbaaDoorProg
import Derived.Test.YtcoiejmlpinpbaaDoorSlj
import Derived.Test.YtcoiejmlpinpbaaDoorKeG
import Derived.Test.YtcoiejmlpinpbaaDoorSln
namespace Go.Proofs.YtcoiejmlpinpbaaDoor
open Go.SL Go.RowKit
set_option linter.unusedVariables false
set_option linter.unusedSimpArgs false
set_option maxRecDepth 100000
open Ke1 Ke2 Ke3 Ke4 Ke5 Ke6 Ke7 Ke8 Ke9 KeA KeB KeC KeD KeE KeF KeG
namespace KeH
theorem sz35 : (Tryd.prog.info? 35).map (·.size) = some 6 := by kernel_rfl
theorem sz42 : (Tryd.prog.info? 42).map (·.size) = some 6 := by kernel_rfl
theorem ti35 : TI Tryd.prog 35 [.int .i64 0, .bool false, .int .i64 0, str [], .slice none 0 0, .slice none 0 0] 6 88 := TI.of (by kernel_rfl) rfl rfl
theorem ti42 : TI Tryd.prog 42 [.int .i64 0, .bool false, .int .i64 0, str [], .slice none 0 0, .slice none 0 0] 6 88 := TI.of (by kernel_rfl) rfl rfl

/-- short texts, all the way down -/
def Sh : Nat → V → Prop
  | 0, _ => True
  | d + 1, v => v.s.length ≤ 1100 ∧ ∀ p ∈ v.parts, Sh d p
theorem cutF_sh : ∀ (deep w d : Nat) (v : V), Sh d (cutF deep w v) := by
  intro deep
  induction deep with
  | zero => intro w d v; cases d with
    | zero => exact trivial
    | succ d => exact ⟨by rw [cutF_s]; simp; omega, fun p hp => by cases hp⟩
  | succ k ih => intro w d v; cases d with
    | zero => exact trivial
    | succ d =>
      refine ⟨by rw [cutF_s]; simp; omega, fun p hp => ?_⟩
      have hp' : p ∈ (v.parts.take w).map (cutF k 4) := hp
      obtain ⟨q, _, rfl⟩ := List.mem_map.1 hp'
      exact ih 4 d q
theorem nameB_iff2 {s : List UInt8} (h : NameP s) : s.length ≤ 16 := h.2.2
theorem preB_le {f : V → List UInt8} {v : V} {X : Nat} (h1 : ∀ i, i < v.names.length → (v.names.getD i []).length ≤ 16) (h2 : ∀ i (hi : i < v.parts.length), (f v.parts[i]).length ≤ X) : ∀ i, i ≤ v.parts.length → (preB f v i).length ≤ 12 + i * (27 + X) := by
  intro i
  induction i with
  | zero => intro _; unfold preB; have : (uvL (BitVec.ofInt 64 (v.parts.length : Nat))).length ≤ 11 := uvF_len 10 _; simp at this ⊢; omega
  | succ i ih =>
    intro hi
    have h3 := ih (by omega)
    have h4 := h2 i (by omega)
    rw [preB_succ, List.length_append, Nat.succ_mul]
    have h5 : (partB f v i).length ≤ 27 + X := by
      unfold partB
      rw [getDp (by omega), List.length_append]
      by_cases hn : i < v.names.length
      · rw [if_pos hn]
        have h6 := h1 i hn
        unfold txtL
        have : (uvL (BitVec.ofInt 64 ((v.names.getD i []).length : Nat))).length ≤ 11 := uvF_len 10 _
        rw [List.length_append]; omega
      · rw [if_neg hn]; simp; omega
    omega
theorem bytes_le : ∀ (d : Nat) (v : V) (deep : Int), deep ≤ 9 → checkF d v deep = 0 → Sh d v → (bytesF d v).length ≤ 1200 * 34 ^ (9 - deep).toNat := by
  intro d
  induction d with
  | zero => intro v deep _ _ _; show 0 ≤ _; omega
  | succ d ih =>
    intro v deep hd hok hsh
    obtain ⟨h8, _, _, _, hpl, hnb, hps⟩ := chk_ok hok
    obtain ⟨hn6, hn0⟩ := names_many hok
    obtain ⟨k, hk⟩ : ∃ k, (9 - deep).toNat = k + 1 := ⟨(9 - deep).toNat - 1, by omega⟩
    have hk2 : (9 - (deep + 1)).toNat = k := by omega
    rw [hk, Nat.pow_succ]
    have hp := preB_le (f := bytesF d) (v := v) (X := 1200 * 34 ^ k) (fun i hi => by
      have := ((namesP hnb).1 i hi).1
      exact this.2.2) (fun i hi => by have := ih v.parts[i] (deep + 1) (by omega) (hps i hi) (hsh.2 _ (List.getElem_mem hi)); rw [hk2] at this; exact this) v.parts.length (Nat.le_refl _)
    have hm : v.parts.length * (27 + 1200 * 34 ^ k) ≤ 32 * (27 + 1200 * 34 ^ k) := Nat.mul_le_mul_right _ hpl
    have hpos : 0 < 34 ^ k := Nat.pow_pos (by decide)
    have hs := hsh.1
    have u1 : (uvL (BitVec.ofInt 64 (v.s.length : Nat))).length ≤ 11 := uvF_len 10 _
    have u2 : (uvL (BitVec.ofInt 64 v.n <<< 1 ^^^ BitVec.ofInt 64 (v.n / 9223372036854775808))).length ≤ 11 := uvF_len 10 _
    generalize 34 ^ k = z at *
    unfold bytesF
    repeat' split
    all_goals first | (unfold intL; simp only [List.length_append, List.length_cons, List.length_nil]; omega) | (unfold txtL; simp only [List.length_append, List.length_cons, List.length_nil]; omega) | omega | (simp only [List.length_append, List.length_cons, List.length_nil]; omega)
theorem cut_bytes {d deep w : Nat} {v : V} (h : checkF d (cutF deep w v) 1 = 0) : (bytesF d (cutF deep w v)).length ≤ 1152921504606846976 := by
  have := bytes_le d _ 1 (by decide) h (cutF_sh deep w d v)
  exact Nat.le_trans this (by decide)
theorem CheckF_zero {d : Nat} {v : V} (h : CheckF d v = 0) : checkF d v 1 = 0 ∧ (bytesF d v).length ≤ 1024 := by
  unfold CheckF at h
  by_cases h1 : checkF d v 1 = 0
  · rw [if_pos h1] at h
    by_cases h2 : 1024 < (bytesF d v).length
    · rw [if_pos h2] at h; omega
    · exact ⟨h1, by omega⟩
  · rw [if_neg h1] at h; exact absurd h h1
theorem tri_lt {o : Ordering} {p q : List UInt8} (h : Tri o p q) : bless p q = decide (o = .lt) := by
  cases o with
  | lt => exact Lt.less h
  | eq => have e : p = q := h; subst e; exact bless_irrefl _
  | gt => exact bless_asymm (Lt.less h)
theorem tri_eq {o : Ordering} {p q : List UInt8} (h : Tri o p q) : decide (p = q) = decide (o = .eq) := by
  cases o with
  | lt => exact decide_eq_false fun e => by subst e; have := Lt.less h; rw [bless_irrefl] at this; cases this
  | eq => exact decide_eq_true h
  | gt => exact decide_eq_false fun e => by subst e; have := Lt.less h; rw [bless_irrefl] at this; cases this
theorem tri_pre {o : Ordering} {p q : List UInt8} (h : Tri o p q) : decide (p.length ≤ q.length ∧ q.take p.length = p) = decide (o = .eq) := by
  cases o with
  | lt => exact decide_eq_false (Lt.nopre h)
  | eq => have e : p = q := h; subst e; exact decide_eq_true ⟨Nat.le_refl _, List.take_length⟩
  | gt => exact decide_eq_false (Lt.nopre2 h)
theorem tri_has {o : Ordering} {p q r n : List UInt8} (h : Tri o p q) (hr : nextP p r) : hasB p r (q ++ n) = decide (o = .eq) := by
  unfold hasB
  cases o with
  | lt =>
    have h1 : bless p (q ++ n) = true := by have := h [] n; simpa using this
    have hnp : ¬ (p.length ≤ (q ++ n).length ∧ (q ++ n).take p.length = p) := Lt.nopre (Lt.app h [] n |> fun z => by simpa using z)
    have h2 := next_le hr h1 hnp
    rw [h2.2, decide_eq_false h2.1]; simp
  | eq =>
    have e : p = q := h
    subst e
    have h1 : bless (p ++ n) p = false := by
      have := bless_app p n []
      rw [List.append_nil, bless_nil] at this
      exact this
    rw [h1]
    by_cases e2 : r = []
    · rw [decide_eq_true e2]; rfl
    · rw [next_above hr e2 n]; simp
  | gt =>
    have h1 : bless (q ++ n) p = true := by have := h n []; simpa using this
    rw [h1]; rfl

set_option maxHeartbeats 1000000 in
theorem KeysOf_ct (x : V) (n : BitVec 64) (cs : List Value) (d : Nat) (B : Frag) (hx : ValR B d x cs) (hM : MaxLenIn B) : CtB Tryd.prog 6 [.agg cs.toArray, u64 n] B (fun v _ => v = .bool true) := by
  obtain ⟨Ap, cp, An, cn, rfl⟩ := ValR.shape hx
  refine CtB.of_body Tryd.func6 rfl (nt := 40) rfl (by kernel_rfl) rfl ?_
  intro N0 w0 R
  refine Cx.seq (fun K1 k1 => ?_)
  refine Cx.region ?_
  refine Lx.new (boxA rfl) rfl (fun b2 => ?_)
  refine Lx.y (asg rfl) rfl ?_
  refine Lx.nil ?_
  refine Xx.tn (k1 _ _ _ _ ?_)
  refine Cx.seq (fun K2 k2 => ?_)
  refine Cx.region ?_
  refine Lx.y (ldA Tryd.underlying35 rfl sz35 rfl (Cells.own (n := 6) PickB.eq rfl) rfl) rfl ?_
  refine Lx.cb rfl rfl rfl (Cut_ct 8 32 _ _ _ _ (by decide) (by decide) (hx)) rfl ?_
  rintro r B2 ⟨cs2, rfl, hv2⟩ hB2
  obtain ⟨Apcs2, cpcs2, Ancs2, cncs2, rfl⟩ := ValR.shape hv2
  refine Lx.new (allocO ti35) rfl (fun b5 => ?_)
  refine Lx.st (stA (d := .bool) sz35 rfl rfl rfl rfl (by show 0 + 6 ≤ 6; omega) rfl) ?_
  refine Lx.nil ?_
  refine Xx.tn (k2 _ _ _ _ ?_)
  refine Cx.seq (fun K4 k4 => ?_)
  refine Cx.seq (fun K5 k5 => ?_)
  refine Cx.region ?_
  refine Lx.y (ldA Tryd.underlying35 rfl sz35 rfl (Cells.own (n := 6) PickB.eq rfl) rfl) rfl ?_
  refine Lx.cp rfl rfl rfl (Check_ct 9 _ _ _ hv2 (fun z => cut_bytes z)) rfl ?_
  refine Lx.y (neI rfl rfl) rfl ?_
  refine Lx.nil ?_
  refine Xx.tn (k5 _ _ _ _ ?_)
  refine Cx.condN rfl (fun h6 => ?_) (fun h6 => ?_)
  · skip
    refine Cx.seq (fun K7 k7 => ?_)
    refine Cx.region ?_
    refine Lx.cb rfl rfl rfl (awake_ct _) rfl ?_
    rintro v B9 ⟨rfl, hBB⟩ hB9
    obtain rfl := hBB.symm
    refine Lx.y (asg rfl) rfl ?_
    refine Lx.nil ?_
    refine Xx.tn (k7 _ _ _ _ ?_)
    refine Cx.ret ?_
    refine Xx.tr ?_
    refine Xx.dropB b2 (Xx.dropB b5 ?_)
    first | exact Xx.rB1 rfl rfl rfl (Frag.le_trans hB2 hB3) rfl | exact Xx.rB1 rfl rfl rfl hB2 rfl
  · skip
    obtain ⟨hok, hby⟩ := CheckF_zero h6
    refine Cx.skip ?_
    refine Xx.tn (k4 _ _ _ _ ?_)
    refine Cx.seq (fun K9 k9 => ?_)
    refine Cx.region ?_
    refine Lx.y (ldA Tryd.underlying35 rfl sz35 rfl (Cells.own (n := 6) PickB.eq rfl) rfl) rfl ?_
    refine Lx.cb rfl rfl rfl (Ref_ct 9 _ _ _ (hv2) (cutF_few _ _ _ _ (by decide))) rfl ?_
    rintro r B3 ⟨cs3, rfl, hv3⟩ hB3
    obtain ⟨Apcs3, cpcs3, Ancs3, cncs3, rfl⟩ := ValR.shape hv3
    refine Lx.cp rfl rfl rfl (RKey_ct 9 _ _ _ _ hv3 hok (by omega)) rfl ?_
    refine Lx.y (asg rfl) rfl ?_
    refine Lx.nil ?_
    refine Xx.tn (k9 _ _ _ _ ?_)
    refine Cx.seq (fun K11 k11 => ?_)
    have hM3 := (hM.mono hB2).mono hB3
    have hv23 := ValR.mono hB3 hv2
    have hkl := keyF_len _ _ _ _ hv3
    refine Cx.region ?_
    refine Lx.cb rfl rfl rfl (awake_ct _) rfl ?_
    rintro v B9 ⟨rfl, hBB⟩ hB9
    obtain rfl := hBB.symm
    refine Lx.y (mv rfl) rfl ?_
    refine Lx.gT rfl rfl rfl ?_
    refine Lx.y (ldA Tryd.underlying35 rfl sz35 rfl (Cells.own (n := 6) PickB.eq rfl) rfl) rfl ?_
    refine Lx.gT rfl rfl rfl ?_
    refine Lx.cp rfl rfl rfl (Of_ct 9 _ _ _ hv23 hM3 (by omega)) rfl ?_
    refine Lx.gT rfl rfl rfl ?_
    refine Lx.y (mv rfl) rfl ?_
    refine Lx.gT rfl rfl rfl ?_
    refine Lx.y (Yx.tt (eqS rfl rfl) (decide_eq_true rfl)) rfl ?_
    refine Lx.y (pickT rfl rfl) rfl ?_
    refine Lx.y (mv rfl) rfl ?_
    refine Lx.gT rfl rfl rfl ?_
    refine Lx.y (mv rfl) rfl ?_
    refine Lx.gT rfl rfl rfl ?_
    refine Lx.cp rfl rfl rfl (Number_ct _ _) rfl ?_
    refine Lx.gT rfl rfl rfl ?_
    refine Lx.y (mv rfl) rfl ?_
    refine Lx.gT rfl rfl rfl ?_
    refine Lx.cp rfl rfl rfl (eight_ct _ _) rfl ?_
    refine Lx.gT rfl rfl rfl ?_
    refine Lx.y (Yx.tt (eqS rfl rfl) (decide_eq_true rfl)) rfl ?_
    refine Lx.y (pickT rfl rfl) rfl ?_
    refine Lx.y (mv rfl) rfl ?_
    refine Lx.gT rfl rfl rfl ?_
    refine Lx.y (ldA Tryd.underlying35 rfl sz35 rfl (Cells.own (n := 6) PickB.eq rfl) rfl) rfl ?_
    refine Lx.gT rfl rfl rfl ?_
    refine Lx.y (mv rfl) rfl ?_
    refine Lx.gT rfl rfl rfl ?_
    refine Lx.cp rfl rfl rfl (Pair_ct 9 _ _ _ _ hv23 hM3 (by omega)) rfl ?_
    refine Lx.gT rfl rfl rfl ?_
    refine Lx.y (mv rfl) rfl ?_
    refine Lx.gT rfl rfl rfl ?_
    refine Lx.y (mv rfl) rfl ?_
    refine Lx.gT rfl rfl rfl ?_
    refine Lx.cp rfl rfl rfl (eight_ct _ _) rfl ?_
    refine Lx.gT rfl rfl rfl ?_
    refine Lx.y (catS rfl rfl (by first | omega | (simp <;> omega))) rfl ?_
    refine Lx.gT rfl rfl rfl ?_
    refine Lx.y (Yx.tt (eqS rfl rfl) (decide_eq_true rfl)) rfl ?_
    refine Lx.y (pickT rfl rfl) rfl ?_
    refine Lx.y (asg rfl) rfl ?_
    refine Lx.nil ?_
    refine Xx.tn (k11 _ _ _ _ ?_)
    refine Cx.ret ?_
    refine Xx.dropB b2 (Xx.dropB b5 ?_)
    first | exact Xx.rB1 rfl rfl rfl (Frag.le_trans hB2 hB3) rfl | exact Xx.rB1 rfl rfl rfl hB2 rfl

theorem key_cmp {a b : V} {deep : Int} {ca cb : List Value} {B : Frag} (ha : ValR B 9 a ca) (hb : ValR B 9 b cb) (h1 : checkF 9 a deep = 0) (h2 : checkF 9 b deep = 0) : Tri (cmpF 9 a b) (keyF 9 a) (keyF 9 b) := key_tri 9 a b deep ca cb B ha hb h1 h2

set_option maxHeartbeats 1000000 in
theorem KeysOrder_ct (x y : V) (cs cs1 : List Value) (d d1 : Nat) (B : Frag) (hx : ValR B d x cs) (hy : ValR B d1 y cs1) (hM : MaxLenIn B) : CtB Tryd.prog 5 [.agg cs.toArray, .agg cs1.toArray] B (fun v _ => v = .bool true) := by
  obtain ⟨Ap, cp, An, cn, rfl⟩ := ValR.shape hx
  obtain ⟨Ap1, cp1, An1, cn1, rfl⟩ := ValR.shape hy
  refine CtB.of_body Tryd.func5 rfl (nt := 72) rfl (by kernel_rfl) rfl ?_
  intro N0 w0 R
  refine Cx.seq (fun K1 k1 => ?_)
  refine Cx.region ?_
  refine Lx.new (boxA rfl) rfl (fun b2 => ?_)
  refine Lx.new (boxA rfl) rfl (fun b3 => ?_)
  refine Lx.y (asg rfl) rfl ?_
  refine Lx.nil ?_
  refine Xx.tn (k1 _ _ _ _ ?_)
  refine Cx.cutK (ds' := []) (Sub.cons (s := 0) rfl (Sub.cons (s := 1) rfl (Sub.cons (s := 2) rfl (Sub.cons (s := 3) rfl (Sub.cons (s := 4) rfl (Sub.nil _)))))) (fun ρ' B' H' => ∃ b5 b6 Ap2 cp2 An2 cn2 Ap3 cp3 An3 cn3, ρ' = [(5, .pointer (some ⟨b5, 0, none⟩)), (6, .pointer (some ⟨b6, 0, none⟩))] ∧ B.le B' ∧ ValR B' 9 (cutF 8 32 x) (vcs (cutF 8 32 x) Ap2 cp2 An2 cn2) ∧ ValR B' 9 (cutF 8 32 y) (vcs (cutF 8 32 y) Ap3 cp3 An3 cn3) ∧ row b6 35 (vcs (cutF 8 32 y) Ap3 cp3 An3 cn3) * (row b5 35 (vcs (cutF 8 32 x) Ap2 cp2 An2 cn2) * (row b3 35 (vcs y Ap1 cp1 An1 cn1) * (row b2 35 (vcs x Ap cp An cn) * R))) = H') ?_ ?_
  · skip
    refine Cx.drawn (by kernel_rfl) ?_
    refine Dx.r (i := 0) rfl (by kernel_rfl) (ldA Tryd.underlying35 rfl sz35 rfl (Cells.own (n := 6) PickB.eq rfl) rfl) rfl ?_
    refine Dx.r (i := 2) rfl (by kernel_rfl) (ldA Tryd.underlying35 rfl sz35 rfl (Cells.own (n := 6) PickB.eq rfl) rfl) rfl ?_
    refine Dx.three (i := 1) (j := 4) (l := 5) (by kernel_rfl) ?_ ?_ ?_
    · skip
      refine Dstep.o (i := 1) rfl (Ox.cb rfl rfl rfl (Cut_ct 8 32 _ _ _ _ (by decide) (by decide) (hx))) rfl (fun v B' H' hΦ hB => ?_)
      obtain ⟨rfl, hΦ⟩ := hΦ
      obtain ⟨cs2, rfl, hv2⟩ := hΦ
      obtain ⟨Apcs2, cpcs2, Ancs2, cncs2, rfl⟩ := ValR.shape hv2
      have hB2 := hB
      refine ⟨JOk.yes (JOk.edge (JOk.top) (by kernel_rfl)) (ldA Tryd.underlying35 rfl sz35 rfl (Cells.own (n := 6) PickB.eq rfl) rfl), ?_⟩
      refine Dx.three (i := 3) (j := 4) (l := 5) (by kernel_rfl) ?_ ?_ ?_
      · skip
        refine Dstep.o (i := 3) rfl (Ox.cb rfl rfl rfl (Cut_ct 8 32 _ _ _ _ (by decide) (by decide) (ValR.mono hB2 hy))) rfl (fun v B' H' hΦ hB => ?_)
        obtain ⟨rfl, hΦ⟩ := hΦ
        obtain ⟨cs3, rfl, hv3⟩ := hΦ
        obtain ⟨Apcs3, cpcs3, Ancs3, cncs3, rfl⟩ := ValR.shape hv3
        have hB3 := hB
        refine ⟨JOk.edge (JOk.yes (JOk.top) (ldA Tryd.underlying35 rfl sz35 rfl (Cells.own (n := 6) PickB.eq rfl) rfl)) (by kernel_rfl), ?_⟩
        refine Dx.two (i := 4) (j := 5) (by kernel_rfl) ?_ ?_
        · skip
          refine Dstep.o (i := 4) rfl (allocO ti35) rfl (fun v B' H' hΦ hB => ?_)
          obtain ⟨b5, rfl, rfl, rfl⟩ := hΦ; clear hB
          refine ⟨JOk.yes (JOk.yes (JOk.top) (ldA Tryd.underlying35 rfl sz35 rfl (Cells.own (n := 6) PickB.eq rfl) rfl)) (ldA Tryd.underlying35 rfl sz35 rfl (Cells.own (n := 6) PickB.eq rfl) rfl), ?_⟩
          refine Dx.one (i := 5) (by kernel_rfl) ?_
          refine Dstep.o (i := 5) rfl (allocO ti35) rfl (fun v B' H' hΦ hB => ?_)
          obtain ⟨b6, rfl, rfl, rfl⟩ := hΦ; clear hB
          refine ⟨JOk.yes (JOk.yes (JOk.top) (ldA Tryd.underlying35 rfl sz35 rfl (Cells.own (n := 6) PickB.eq rfl) rfl)) (ldA Tryd.underlying35 rfl sz35 rfl (Cells.own (n := 6) PickB.eq rfl) rfl), ?_⟩
          refine Dx.one (i := 6) (by kernel_rfl) ?_
          refine Dstep.o0 (i := 6) rfl (stA (d := .bool) sz35 rfl rfl rfl rfl (by show 0 + 6 ≤ 6; omega) rfl) (fun v B' H' hΦ hB => ?_)
          obtain ⟨rfl, rfl⟩ := hΦ; clear hB v
          refine ⟨JOk.yes (JOk.edge (JOk.top) (by kernel_rfl)) (ldA Tryd.underlying35 rfl sz35 rfl (Cells.own (n := 6) PickB.eq rfl) rfl), ?_⟩
          refine Dx.one (i := 7) (by kernel_rfl) ?_
          refine Dstep.o0 (i := 7) rfl (stA (d := .bool) sz35 rfl rfl rfl rfl (by show 0 + 6 ≤ 6; omega) rfl) (fun v B' H' hΦ hB => ?_)
          obtain ⟨rfl, rfl⟩ := hΦ; clear hB v
          refine ⟨JOk.edge (JOk.edge (JOk.top) (by kernel_rfl)) (by kernel_rfl), ?_⟩
          refine Dx.done (by kernel_rfl) ?_
          exact Xx.mkK (⟨_, _, _, _, _, _, _, _, _, _, rfl, Frag.le_trans hB2 hB3, ValR.mono hB3 hv2, hv3, rfl⟩) (Sub.cons (s := 5) rfl (Sub.cons (s := 6) rfl (Sub.cons (s := 0) rfl (Sub.cons (s := 1) rfl (Sub.cons (s := 2) rfl (Sub.cons (s := 3) rfl (Sub.cons (s := 4) rfl (Sub.nil _))))))))
        · skip
          refine Dstep.o (i := 5) rfl (allocO ti35) rfl (fun v B' H' hΦ hB => ?_)
          obtain ⟨b6, rfl, rfl, rfl⟩ := hΦ; clear hB
          refine ⟨JOk.yes (JOk.yes (JOk.top) (ldA Tryd.underlying35 rfl sz35 rfl (Cells.own (n := 6) PickB.eq rfl) rfl)) (ldA Tryd.underlying35 rfl sz35 rfl (Cells.own (n := 6) PickB.eq rfl) rfl), ?_⟩
          refine Dx.one (i := 4) (by kernel_rfl) ?_
          refine Dstep.o (i := 4) rfl (allocO ti35) rfl (fun v B' H' hΦ hB => ?_)
          obtain ⟨b5, rfl, rfl, rfl⟩ := hΦ; clear hB
          refine ⟨JOk.yes (JOk.yes (JOk.top) (ldA Tryd.underlying35 rfl sz35 rfl (Cells.own (n := 6) PickB.eq rfl) rfl)) (ldA Tryd.underlying35 rfl sz35 rfl (Cells.own (n := 6) PickB.eq rfl) rfl), ?_⟩
          refine Dx.one (i := 6) (by kernel_rfl) ?_
          refine Dstep.o0 (i := 6) rfl (stA (d := .bool) sz35 rfl rfl rfl rfl (by show 0 + 6 ≤ 6; omega) rfl) (fun v B' H' hΦ hB => ?_)
          obtain ⟨rfl, rfl⟩ := hΦ; clear hB v
          refine ⟨JOk.yes (JOk.edge (JOk.top) (by kernel_rfl)) (ldA Tryd.underlying35 rfl sz35 rfl (Cells.own (n := 6) PickB.eq rfl) rfl), ?_⟩
          refine Dx.one (i := 7) (by kernel_rfl) ?_
          refine Dstep.o0 (i := 7) rfl (stA (d := .bool) sz35 rfl rfl rfl rfl (by show 0 + 6 ≤ 6; omega) rfl) (fun v B' H' hΦ hB => ?_)
          obtain ⟨rfl, rfl⟩ := hΦ; clear hB v
          refine ⟨JOk.edge (JOk.edge (JOk.top) (by kernel_rfl)) (by kernel_rfl), ?_⟩
          refine Dx.done (by kernel_rfl) ?_
          exact Xx.mkK (⟨_, _, _, _, _, _, _, _, _, _, rfl, Frag.le_trans hB2 hB3, ValR.mono hB3 hv2, hv3, rfl⟩) (Sub.cons (s := 5) rfl (Sub.cons (s := 6) rfl (Sub.cons (s := 0) rfl (Sub.cons (s := 1) rfl (Sub.cons (s := 2) rfl (Sub.cons (s := 3) rfl (Sub.cons (s := 4) rfl (Sub.nil _))))))))
      · skip
        refine Dstep.o (i := 4) rfl (allocO ti35) rfl (fun v B' H' hΦ hB => ?_)
        obtain ⟨b5, rfl, rfl, rfl⟩ := hΦ; clear hB
        refine ⟨JOk.yes (JOk.yes (JOk.top) (ldA Tryd.underlying35 rfl sz35 rfl (Cells.own (n := 6) PickB.eq rfl) rfl)) (ldA Tryd.underlying35 rfl sz35 rfl (Cells.own (n := 6) PickB.eq rfl) rfl), ?_⟩
        refine Dx.two (i := 3) (j := 5) (by kernel_rfl) ?_ ?_
        · skip
          refine Dstep.o (i := 3) rfl (Ox.cb rfl rfl rfl (Cut_ct 8 32 _ _ _ _ (by decide) (by decide) (ValR.mono hB2 hy))) rfl (fun v B' H' hΦ hB => ?_)
          obtain ⟨rfl, hΦ⟩ := hΦ
          obtain ⟨cs3, rfl, hv3⟩ := hΦ
          obtain ⟨Apcs3, cpcs3, Ancs3, cncs3, rfl⟩ := ValR.shape hv3
          have hB3 := hB
          refine ⟨JOk.edge (JOk.yes (JOk.top) (ldA Tryd.underlying35 rfl sz35 rfl (Cells.own (n := 6) PickB.eq rfl) rfl)) (by kernel_rfl), ?_⟩
          refine Dx.one (i := 5) (by kernel_rfl) ?_
          refine Dstep.o (i := 5) rfl (allocO ti35) rfl (fun v B' H' hΦ hB => ?_)
          obtain ⟨b6, rfl, rfl, rfl⟩ := hΦ; clear hB
          refine ⟨JOk.yes (JOk.yes (JOk.top) (ldA Tryd.underlying35 rfl sz35 rfl (Cells.own (n := 6) PickB.eq rfl) rfl)) (ldA Tryd.underlying35 rfl sz35 rfl (Cells.own (n := 6) PickB.eq rfl) rfl), ?_⟩
          refine Dx.one (i := 6) (by kernel_rfl) ?_
          refine Dstep.o0 (i := 6) rfl (stA (d := .bool) sz35 rfl rfl rfl rfl (by show 0 + 6 ≤ 6; omega) rfl) (fun v B' H' hΦ hB => ?_)
          obtain ⟨rfl, rfl⟩ := hΦ; clear hB v
          refine ⟨JOk.yes (JOk.edge (JOk.top) (by kernel_rfl)) (ldA Tryd.underlying35 rfl sz35 rfl (Cells.own (n := 6) PickB.eq rfl) rfl), ?_⟩
          refine Dx.one (i := 7) (by kernel_rfl) ?_
          refine Dstep.o0 (i := 7) rfl (stA (d := .bool) sz35 rfl rfl rfl rfl (by show 0 + 6 ≤ 6; omega) rfl) (fun v B' H' hΦ hB => ?_)
          obtain ⟨rfl, rfl⟩ := hΦ; clear hB v
          refine ⟨JOk.edge (JOk.edge (JOk.top) (by kernel_rfl)) (by kernel_rfl), ?_⟩
          refine Dx.done (by kernel_rfl) ?_
          exact Xx.mkK (⟨_, _, _, _, _, _, _, _, _, _, rfl, Frag.le_trans hB2 hB3, ValR.mono hB3 hv2, hv3, rfl⟩) (Sub.cons (s := 5) rfl (Sub.cons (s := 6) rfl (Sub.cons (s := 0) rfl (Sub.cons (s := 1) rfl (Sub.cons (s := 2) rfl (Sub.cons (s := 3) rfl (Sub.cons (s := 4) rfl (Sub.nil _))))))))
        · skip
          refine Dstep.o (i := 5) rfl (allocO ti35) rfl (fun v B' H' hΦ hB => ?_)
          obtain ⟨b6, rfl, rfl, rfl⟩ := hΦ; clear hB
          refine ⟨JOk.yes (JOk.yes (JOk.top) (ldA Tryd.underlying35 rfl sz35 rfl (Cells.own (n := 6) PickB.eq rfl) rfl)) (ldA Tryd.underlying35 rfl sz35 rfl (Cells.own (n := 6) PickB.eq rfl) rfl), ?_⟩
          refine Dx.one (i := 3) (by kernel_rfl) ?_
          refine Dstep.o (i := 3) rfl (Ox.cb rfl rfl rfl (Cut_ct 8 32 _ _ _ _ (by decide) (by decide) (ValR.mono hB2 hy))) rfl (fun v B' H' hΦ hB => ?_)
          obtain ⟨rfl, hΦ⟩ := hΦ
          obtain ⟨cs3, rfl, hv3⟩ := hΦ
          obtain ⟨Apcs3, cpcs3, Ancs3, cncs3, rfl⟩ := ValR.shape hv3
          have hB3 := hB
          refine ⟨JOk.edge (JOk.yes (JOk.top) (ldA Tryd.underlying35 rfl sz35 rfl (Cells.own (n := 6) PickB.eq rfl) rfl)) (by kernel_rfl), ?_⟩
          refine Dx.one (i := 6) (by kernel_rfl) ?_
          refine Dstep.o0 (i := 6) rfl (stA (d := .bool) sz35 rfl rfl rfl rfl (by show 0 + 6 ≤ 6; omega) rfl) (fun v B' H' hΦ hB => ?_)
          obtain ⟨rfl, rfl⟩ := hΦ; clear hB v
          refine ⟨JOk.yes (JOk.edge (JOk.top) (by kernel_rfl)) (ldA Tryd.underlying35 rfl sz35 rfl (Cells.own (n := 6) PickB.eq rfl) rfl), ?_⟩
          refine Dx.one (i := 7) (by kernel_rfl) ?_
          refine Dstep.o0 (i := 7) rfl (stA (d := .bool) sz35 rfl rfl rfl rfl (by show 0 + 6 ≤ 6; omega) rfl) (fun v B' H' hΦ hB => ?_)
          obtain ⟨rfl, rfl⟩ := hΦ; clear hB v
          refine ⟨JOk.edge (JOk.edge (JOk.top) (by kernel_rfl)) (by kernel_rfl), ?_⟩
          refine Dx.done (by kernel_rfl) ?_
          exact Xx.mkK (⟨_, _, _, _, _, _, _, _, _, _, rfl, Frag.le_trans hB2 hB3, ValR.mono hB3 hv2, hv3, rfl⟩) (Sub.cons (s := 5) rfl (Sub.cons (s := 6) rfl (Sub.cons (s := 0) rfl (Sub.cons (s := 1) rfl (Sub.cons (s := 2) rfl (Sub.cons (s := 3) rfl (Sub.cons (s := 4) rfl (Sub.nil _))))))))
      · skip
        refine Dstep.o (i := 5) rfl (allocO ti35) rfl (fun v B' H' hΦ hB => ?_)
        obtain ⟨b6, rfl, rfl, rfl⟩ := hΦ; clear hB
        refine ⟨JOk.yes (JOk.yes (JOk.top) (ldA Tryd.underlying35 rfl sz35 rfl (Cells.own (n := 6) PickB.eq rfl) rfl)) (ldA Tryd.underlying35 rfl sz35 rfl (Cells.own (n := 6) PickB.eq rfl) rfl), ?_⟩
        refine Dx.two (i := 3) (j := 4) (by kernel_rfl) ?_ ?_
        · skip
          refine Dstep.o (i := 3) rfl (Ox.cb rfl rfl rfl (Cut_ct 8 32 _ _ _ _ (by decide) (by decide) (ValR.mono hB2 hy))) rfl (fun v B' H' hΦ hB => ?_)
          obtain ⟨rfl, hΦ⟩ := hΦ
          obtain ⟨cs3, rfl, hv3⟩ := hΦ
          obtain ⟨Apcs3, cpcs3, Ancs3, cncs3, rfl⟩ := ValR.shape hv3
          have hB3 := hB
          refine ⟨JOk.edge (JOk.yes (JOk.top) (ldA Tryd.underlying35 rfl sz35 rfl (Cells.own (n := 6) PickB.eq rfl) rfl)) (by kernel_rfl), ?_⟩
          refine Dx.one (i := 4) (by kernel_rfl) ?_
          refine Dstep.o (i := 4) rfl (allocO ti35) rfl (fun v B' H' hΦ hB => ?_)
          obtain ⟨b5, rfl, rfl, rfl⟩ := hΦ; clear hB
          refine ⟨JOk.yes (JOk.yes (JOk.top) (ldA Tryd.underlying35 rfl sz35 rfl (Cells.own (n := 6) PickB.eq rfl) rfl)) (ldA Tryd.underlying35 rfl sz35 rfl (Cells.own (n := 6) PickB.eq rfl) rfl), ?_⟩
          refine Dx.one (i := 6) (by kernel_rfl) ?_
          refine Dstep.o0 (i := 6) rfl (stA (d := .bool) sz35 rfl rfl rfl rfl (by show 0 + 6 ≤ 6; omega) rfl) (fun v B' H' hΦ hB => ?_)
          obtain ⟨rfl, rfl⟩ := hΦ; clear hB v
          refine ⟨JOk.yes (JOk.edge (JOk.top) (by kernel_rfl)) (ldA Tryd.underlying35 rfl sz35 rfl (Cells.own (n := 6) PickB.eq rfl) rfl), ?_⟩
          refine Dx.one (i := 7) (by kernel_rfl) ?_
          refine Dstep.o0 (i := 7) rfl (stA (d := .bool) sz35 rfl rfl rfl rfl (by show 0 + 6 ≤ 6; omega) rfl) (fun v B' H' hΦ hB => ?_)
          obtain ⟨rfl, rfl⟩ := hΦ; clear hB v
          refine ⟨JOk.edge (JOk.edge (JOk.top) (by kernel_rfl)) (by kernel_rfl), ?_⟩
          refine Dx.done (by kernel_rfl) ?_
          exact Xx.mkK (⟨_, _, _, _, _, _, _, _, _, _, rfl, Frag.le_trans hB2 hB3, ValR.mono hB3 hv2, hv3, rfl⟩) (Sub.cons (s := 5) rfl (Sub.cons (s := 6) rfl (Sub.cons (s := 0) rfl (Sub.cons (s := 1) rfl (Sub.cons (s := 2) rfl (Sub.cons (s := 3) rfl (Sub.cons (s := 4) rfl (Sub.nil _))))))))
        · skip
          refine Dstep.o (i := 4) rfl (allocO ti35) rfl (fun v B' H' hΦ hB => ?_)
          obtain ⟨b5, rfl, rfl, rfl⟩ := hΦ; clear hB
          refine ⟨JOk.yes (JOk.yes (JOk.top) (ldA Tryd.underlying35 rfl sz35 rfl (Cells.own (n := 6) PickB.eq rfl) rfl)) (ldA Tryd.underlying35 rfl sz35 rfl (Cells.own (n := 6) PickB.eq rfl) rfl), ?_⟩
          refine Dx.one (i := 3) (by kernel_rfl) ?_
          refine Dstep.o (i := 3) rfl (Ox.cb rfl rfl rfl (Cut_ct 8 32 _ _ _ _ (by decide) (by decide) (ValR.mono hB2 hy))) rfl (fun v B' H' hΦ hB => ?_)
          obtain ⟨rfl, hΦ⟩ := hΦ
          obtain ⟨cs3, rfl, hv3⟩ := hΦ
          obtain ⟨Apcs3, cpcs3, Ancs3, cncs3, rfl⟩ := ValR.shape hv3
          have hB3 := hB
          refine ⟨JOk.edge (JOk.yes (JOk.top) (ldA Tryd.underlying35 rfl sz35 rfl (Cells.own (n := 6) PickB.eq rfl) rfl)) (by kernel_rfl), ?_⟩
          refine Dx.one (i := 6) (by kernel_rfl) ?_
          refine Dstep.o0 (i := 6) rfl (stA (d := .bool) sz35 rfl rfl rfl rfl (by show 0 + 6 ≤ 6; omega) rfl) (fun v B' H' hΦ hB => ?_)
          obtain ⟨rfl, rfl⟩ := hΦ; clear hB v
          refine ⟨JOk.yes (JOk.edge (JOk.top) (by kernel_rfl)) (ldA Tryd.underlying35 rfl sz35 rfl (Cells.own (n := 6) PickB.eq rfl) rfl), ?_⟩
          refine Dx.one (i := 7) (by kernel_rfl) ?_
          refine Dstep.o0 (i := 7) rfl (stA (d := .bool) sz35 rfl rfl rfl rfl (by show 0 + 6 ≤ 6; omega) rfl) (fun v B' H' hΦ hB => ?_)
          obtain ⟨rfl, rfl⟩ := hΦ; clear hB v
          refine ⟨JOk.edge (JOk.edge (JOk.top) (by kernel_rfl)) (by kernel_rfl), ?_⟩
          refine Dx.done (by kernel_rfl) ?_
          exact Xx.mkK (⟨_, _, _, _, _, _, _, _, _, _, rfl, Frag.le_trans hB2 hB3, ValR.mono hB3 hv2, hv3, rfl⟩) (Sub.cons (s := 5) rfl (Sub.cons (s := 6) rfl (Sub.cons (s := 0) rfl (Sub.cons (s := 1) rfl (Sub.cons (s := 2) rfl (Sub.cons (s := 3) rfl (Sub.cons (s := 4) rfl (Sub.nil _))))))))
    · skip
      refine Dstep.o (i := 4) rfl (allocO ti35) rfl (fun v B' H' hΦ hB => ?_)
      obtain ⟨b5, rfl, rfl, rfl⟩ := hΦ; clear hB
      refine ⟨JOk.yes (JOk.yes (JOk.top) (ldA Tryd.underlying35 rfl sz35 rfl (Cells.own (n := 6) PickB.eq rfl) rfl)) (ldA Tryd.underlying35 rfl sz35 rfl (Cells.own (n := 6) PickB.eq rfl) rfl), ?_⟩
      refine Dx.two (i := 1) (j := 5) (by kernel_rfl) ?_ ?_
      · skip
        refine Dstep.o (i := 1) rfl (Ox.cb rfl rfl rfl (Cut_ct 8 32 _ _ _ _ (by decide) (by decide) (hx))) rfl (fun v B' H' hΦ hB => ?_)
        obtain ⟨rfl, hΦ⟩ := hΦ
        obtain ⟨cs2, rfl, hv2⟩ := hΦ
        obtain ⟨Apcs2, cpcs2, Ancs2, cncs2, rfl⟩ := ValR.shape hv2
        have hB2 := hB
        refine ⟨JOk.yes (JOk.edge (JOk.top) (by kernel_rfl)) (ldA Tryd.underlying35 rfl sz35 rfl (Cells.own (n := 6) PickB.eq rfl) rfl), ?_⟩
        refine Dx.two (i := 3) (j := 5) (by kernel_rfl) ?_ ?_
        · skip
          refine Dstep.o (i := 3) rfl (Ox.cb rfl rfl rfl (Cut_ct 8 32 _ _ _ _ (by decide) (by decide) (ValR.mono hB2 hy))) rfl (fun v B' H' hΦ hB => ?_)
          obtain ⟨rfl, hΦ⟩ := hΦ
          obtain ⟨cs3, rfl, hv3⟩ := hΦ
          obtain ⟨Apcs3, cpcs3, Ancs3, cncs3, rfl⟩ := ValR.shape hv3
          have hB3 := hB
          refine ⟨JOk.edge (JOk.yes (JOk.top) (ldA Tryd.underlying35 rfl sz35 rfl (Cells.own (n := 6) PickB.eq rfl) rfl)) (by kernel_rfl), ?_⟩
          refine Dx.one (i := 5) (by kernel_rfl) ?_
          refine Dstep.o (i := 5) rfl (allocO ti35) rfl (fun v B' H' hΦ hB => ?_)
          obtain ⟨b6, rfl, rfl, rfl⟩ := hΦ; clear hB
          refine ⟨JOk.yes (JOk.yes (JOk.top) (ldA Tryd.underlying35 rfl sz35 rfl (Cells.own (n := 6) PickB.eq rfl) rfl)) (ldA Tryd.underlying35 rfl sz35 rfl (Cells.own (n := 6) PickB.eq rfl) rfl), ?_⟩
          refine Dx.one (i := 6) (by kernel_rfl) ?_
          refine Dstep.o0 (i := 6) rfl (stA (d := .bool) sz35 rfl rfl rfl rfl (by show 0 + 6 ≤ 6; omega) rfl) (fun v B' H' hΦ hB => ?_)
          obtain ⟨rfl, rfl⟩ := hΦ; clear hB v
          refine ⟨JOk.yes (JOk.edge (JOk.top) (by kernel_rfl)) (ldA Tryd.underlying35 rfl sz35 rfl (Cells.own (n := 6) PickB.eq rfl) rfl), ?_⟩
          refine Dx.one (i := 7) (by kernel_rfl) ?_
          refine Dstep.o0 (i := 7) rfl (stA (d := .bool) sz35 rfl rfl rfl rfl (by show 0 + 6 ≤ 6; omega) rfl) (fun v B' H' hΦ hB => ?_)
          obtain ⟨rfl, rfl⟩ := hΦ; clear hB v
          refine ⟨JOk.edge (JOk.edge (JOk.top) (by kernel_rfl)) (by kernel_rfl), ?_⟩
          refine Dx.done (by kernel_rfl) ?_
          exact Xx.mkK (⟨_, _, _, _, _, _, _, _, _, _, rfl, Frag.le_trans hB2 hB3, ValR.mono hB3 hv2, hv3, rfl⟩) (Sub.cons (s := 5) rfl (Sub.cons (s := 6) rfl (Sub.cons (s := 0) rfl (Sub.cons (s := 1) rfl (Sub.cons (s := 2) rfl (Sub.cons (s := 3) rfl (Sub.cons (s := 4) rfl (Sub.nil _))))))))
        · skip
          refine Dstep.o (i := 5) rfl (allocO ti35) rfl (fun v B' H' hΦ hB => ?_)
          obtain ⟨b6, rfl, rfl, rfl⟩ := hΦ; clear hB
          refine ⟨JOk.yes (JOk.yes (JOk.top) (ldA Tryd.underlying35 rfl sz35 rfl (Cells.own (n := 6) PickB.eq rfl) rfl)) (ldA Tryd.underlying35 rfl sz35 rfl (Cells.own (n := 6) PickB.eq rfl) rfl), ?_⟩
          refine Dx.one (i := 3) (by kernel_rfl) ?_
          refine Dstep.o (i := 3) rfl (Ox.cb rfl rfl rfl (Cut_ct 8 32 _ _ _ _ (by decide) (by decide) (ValR.mono hB2 hy))) rfl (fun v B' H' hΦ hB => ?_)
          obtain ⟨rfl, hΦ⟩ := hΦ
          obtain ⟨cs3, rfl, hv3⟩ := hΦ
          obtain ⟨Apcs3, cpcs3, Ancs3, cncs3, rfl⟩ := ValR.shape hv3
          have hB3 := hB
          refine ⟨JOk.edge (JOk.yes (JOk.top) (ldA Tryd.underlying35 rfl sz35 rfl (Cells.own (n := 6) PickB.eq rfl) rfl)) (by kernel_rfl), ?_⟩
          refine Dx.one (i := 6) (by kernel_rfl) ?_
          refine Dstep.o0 (i := 6) rfl (stA (d := .bool) sz35 rfl rfl rfl rfl (by show 0 + 6 ≤ 6; omega) rfl) (fun v B' H' hΦ hB => ?_)
          obtain ⟨rfl, rfl⟩ := hΦ; clear hB v
          refine ⟨JOk.yes (JOk.edge (JOk.top) (by kernel_rfl)) (ldA Tryd.underlying35 rfl sz35 rfl (Cells.own (n := 6) PickB.eq rfl) rfl), ?_⟩
          refine Dx.one (i := 7) (by kernel_rfl) ?_
          refine Dstep.o0 (i := 7) rfl (stA (d := .bool) sz35 rfl rfl rfl rfl (by show 0 + 6 ≤ 6; omega) rfl) (fun v B' H' hΦ hB => ?_)
          obtain ⟨rfl, rfl⟩ := hΦ; clear hB v
          refine ⟨JOk.edge (JOk.edge (JOk.top) (by kernel_rfl)) (by kernel_rfl), ?_⟩
          refine Dx.done (by kernel_rfl) ?_
          exact Xx.mkK (⟨_, _, _, _, _, _, _, _, _, _, rfl, Frag.le_trans hB2 hB3, ValR.mono hB3 hv2, hv3, rfl⟩) (Sub.cons (s := 5) rfl (Sub.cons (s := 6) rfl (Sub.cons (s := 0) rfl (Sub.cons (s := 1) rfl (Sub.cons (s := 2) rfl (Sub.cons (s := 3) rfl (Sub.cons (s := 4) rfl (Sub.nil _))))))))
      · skip
        refine Dstep.o (i := 5) rfl (allocO ti35) rfl (fun v B' H' hΦ hB => ?_)
        obtain ⟨b6, rfl, rfl, rfl⟩ := hΦ; clear hB
        refine ⟨JOk.yes (JOk.yes (JOk.top) (ldA Tryd.underlying35 rfl sz35 rfl (Cells.own (n := 6) PickB.eq rfl) rfl)) (ldA Tryd.underlying35 rfl sz35 rfl (Cells.own (n := 6) PickB.eq rfl) rfl), ?_⟩
        refine Dx.one (i := 1) (by kernel_rfl) ?_
        refine Dstep.o (i := 1) rfl (Ox.cb rfl rfl rfl (Cut_ct 8 32 _ _ _ _ (by decide) (by decide) (hx))) rfl (fun v B' H' hΦ hB => ?_)
        obtain ⟨rfl, hΦ⟩ := hΦ
        obtain ⟨cs2, rfl, hv2⟩ := hΦ
        obtain ⟨Apcs2, cpcs2, Ancs2, cncs2, rfl⟩ := ValR.shape hv2
        have hB2 := hB
        refine ⟨JOk.yes (JOk.edge (JOk.top) (by kernel_rfl)) (ldA Tryd.underlying35 rfl sz35 rfl (Cells.own (n := 6) PickB.eq rfl) rfl), ?_⟩
        refine Dx.one (i := 3) (by kernel_rfl) ?_
        refine Dstep.o (i := 3) rfl (Ox.cb rfl rfl rfl (Cut_ct 8 32 _ _ _ _ (by decide) (by decide) (ValR.mono hB2 hy))) rfl (fun v B' H' hΦ hB => ?_)
        obtain ⟨rfl, hΦ⟩ := hΦ
        obtain ⟨cs3, rfl, hv3⟩ := hΦ
        obtain ⟨Apcs3, cpcs3, Ancs3, cncs3, rfl⟩ := ValR.shape hv3
        have hB3 := hB
        refine ⟨JOk.edge (JOk.yes (JOk.top) (ldA Tryd.underlying35 rfl sz35 rfl (Cells.own (n := 6) PickB.eq rfl) rfl)) (by kernel_rfl), ?_⟩
        refine Dx.one (i := 6) (by kernel_rfl) ?_
        refine Dstep.o0 (i := 6) rfl (stA (d := .bool) sz35 rfl rfl rfl rfl (by show 0 + 6 ≤ 6; omega) rfl) (fun v B' H' hΦ hB => ?_)
        obtain ⟨rfl, rfl⟩ := hΦ; clear hB v
        refine ⟨JOk.yes (JOk.edge (JOk.top) (by kernel_rfl)) (ldA Tryd.underlying35 rfl sz35 rfl (Cells.own (n := 6) PickB.eq rfl) rfl), ?_⟩
        refine Dx.one (i := 7) (by kernel_rfl) ?_
        refine Dstep.o0 (i := 7) rfl (stA (d := .bool) sz35 rfl rfl rfl rfl (by show 0 + 6 ≤ 6; omega) rfl) (fun v B' H' hΦ hB => ?_)
        obtain ⟨rfl, rfl⟩ := hΦ; clear hB v
        refine ⟨JOk.edge (JOk.edge (JOk.top) (by kernel_rfl)) (by kernel_rfl), ?_⟩
        refine Dx.done (by kernel_rfl) ?_
        exact Xx.mkK (⟨_, _, _, _, _, _, _, _, _, _, rfl, Frag.le_trans hB2 hB3, ValR.mono hB3 hv2, hv3, rfl⟩) (Sub.cons (s := 5) rfl (Sub.cons (s := 6) rfl (Sub.cons (s := 0) rfl (Sub.cons (s := 1) rfl (Sub.cons (s := 2) rfl (Sub.cons (s := 3) rfl (Sub.cons (s := 4) rfl (Sub.nil _))))))))
    · skip
      refine Dstep.o (i := 5) rfl (allocO ti35) rfl (fun v B' H' hΦ hB => ?_)
      obtain ⟨b6, rfl, rfl, rfl⟩ := hΦ; clear hB
      refine ⟨JOk.yes (JOk.yes (JOk.top) (ldA Tryd.underlying35 rfl sz35 rfl (Cells.own (n := 6) PickB.eq rfl) rfl)) (ldA Tryd.underlying35 rfl sz35 rfl (Cells.own (n := 6) PickB.eq rfl) rfl), ?_⟩
      refine Dx.two (i := 1) (j := 4) (by kernel_rfl) ?_ ?_
      · skip
        refine Dstep.o (i := 1) rfl (Ox.cb rfl rfl rfl (Cut_ct 8 32 _ _ _ _ (by decide) (by decide) (hx))) rfl (fun v B' H' hΦ hB => ?_)
        obtain ⟨rfl, hΦ⟩ := hΦ
        obtain ⟨cs2, rfl, hv2⟩ := hΦ
        obtain ⟨Apcs2, cpcs2, Ancs2, cncs2, rfl⟩ := ValR.shape hv2
        have hB2 := hB
        refine ⟨JOk.yes (JOk.edge (JOk.top) (by kernel_rfl)) (ldA Tryd.underlying35 rfl sz35 rfl (Cells.own (n := 6) PickB.eq rfl) rfl), ?_⟩
        refine Dx.two (i := 3) (j := 4) (by kernel_rfl) ?_ ?_
        · skip
          refine Dstep.o (i := 3) rfl (Ox.cb rfl rfl rfl (Cut_ct 8 32 _ _ _ _ (by decide) (by decide) (ValR.mono hB2 hy))) rfl (fun v B' H' hΦ hB => ?_)
          obtain ⟨rfl, hΦ⟩ := hΦ
          obtain ⟨cs3, rfl, hv3⟩ := hΦ
          obtain ⟨Apcs3, cpcs3, Ancs3, cncs3, rfl⟩ := ValR.shape hv3
          have hB3 := hB
          refine ⟨JOk.edge (JOk.yes (JOk.top) (ldA Tryd.underlying35 rfl sz35 rfl (Cells.own (n := 6) PickB.eq rfl) rfl)) (by kernel_rfl), ?_⟩
          refine Dx.one (i := 4) (by kernel_rfl) ?_
          refine Dstep.o (i := 4) rfl (allocO ti35) rfl (fun v B' H' hΦ hB => ?_)
          obtain ⟨b5, rfl, rfl, rfl⟩ := hΦ; clear hB
          refine ⟨JOk.yes (JOk.yes (JOk.top) (ldA Tryd.underlying35 rfl sz35 rfl (Cells.own (n := 6) PickB.eq rfl) rfl)) (ldA Tryd.underlying35 rfl sz35 rfl (Cells.own (n := 6) PickB.eq rfl) rfl), ?_⟩
          refine Dx.one (i := 6) (by kernel_rfl) ?_
          refine Dstep.o0 (i := 6) rfl (stA (d := .bool) sz35 rfl rfl rfl rfl (by show 0 + 6 ≤ 6; omega) rfl) (fun v B' H' hΦ hB => ?_)
          obtain ⟨rfl, rfl⟩ := hΦ; clear hB v
          refine ⟨JOk.yes (JOk.edge (JOk.top) (by kernel_rfl)) (ldA Tryd.underlying35 rfl sz35 rfl (Cells.own (n := 6) PickB.eq rfl) rfl), ?_⟩
          refine Dx.one (i := 7) (by kernel_rfl) ?_
          refine Dstep.o0 (i := 7) rfl (stA (d := .bool) sz35 rfl rfl rfl rfl (by show 0 + 6 ≤ 6; omega) rfl) (fun v B' H' hΦ hB => ?_)
          obtain ⟨rfl, rfl⟩ := hΦ; clear hB v
          refine ⟨JOk.edge (JOk.edge (JOk.top) (by kernel_rfl)) (by kernel_rfl), ?_⟩
          refine Dx.done (by kernel_rfl) ?_
          exact Xx.mkK (⟨_, _, _, _, _, _, _, _, _, _, rfl, Frag.le_trans hB2 hB3, ValR.mono hB3 hv2, hv3, rfl⟩) (Sub.cons (s := 5) rfl (Sub.cons (s := 6) rfl (Sub.cons (s := 0) rfl (Sub.cons (s := 1) rfl (Sub.cons (s := 2) rfl (Sub.cons (s := 3) rfl (Sub.cons (s := 4) rfl (Sub.nil _))))))))
        · skip
          refine Dstep.o (i := 4) rfl (allocO ti35) rfl (fun v B' H' hΦ hB => ?_)
          obtain ⟨b5, rfl, rfl, rfl⟩ := hΦ; clear hB
          refine ⟨JOk.yes (JOk.yes (JOk.top) (ldA Tryd.underlying35 rfl sz35 rfl (Cells.own (n := 6) PickB.eq rfl) rfl)) (ldA Tryd.underlying35 rfl sz35 rfl (Cells.own (n := 6) PickB.eq rfl) rfl), ?_⟩
          refine Dx.one (i := 3) (by kernel_rfl) ?_
          refine Dstep.o (i := 3) rfl (Ox.cb rfl rfl rfl (Cut_ct 8 32 _ _ _ _ (by decide) (by decide) (ValR.mono hB2 hy))) rfl (fun v B' H' hΦ hB => ?_)
          obtain ⟨rfl, hΦ⟩ := hΦ
          obtain ⟨cs3, rfl, hv3⟩ := hΦ
          obtain ⟨Apcs3, cpcs3, Ancs3, cncs3, rfl⟩ := ValR.shape hv3
          have hB3 := hB
          refine ⟨JOk.edge (JOk.yes (JOk.top) (ldA Tryd.underlying35 rfl sz35 rfl (Cells.own (n := 6) PickB.eq rfl) rfl)) (by kernel_rfl), ?_⟩
          refine Dx.one (i := 6) (by kernel_rfl) ?_
          refine Dstep.o0 (i := 6) rfl (stA (d := .bool) sz35 rfl rfl rfl rfl (by show 0 + 6 ≤ 6; omega) rfl) (fun v B' H' hΦ hB => ?_)
          obtain ⟨rfl, rfl⟩ := hΦ; clear hB v
          refine ⟨JOk.yes (JOk.edge (JOk.top) (by kernel_rfl)) (ldA Tryd.underlying35 rfl sz35 rfl (Cells.own (n := 6) PickB.eq rfl) rfl), ?_⟩
          refine Dx.one (i := 7) (by kernel_rfl) ?_
          refine Dstep.o0 (i := 7) rfl (stA (d := .bool) sz35 rfl rfl rfl rfl (by show 0 + 6 ≤ 6; omega) rfl) (fun v B' H' hΦ hB => ?_)
          obtain ⟨rfl, rfl⟩ := hΦ; clear hB v
          refine ⟨JOk.edge (JOk.edge (JOk.top) (by kernel_rfl)) (by kernel_rfl), ?_⟩
          refine Dx.done (by kernel_rfl) ?_
          exact Xx.mkK (⟨_, _, _, _, _, _, _, _, _, _, rfl, Frag.le_trans hB2 hB3, ValR.mono hB3 hv2, hv3, rfl⟩) (Sub.cons (s := 5) rfl (Sub.cons (s := 6) rfl (Sub.cons (s := 0) rfl (Sub.cons (s := 1) rfl (Sub.cons (s := 2) rfl (Sub.cons (s := 3) rfl (Sub.cons (s := 4) rfl (Sub.nil _))))))))
      · skip
        refine Dstep.o (i := 4) rfl (allocO ti35) rfl (fun v B' H' hΦ hB => ?_)
        obtain ⟨b5, rfl, rfl, rfl⟩ := hΦ; clear hB
        refine ⟨JOk.yes (JOk.yes (JOk.top) (ldA Tryd.underlying35 rfl sz35 rfl (Cells.own (n := 6) PickB.eq rfl) rfl)) (ldA Tryd.underlying35 rfl sz35 rfl (Cells.own (n := 6) PickB.eq rfl) rfl), ?_⟩
        refine Dx.one (i := 1) (by kernel_rfl) ?_
        refine Dstep.o (i := 1) rfl (Ox.cb rfl rfl rfl (Cut_ct 8 32 _ _ _ _ (by decide) (by decide) (hx))) rfl (fun v B' H' hΦ hB => ?_)
        obtain ⟨rfl, hΦ⟩ := hΦ
        obtain ⟨cs2, rfl, hv2⟩ := hΦ
        obtain ⟨Apcs2, cpcs2, Ancs2, cncs2, rfl⟩ := ValR.shape hv2
        have hB2 := hB
        refine ⟨JOk.yes (JOk.edge (JOk.top) (by kernel_rfl)) (ldA Tryd.underlying35 rfl sz35 rfl (Cells.own (n := 6) PickB.eq rfl) rfl), ?_⟩
        refine Dx.one (i := 3) (by kernel_rfl) ?_
        refine Dstep.o (i := 3) rfl (Ox.cb rfl rfl rfl (Cut_ct 8 32 _ _ _ _ (by decide) (by decide) (ValR.mono hB2 hy))) rfl (fun v B' H' hΦ hB => ?_)
        obtain ⟨rfl, hΦ⟩ := hΦ
        obtain ⟨cs3, rfl, hv3⟩ := hΦ
        obtain ⟨Apcs3, cpcs3, Ancs3, cncs3, rfl⟩ := ValR.shape hv3
        have hB3 := hB
        refine ⟨JOk.edge (JOk.yes (JOk.top) (ldA Tryd.underlying35 rfl sz35 rfl (Cells.own (n := 6) PickB.eq rfl) rfl)) (by kernel_rfl), ?_⟩
        refine Dx.one (i := 6) (by kernel_rfl) ?_
        refine Dstep.o0 (i := 6) rfl (stA (d := .bool) sz35 rfl rfl rfl rfl (by show 0 + 6 ≤ 6; omega) rfl) (fun v B' H' hΦ hB => ?_)
        obtain ⟨rfl, rfl⟩ := hΦ; clear hB v
        refine ⟨JOk.yes (JOk.edge (JOk.top) (by kernel_rfl)) (ldA Tryd.underlying35 rfl sz35 rfl (Cells.own (n := 6) PickB.eq rfl) rfl), ?_⟩
        refine Dx.one (i := 7) (by kernel_rfl) ?_
        refine Dstep.o0 (i := 7) rfl (stA (d := .bool) sz35 rfl rfl rfl rfl (by show 0 + 6 ≤ 6; omega) rfl) (fun v B' H' hΦ hB => ?_)
        obtain ⟨rfl, rfl⟩ := hΦ; clear hB v
        refine ⟨JOk.edge (JOk.edge (JOk.top) (by kernel_rfl)) (by kernel_rfl), ?_⟩
        refine Dx.done (by kernel_rfl) ?_
        exact Xx.mkK (⟨_, _, _, _, _, _, _, _, _, _, rfl, Frag.le_trans hB2 hB3, ValR.mono hB3 hv2, hv3, rfl⟩) (Sub.cons (s := 5) rfl (Sub.cons (s := 6) rfl (Sub.cons (s := 0) rfl (Sub.cons (s := 1) rfl (Sub.cons (s := 2) rfl (Sub.cons (s := 3) rfl (Sub.cons (s := 4) rfl (Sub.nil _))))))))
  · rintro ρ' B' H' ⟨b5, b6, Ap2, cp2, An2, cn2, Ap3, cp3, An3, cn3, rfl, hB3, hv2, hv3, rfl⟩
    obtain ⟨B3, rfl⟩ : ∃ B3, B3 = B' := ⟨B', rfl⟩
    refine Xx.dropB b2 (Xx.dropB b3 ?_)
    refine Cx.seq (fun K2 k2 => ?_)
    refine Cx.seq (fun K3 k3 => ?_)
    refine Cx.region ?_
    refine Lx.y (ldA Tryd.underlying35 rfl sz35 rfl (Cells.own (n := 6) PickB.eq rfl) rfl) rfl ?_
    refine Lx.cp rfl rfl rfl (Check_ct 9 _ _ _ hv2 (fun z => cut_bytes z)) rfl ?_
    refine Lx.y (neI rfl rfl) rfl ?_
    refine Lx.y (mv rfl) rfl ?_
    refine Xx.ifN (t := 20) rfl (fun h4 => ?_) (fun h4 => ?_)
    · skip
      refine Lx.gF rfl rfl rfl rfl ?_
      refine Lx.gF rfl rfl rfl rfl ?_
      refine Lx.gF rfl rfl rfl rfl ?_
      refine Lx.y (pickT rfl rfl) rfl ?_
      refine Lx.nil ?_
      refine Xx.tn (k3 _ _ _ _ ?_)
      refine Cx.condT rfl ?_
      refine Cx.seq (fun K5 k5 => ?_)
      refine Cx.region ?_
      refine Lx.cb rfl rfl rfl (awake_ct _) rfl ?_
      rintro v B9 ⟨rfl, hBB⟩ hB9
      obtain rfl := hBB.symm
      refine Lx.y (asg rfl) rfl ?_
      refine Lx.nil ?_
      refine Xx.tn (k5 _ _ _ _ ?_)
      refine Cx.ret ?_
      refine Xx.tr ?_
      first | exact Xx.dropB b5 (Xx.dropB b6 (Xx.rB1 rfl rfl rfl hB3 rfl)) | exact Xx.dropB b9 (Xx.dropB b10 (Xx.rB1 rfl rfl rfl (Frag.le_trans hB3 hB5) rfl))
    · skip
      obtain ⟨hoka, hbya⟩ := CheckF_zero h4
      refine Lx.gT rfl rfl rfl ?_
      refine Lx.y (ldA Tryd.underlying35 rfl sz35 rfl (Cells.own (n := 6) PickB.eq rfl) rfl) rfl ?_
      refine Lx.gT rfl rfl rfl ?_
      refine Lx.cp rfl rfl rfl (Check_ct 9 _ _ _ hv3 (fun z => cut_bytes z)) rfl ?_
      refine Lx.gT rfl rfl rfl ?_
      refine Lx.y (neI rfl rfl) rfl ?_
      refine Lx.y (pickF rfl rfl) rfl ?_
      refine Lx.nil ?_
      refine Xx.tn (k3 _ _ _ _ ?_)
      refine Cx.condN rfl (fun h7 => ?_) (fun h7 => ?_)
      · skip
        refine Cx.seq (fun K8 k8 => ?_)
        refine Cx.region ?_
        refine Lx.cb rfl rfl rfl (awake_ct _) rfl ?_
        rintro v B9 ⟨rfl, hBB⟩ hB9
        obtain rfl := hBB.symm
        refine Lx.y (asg rfl) rfl ?_
        refine Lx.nil ?_
        refine Xx.tn (k8 _ _ _ _ ?_)
        refine Cx.ret ?_
        refine Xx.tr ?_
        first | exact Xx.dropB b5 (Xx.dropB b6 (Xx.rB1 rfl rfl rfl hB3 rfl)) | exact Xx.dropB b9 (Xx.dropB b10 (Xx.rB1 rfl rfl rfl (Frag.le_trans hB3 hB5) rfl))
      · skip
        obtain ⟨hokb, hbyb⟩ := CheckF_zero h7
        refine Cx.skip ?_
        refine Xx.tn (k2 _ _ _ _ ?_)
        refine Cx.cutK (ds' := []) (Sub.cons (s := 0) rfl (Sub.cons (s := 1) rfl (Sub.cons (s := 2) rfl (Sub.cons (s := 3) rfl (Sub.cons (s := 4) rfl (Sub.cons (s := 5) rfl (Sub.cons (s := 6) rfl (Sub.cons (s := 17) rfl (Sub.cons (s := 18) rfl (Sub.cons (s := 19) rfl (Sub.cons (s := 20) rfl (Sub.cons (s := 21) rfl (Sub.cons (s := 22) rfl (Sub.cons (s := 23) rfl (Sub.cons (s := 24) rfl (Sub.nil _)))))))))))))))) (fun ρ' B' H' => ρ' = [(7, str (keyF 9 (cutF 8 32 x))), (8, str (keyF 9 (cutF 8 32 y)))] ∧ B3 = B' ∧ row b6 35 (vcs (cutF 8 32 y) Ap3 cp3 An3 cn3) * (row b5 35 (vcs (cutF 8 32 x) Ap2 cp2 An2 cn2) * R) = H') ?_ ?_
        · skip
          have hM2 := hM.mono hB3
          refine Cx.drawn (by kernel_rfl) ?_
          refine Dx.r (i := 0) rfl (by kernel_rfl) (ldA Tryd.underlying35 rfl sz35 rfl (Cells.own (n := 6) PickB.eq rfl) rfl) rfl ?_
          refine Dx.r (i := 2) rfl (by kernel_rfl) (ldA Tryd.underlying35 rfl sz35 rfl (Cells.own (n := 6) PickB.eq rfl) rfl) rfl ?_
          refine Dx.one (i := 1) (by kernel_rfl) ?_
          refine Dstep.o (i := 1) rfl (Ox.cb rfl rfl rfl (Of_ct 9 _ _ _ hv2 hM2 (by omega))) rfl (fun v B' H' hΦ hB => ?_)
          obtain ⟨rfl, rfl, rfl⟩ := hΦ; clear hB
          refine ⟨JOk.yes (JOk.edge (JOk.top) (by kernel_rfl)) (ldA Tryd.underlying35 rfl sz35 rfl (Cells.own (n := 6) PickB.eq rfl) rfl), ?_⟩
          refine Dx.one (i := 3) (by kernel_rfl) ?_
          refine Dstep.o (i := 3) rfl (Ox.cb rfl rfl rfl (Of_ct 9 _ _ _ hv3 hM2 (by omega))) rfl (fun v B' H' hΦ hB => ?_)
          obtain ⟨rfl, rfl, rfl⟩ := hΦ; clear hB
          refine ⟨JOk.edge (JOk.yes (JOk.top) (ldA Tryd.underlying35 rfl sz35 rfl (Cells.own (n := 6) PickB.eq rfl) rfl)) (by kernel_rfl), ?_⟩
          refine Dx.p (i := 4) rfl (by kernel_rfl) (asg rfl) rfl ?_
          refine Dx.p (i := 5) rfl (by kernel_rfl) (asg rfl) rfl ?_
          refine Dx.done (by kernel_rfl) ?_
          exact Xx.mkK (⟨rfl, rfl, rfl⟩) (Sub.cons (s := 7) rfl (Sub.cons (s := 8) rfl (Sub.cons (s := 0) rfl (Sub.cons (s := 1) rfl (Sub.cons (s := 2) rfl (Sub.cons (s := 3) rfl (Sub.cons (s := 4) rfl (Sub.cons (s := 5) rfl (Sub.cons (s := 6) rfl (Sub.cons (s := 17) rfl (Sub.cons (s := 18) rfl (Sub.cons (s := 19) rfl (Sub.cons (s := 20) rfl (Sub.cons (s := 21) rfl (Sub.cons (s := 22) rfl (Sub.cons (s := 23) rfl (Sub.cons (s := 24) rfl (Sub.nil _))))))))))))))))))
        · rintro ρ' B' H' ⟨rfl, rfl, rfl⟩
          refine Cx.cutK (ds' := []) (Sub.cons (s := 0) rfl (Sub.cons (s := 1) rfl (Sub.cons (s := 2) rfl (Sub.cons (s := 3) rfl (Sub.cons (s := 4) rfl (Sub.cons (s := 5) rfl (Sub.cons (s := 6) rfl (Sub.cons (s := 7) rfl (Sub.cons (s := 8) rfl (Sub.cons (s := 17) rfl (Sub.cons (s := 18) rfl (Sub.cons (s := 19) rfl (Sub.cons (s := 20) rfl (Sub.cons (s := 21) rfl (Sub.cons (s := 22) rfl (Sub.cons (s := 23) rfl (Sub.cons (s := 24) rfl (Sub.nil _)))))))))))))))))) (fun ρ' B' H' => ∃ b9 b10 Ap2 cp2 An2 cn2 Ap3 cp3 An3 cn3, ρ' = [(9, .pointer (some ⟨b9, 0, none⟩)), (10, .pointer (some ⟨b10, 0, none⟩))] ∧ B3.le B' ∧ ValR B' 9 (cutF 8 32 x) (vcs (cutF 8 32 x) Ap2 cp2 An2 cn2) ∧ ValR B' 9 (cutF 8 32 y) (vcs (cutF 8 32 y) Ap3 cp3 An3 cn3) ∧ row b10 42 (vcs (cutF 8 32 y) Ap3 cp3 An3 cn3) * (row b9 42 (vcs (cutF 8 32 x) Ap2 cp2 An2 cn2) * R) = H') ?_ ?_
          · skip
            refine Cx.drawn (by kernel_rfl) ?_
            refine Dx.r (i := 0) rfl (by kernel_rfl) (ldA Tryd.underlying35 rfl sz35 rfl (Cells.own (n := 6) PickB.eq rfl) rfl) rfl ?_
            refine Dx.r (i := 2) rfl (by kernel_rfl) (ldA Tryd.underlying35 rfl sz35 rfl (Cells.own (n := 6) PickB.eq rfl) rfl) rfl ?_
            refine Dx.three (i := 1) (j := 4) (l := 5) (by kernel_rfl) ?_ ?_ ?_
            · skip
              refine Dstep.o (i := 1) rfl (Ox.cb rfl rfl rfl (Ref_ct 9 _ _ _ (hv2) (cutF_few _ _ _ _ (by decide)))) rfl (fun v B' H' hΦ hB => ?_)
              obtain ⟨rfl, hΦ⟩ := hΦ
              obtain ⟨cs4, rfl, hv4⟩ := hΦ
              obtain ⟨Apcs4, cpcs4, Ancs4, cncs4, rfl⟩ := ValR.shape hv4
              have hB4 := hB
              refine ⟨JOk.yes (JOk.edge (JOk.top) (by kernel_rfl)) (ldA Tryd.underlying35 rfl sz35 rfl (Cells.own (n := 6) PickB.eq rfl) rfl), ?_⟩
              refine Dx.three (i := 3) (j := 4) (l := 5) (by kernel_rfl) ?_ ?_ ?_
              · skip
                refine Dstep.o (i := 3) rfl (Ox.cb rfl rfl rfl (Ref_ct 9 _ _ _ (ValR.mono hB4 hv3) (cutF_few _ _ _ _ (by decide)))) rfl (fun v B' H' hΦ hB => ?_)
                obtain ⟨rfl, hΦ⟩ := hΦ
                obtain ⟨cs5, rfl, hv5⟩ := hΦ
                obtain ⟨Apcs5, cpcs5, Ancs5, cncs5, rfl⟩ := ValR.shape hv5
                have hB5 := hB
                refine ⟨JOk.edge (JOk.yes (JOk.top) (ldA Tryd.underlying35 rfl sz35 rfl (Cells.own (n := 6) PickB.eq rfl) rfl)) (by kernel_rfl), ?_⟩
                refine Dx.two (i := 4) (j := 5) (by kernel_rfl) ?_ ?_
                · skip
                  refine Dstep.o (i := 4) rfl (allocO ti42) rfl (fun v B' H' hΦ hB => ?_)
                  obtain ⟨b9, rfl, rfl, rfl⟩ := hΦ; clear hB
                  refine ⟨JOk.yes (JOk.yes (JOk.top) (ldA Tryd.underlying35 rfl sz35 rfl (Cells.own (n := 6) PickB.eq rfl) rfl)) (ldA Tryd.underlying35 rfl sz35 rfl (Cells.own (n := 6) PickB.eq rfl) rfl), ?_⟩
                  refine Dx.one (i := 5) (by kernel_rfl) ?_
                  refine Dstep.o (i := 5) rfl (allocO ti42) rfl (fun v B' H' hΦ hB => ?_)
                  obtain ⟨b10, rfl, rfl, rfl⟩ := hΦ; clear hB
                  refine ⟨JOk.yes (JOk.yes (JOk.top) (ldA Tryd.underlying35 rfl sz35 rfl (Cells.own (n := 6) PickB.eq rfl) rfl)) (ldA Tryd.underlying35 rfl sz35 rfl (Cells.own (n := 6) PickB.eq rfl) rfl), ?_⟩
                  refine Dx.one (i := 6) (by kernel_rfl) ?_
                  refine Dstep.o0 (i := 6) rfl (stA (d := .bool) sz42 rfl rfl rfl rfl (by show 0 + 6 ≤ 6; omega) rfl) (fun v B' H' hΦ hB => ?_)
                  obtain ⟨rfl, rfl⟩ := hΦ; clear hB v
                  refine ⟨JOk.yes (JOk.edge (JOk.top) (by kernel_rfl)) (ldA Tryd.underlying35 rfl sz35 rfl (Cells.own (n := 6) PickB.eq rfl) rfl), ?_⟩
                  refine Dx.one (i := 7) (by kernel_rfl) ?_
                  refine Dstep.o0 (i := 7) rfl (stA (d := .bool) sz42 rfl rfl rfl rfl (by show 0 + 6 ≤ 6; omega) rfl) (fun v B' H' hΦ hB => ?_)
                  obtain ⟨rfl, rfl⟩ := hΦ; clear hB v
                  refine ⟨JOk.edge (JOk.edge (JOk.top) (by kernel_rfl)) (by kernel_rfl), ?_⟩
                  refine Dx.done (by kernel_rfl) ?_
                  refine Xx.dropB b5 (Xx.dropB b6 ?_)
                  exact Xx.mkK (⟨_, _, _, _, _, _, _, _, _, _, rfl, Frag.le_trans hB4 hB5, ValR.mono hB5 hv4, hv5, rfl⟩) (Sub.cons (s := 9) rfl (Sub.cons (s := 10) rfl (Sub.cons (s := 0) rfl (Sub.cons (s := 1) rfl (Sub.cons (s := 2) rfl (Sub.cons (s := 3) rfl (Sub.cons (s := 4) rfl (Sub.cons (s := 5) rfl (Sub.cons (s := 6) rfl (Sub.cons (s := 7) rfl (Sub.cons (s := 8) rfl (Sub.cons (s := 17) rfl (Sub.cons (s := 18) rfl (Sub.cons (s := 19) rfl (Sub.cons (s := 20) rfl (Sub.cons (s := 21) rfl (Sub.cons (s := 22) rfl (Sub.cons (s := 23) rfl (Sub.cons (s := 24) rfl (Sub.nil _))))))))))))))))))))
                · skip
                  refine Dstep.o (i := 5) rfl (allocO ti42) rfl (fun v B' H' hΦ hB => ?_)
                  obtain ⟨b10, rfl, rfl, rfl⟩ := hΦ; clear hB
                  refine ⟨JOk.yes (JOk.yes (JOk.top) (ldA Tryd.underlying35 rfl sz35 rfl (Cells.own (n := 6) PickB.eq rfl) rfl)) (ldA Tryd.underlying35 rfl sz35 rfl (Cells.own (n := 6) PickB.eq rfl) rfl), ?_⟩
                  refine Dx.one (i := 4) (by kernel_rfl) ?_
                  refine Dstep.o (i := 4) rfl (allocO ti42) rfl (fun v B' H' hΦ hB => ?_)
                  obtain ⟨b9, rfl, rfl, rfl⟩ := hΦ; clear hB
                  refine ⟨JOk.yes (JOk.yes (JOk.top) (ldA Tryd.underlying35 rfl sz35 rfl (Cells.own (n := 6) PickB.eq rfl) rfl)) (ldA Tryd.underlying35 rfl sz35 rfl (Cells.own (n := 6) PickB.eq rfl) rfl), ?_⟩
                  refine Dx.one (i := 6) (by kernel_rfl) ?_
                  refine Dstep.o0 (i := 6) rfl (stA (d := .bool) sz42 rfl rfl rfl rfl (by show 0 + 6 ≤ 6; omega) rfl) (fun v B' H' hΦ hB => ?_)
                  obtain ⟨rfl, rfl⟩ := hΦ; clear hB v
                  refine ⟨JOk.yes (JOk.edge (JOk.top) (by kernel_rfl)) (ldA Tryd.underlying35 rfl sz35 rfl (Cells.own (n := 6) PickB.eq rfl) rfl), ?_⟩
                  refine Dx.one (i := 7) (by kernel_rfl) ?_
                  refine Dstep.o0 (i := 7) rfl (stA (d := .bool) sz42 rfl rfl rfl rfl (by show 0 + 6 ≤ 6; omega) rfl) (fun v B' H' hΦ hB => ?_)
                  obtain ⟨rfl, rfl⟩ := hΦ; clear hB v
                  refine ⟨JOk.edge (JOk.edge (JOk.top) (by kernel_rfl)) (by kernel_rfl), ?_⟩
                  refine Dx.done (by kernel_rfl) ?_
                  refine Xx.dropB b5 (Xx.dropB b6 ?_)
                  exact Xx.mkK (⟨_, _, _, _, _, _, _, _, _, _, rfl, Frag.le_trans hB4 hB5, ValR.mono hB5 hv4, hv5, rfl⟩) (Sub.cons (s := 9) rfl (Sub.cons (s := 10) rfl (Sub.cons (s := 0) rfl (Sub.cons (s := 1) rfl (Sub.cons (s := 2) rfl (Sub.cons (s := 3) rfl (Sub.cons (s := 4) rfl (Sub.cons (s := 5) rfl (Sub.cons (s := 6) rfl (Sub.cons (s := 7) rfl (Sub.cons (s := 8) rfl (Sub.cons (s := 17) rfl (Sub.cons (s := 18) rfl (Sub.cons (s := 19) rfl (Sub.cons (s := 20) rfl (Sub.cons (s := 21) rfl (Sub.cons (s := 22) rfl (Sub.cons (s := 23) rfl (Sub.cons (s := 24) rfl (Sub.nil _))))))))))))))))))))
              · skip
                refine Dstep.o (i := 4) rfl (allocO ti42) rfl (fun v B' H' hΦ hB => ?_)
                obtain ⟨b9, rfl, rfl, rfl⟩ := hΦ; clear hB
                refine ⟨JOk.yes (JOk.yes (JOk.top) (ldA Tryd.underlying35 rfl sz35 rfl (Cells.own (n := 6) PickB.eq rfl) rfl)) (ldA Tryd.underlying35 rfl sz35 rfl (Cells.own (n := 6) PickB.eq rfl) rfl), ?_⟩
                refine Dx.two (i := 3) (j := 5) (by kernel_rfl) ?_ ?_
                · skip
                  refine Dstep.o (i := 3) rfl (Ox.cb rfl rfl rfl (Ref_ct 9 _ _ _ (ValR.mono hB4 hv3) (cutF_few _ _ _ _ (by decide)))) rfl (fun v B' H' hΦ hB => ?_)
                  obtain ⟨rfl, hΦ⟩ := hΦ
                  obtain ⟨cs5, rfl, hv5⟩ := hΦ
                  obtain ⟨Apcs5, cpcs5, Ancs5, cncs5, rfl⟩ := ValR.shape hv5
                  have hB5 := hB
                  refine ⟨JOk.edge (JOk.yes (JOk.top) (ldA Tryd.underlying35 rfl sz35 rfl (Cells.own (n := 6) PickB.eq rfl) rfl)) (by kernel_rfl), ?_⟩
                  refine Dx.one (i := 5) (by kernel_rfl) ?_
                  refine Dstep.o (i := 5) rfl (allocO ti42) rfl (fun v B' H' hΦ hB => ?_)
                  obtain ⟨b10, rfl, rfl, rfl⟩ := hΦ; clear hB
                  refine ⟨JOk.yes (JOk.yes (JOk.top) (ldA Tryd.underlying35 rfl sz35 rfl (Cells.own (n := 6) PickB.eq rfl) rfl)) (ldA Tryd.underlying35 rfl sz35 rfl (Cells.own (n := 6) PickB.eq rfl) rfl), ?_⟩
                  refine Dx.one (i := 6) (by kernel_rfl) ?_
                  refine Dstep.o0 (i := 6) rfl (stA (d := .bool) sz42 rfl rfl rfl rfl (by show 0 + 6 ≤ 6; omega) rfl) (fun v B' H' hΦ hB => ?_)
                  obtain ⟨rfl, rfl⟩ := hΦ; clear hB v
                  refine ⟨JOk.yes (JOk.edge (JOk.top) (by kernel_rfl)) (ldA Tryd.underlying35 rfl sz35 rfl (Cells.own (n := 6) PickB.eq rfl) rfl), ?_⟩
                  refine Dx.one (i := 7) (by kernel_rfl) ?_
                  refine Dstep.o0 (i := 7) rfl (stA (d := .bool) sz42 rfl rfl rfl rfl (by show 0 + 6 ≤ 6; omega) rfl) (fun v B' H' hΦ hB => ?_)
                  obtain ⟨rfl, rfl⟩ := hΦ; clear hB v
                  refine ⟨JOk.edge (JOk.edge (JOk.top) (by kernel_rfl)) (by kernel_rfl), ?_⟩
                  refine Dx.done (by kernel_rfl) ?_
                  refine Xx.dropB b5 (Xx.dropB b6 ?_)
                  exact Xx.mkK (⟨_, _, _, _, _, _, _, _, _, _, rfl, Frag.le_trans hB4 hB5, ValR.mono hB5 hv4, hv5, rfl⟩) (Sub.cons (s := 9) rfl (Sub.cons (s := 10) rfl (Sub.cons (s := 0) rfl (Sub.cons (s := 1) rfl (Sub.cons (s := 2) rfl (Sub.cons (s := 3) rfl (Sub.cons (s := 4) rfl (Sub.cons (s := 5) rfl (Sub.cons (s := 6) rfl (Sub.cons (s := 7) rfl (Sub.cons (s := 8) rfl (Sub.cons (s := 17) rfl (Sub.cons (s := 18) rfl (Sub.cons (s := 19) rfl (Sub.cons (s := 20) rfl (Sub.cons (s := 21) rfl (Sub.cons (s := 22) rfl (Sub.cons (s := 23) rfl (Sub.cons (s := 24) rfl (Sub.nil _))))))))))))))))))))
                · skip
                  refine Dstep.o (i := 5) rfl (allocO ti42) rfl (fun v B' H' hΦ hB => ?_)
                  obtain ⟨b10, rfl, rfl, rfl⟩ := hΦ; clear hB
                  refine ⟨JOk.yes (JOk.yes (JOk.top) (ldA Tryd.underlying35 rfl sz35 rfl (Cells.own (n := 6) PickB.eq rfl) rfl)) (ldA Tryd.underlying35 rfl sz35 rfl (Cells.own (n := 6) PickB.eq rfl) rfl), ?_⟩
                  refine Dx.one (i := 3) (by kernel_rfl) ?_
                  refine Dstep.o (i := 3) rfl (Ox.cb rfl rfl rfl (Ref_ct 9 _ _ _ (ValR.mono hB4 hv3) (cutF_few _ _ _ _ (by decide)))) rfl (fun v B' H' hΦ hB => ?_)
                  obtain ⟨rfl, hΦ⟩ := hΦ
                  obtain ⟨cs5, rfl, hv5⟩ := hΦ
                  obtain ⟨Apcs5, cpcs5, Ancs5, cncs5, rfl⟩ := ValR.shape hv5
                  have hB5 := hB
                  refine ⟨JOk.edge (JOk.yes (JOk.top) (ldA Tryd.underlying35 rfl sz35 rfl (Cells.own (n := 6) PickB.eq rfl) rfl)) (by kernel_rfl), ?_⟩
                  refine Dx.one (i := 6) (by kernel_rfl) ?_
                  refine Dstep.o0 (i := 6) rfl (stA (d := .bool) sz42 rfl rfl rfl rfl (by show 0 + 6 ≤ 6; omega) rfl) (fun v B' H' hΦ hB => ?_)
                  obtain ⟨rfl, rfl⟩ := hΦ; clear hB v
                  refine ⟨JOk.yes (JOk.edge (JOk.top) (by kernel_rfl)) (ldA Tryd.underlying35 rfl sz35 rfl (Cells.own (n := 6) PickB.eq rfl) rfl), ?_⟩
                  refine Dx.one (i := 7) (by kernel_rfl) ?_
                  refine Dstep.o0 (i := 7) rfl (stA (d := .bool) sz42 rfl rfl rfl rfl (by show 0 + 6 ≤ 6; omega) rfl) (fun v B' H' hΦ hB => ?_)
                  obtain ⟨rfl, rfl⟩ := hΦ; clear hB v
                  refine ⟨JOk.edge (JOk.edge (JOk.top) (by kernel_rfl)) (by kernel_rfl), ?_⟩
                  refine Dx.done (by kernel_rfl) ?_
                  refine Xx.dropB b5 (Xx.dropB b6 ?_)
                  exact Xx.mkK (⟨_, _, _, _, _, _, _, _, _, _, rfl, Frag.le_trans hB4 hB5, ValR.mono hB5 hv4, hv5, rfl⟩) (Sub.cons (s := 9) rfl (Sub.cons (s := 10) rfl (Sub.cons (s := 0) rfl (Sub.cons (s := 1) rfl (Sub.cons (s := 2) rfl (Sub.cons (s := 3) rfl (Sub.cons (s := 4) rfl (Sub.cons (s := 5) rfl (Sub.cons (s := 6) rfl (Sub.cons (s := 7) rfl (Sub.cons (s := 8) rfl (Sub.cons (s := 17) rfl (Sub.cons (s := 18) rfl (Sub.cons (s := 19) rfl (Sub.cons (s := 20) rfl (Sub.cons (s := 21) rfl (Sub.cons (s := 22) rfl (Sub.cons (s := 23) rfl (Sub.cons (s := 24) rfl (Sub.nil _))))))))))))))))))))
              · skip
                refine Dstep.o (i := 5) rfl (allocO ti42) rfl (fun v B' H' hΦ hB => ?_)
                obtain ⟨b10, rfl, rfl, rfl⟩ := hΦ; clear hB
                refine ⟨JOk.yes (JOk.yes (JOk.top) (ldA Tryd.underlying35 rfl sz35 rfl (Cells.own (n := 6) PickB.eq rfl) rfl)) (ldA Tryd.underlying35 rfl sz35 rfl (Cells.own (n := 6) PickB.eq rfl) rfl), ?_⟩
                refine Dx.two (i := 3) (j := 4) (by kernel_rfl) ?_ ?_
                · skip
                  refine Dstep.o (i := 3) rfl (Ox.cb rfl rfl rfl (Ref_ct 9 _ _ _ (ValR.mono hB4 hv3) (cutF_few _ _ _ _ (by decide)))) rfl (fun v B' H' hΦ hB => ?_)
                  obtain ⟨rfl, hΦ⟩ := hΦ
                  obtain ⟨cs5, rfl, hv5⟩ := hΦ
                  obtain ⟨Apcs5, cpcs5, Ancs5, cncs5, rfl⟩ := ValR.shape hv5
                  have hB5 := hB
                  refine ⟨JOk.edge (JOk.yes (JOk.top) (ldA Tryd.underlying35 rfl sz35 rfl (Cells.own (n := 6) PickB.eq rfl) rfl)) (by kernel_rfl), ?_⟩
                  refine Dx.one (i := 4) (by kernel_rfl) ?_
                  refine Dstep.o (i := 4) rfl (allocO ti42) rfl (fun v B' H' hΦ hB => ?_)
                  obtain ⟨b9, rfl, rfl, rfl⟩ := hΦ; clear hB
                  refine ⟨JOk.yes (JOk.yes (JOk.top) (ldA Tryd.underlying35 rfl sz35 rfl (Cells.own (n := 6) PickB.eq rfl) rfl)) (ldA Tryd.underlying35 rfl sz35 rfl (Cells.own (n := 6) PickB.eq rfl) rfl), ?_⟩
                  refine Dx.one (i := 6) (by kernel_rfl) ?_
                  refine Dstep.o0 (i := 6) rfl (stA (d := .bool) sz42 rfl rfl rfl rfl (by show 0 + 6 ≤ 6; omega) rfl) (fun v B' H' hΦ hB => ?_)
                  obtain ⟨rfl, rfl⟩ := hΦ; clear hB v
                  refine ⟨JOk.yes (JOk.edge (JOk.top) (by kernel_rfl)) (ldA Tryd.underlying35 rfl sz35 rfl (Cells.own (n := 6) PickB.eq rfl) rfl), ?_⟩
                  refine Dx.one (i := 7) (by kernel_rfl) ?_
                  refine Dstep.o0 (i := 7) rfl (stA (d := .bool) sz42 rfl rfl rfl rfl (by show 0 + 6 ≤ 6; omega) rfl) (fun v B' H' hΦ hB => ?_)
                  obtain ⟨rfl, rfl⟩ := hΦ; clear hB v
                  refine ⟨JOk.edge (JOk.edge (JOk.top) (by kernel_rfl)) (by kernel_rfl), ?_⟩
                  refine Dx.done (by kernel_rfl) ?_
                  refine Xx.dropB b5 (Xx.dropB b6 ?_)
                  exact Xx.mkK (⟨_, _, _, _, _, _, _, _, _, _, rfl, Frag.le_trans hB4 hB5, ValR.mono hB5 hv4, hv5, rfl⟩) (Sub.cons (s := 9) rfl (Sub.cons (s := 10) rfl (Sub.cons (s := 0) rfl (Sub.cons (s := 1) rfl (Sub.cons (s := 2) rfl (Sub.cons (s := 3) rfl (Sub.cons (s := 4) rfl (Sub.cons (s := 5) rfl (Sub.cons (s := 6) rfl (Sub.cons (s := 7) rfl (Sub.cons (s := 8) rfl (Sub.cons (s := 17) rfl (Sub.cons (s := 18) rfl (Sub.cons (s := 19) rfl (Sub.cons (s := 20) rfl (Sub.cons (s := 21) rfl (Sub.cons (s := 22) rfl (Sub.cons (s := 23) rfl (Sub.cons (s := 24) rfl (Sub.nil _))))))))))))))))))))
                · skip
                  refine Dstep.o (i := 4) rfl (allocO ti42) rfl (fun v B' H' hΦ hB => ?_)
                  obtain ⟨b9, rfl, rfl, rfl⟩ := hΦ; clear hB
                  refine ⟨JOk.yes (JOk.yes (JOk.top) (ldA Tryd.underlying35 rfl sz35 rfl (Cells.own (n := 6) PickB.eq rfl) rfl)) (ldA Tryd.underlying35 rfl sz35 rfl (Cells.own (n := 6) PickB.eq rfl) rfl), ?_⟩
                  refine Dx.one (i := 3) (by kernel_rfl) ?_
                  refine Dstep.o (i := 3) rfl (Ox.cb rfl rfl rfl (Ref_ct 9 _ _ _ (ValR.mono hB4 hv3) (cutF_few _ _ _ _ (by decide)))) rfl (fun v B' H' hΦ hB => ?_)
                  obtain ⟨rfl, hΦ⟩ := hΦ
                  obtain ⟨cs5, rfl, hv5⟩ := hΦ
                  obtain ⟨Apcs5, cpcs5, Ancs5, cncs5, rfl⟩ := ValR.shape hv5
                  have hB5 := hB
                  refine ⟨JOk.edge (JOk.yes (JOk.top) (ldA Tryd.underlying35 rfl sz35 rfl (Cells.own (n := 6) PickB.eq rfl) rfl)) (by kernel_rfl), ?_⟩
                  refine Dx.one (i := 6) (by kernel_rfl) ?_
                  refine Dstep.o0 (i := 6) rfl (stA (d := .bool) sz42 rfl rfl rfl rfl (by show 0 + 6 ≤ 6; omega) rfl) (fun v B' H' hΦ hB => ?_)
                  obtain ⟨rfl, rfl⟩ := hΦ; clear hB v
                  refine ⟨JOk.yes (JOk.edge (JOk.top) (by kernel_rfl)) (ldA Tryd.underlying35 rfl sz35 rfl (Cells.own (n := 6) PickB.eq rfl) rfl), ?_⟩
                  refine Dx.one (i := 7) (by kernel_rfl) ?_
                  refine Dstep.o0 (i := 7) rfl (stA (d := .bool) sz42 rfl rfl rfl rfl (by show 0 + 6 ≤ 6; omega) rfl) (fun v B' H' hΦ hB => ?_)
                  obtain ⟨rfl, rfl⟩ := hΦ; clear hB v
                  refine ⟨JOk.edge (JOk.edge (JOk.top) (by kernel_rfl)) (by kernel_rfl), ?_⟩
                  refine Dx.done (by kernel_rfl) ?_
                  refine Xx.dropB b5 (Xx.dropB b6 ?_)
                  exact Xx.mkK (⟨_, _, _, _, _, _, _, _, _, _, rfl, Frag.le_trans hB4 hB5, ValR.mono hB5 hv4, hv5, rfl⟩) (Sub.cons (s := 9) rfl (Sub.cons (s := 10) rfl (Sub.cons (s := 0) rfl (Sub.cons (s := 1) rfl (Sub.cons (s := 2) rfl (Sub.cons (s := 3) rfl (Sub.cons (s := 4) rfl (Sub.cons (s := 5) rfl (Sub.cons (s := 6) rfl (Sub.cons (s := 7) rfl (Sub.cons (s := 8) rfl (Sub.cons (s := 17) rfl (Sub.cons (s := 18) rfl (Sub.cons (s := 19) rfl (Sub.cons (s := 20) rfl (Sub.cons (s := 21) rfl (Sub.cons (s := 22) rfl (Sub.cons (s := 23) rfl (Sub.cons (s := 24) rfl (Sub.nil _))))))))))))))))))))
            · skip
              refine Dstep.o (i := 4) rfl (allocO ti42) rfl (fun v B' H' hΦ hB => ?_)
              obtain ⟨b9, rfl, rfl, rfl⟩ := hΦ; clear hB
              refine ⟨JOk.yes (JOk.yes (JOk.top) (ldA Tryd.underlying35 rfl sz35 rfl (Cells.own (n := 6) PickB.eq rfl) rfl)) (ldA Tryd.underlying35 rfl sz35 rfl (Cells.own (n := 6) PickB.eq rfl) rfl), ?_⟩
              refine Dx.two (i := 1) (j := 5) (by kernel_rfl) ?_ ?_
              · skip
                refine Dstep.o (i := 1) rfl (Ox.cb rfl rfl rfl (Ref_ct 9 _ _ _ (hv2) (cutF_few _ _ _ _ (by decide)))) rfl (fun v B' H' hΦ hB => ?_)
                obtain ⟨rfl, hΦ⟩ := hΦ
                obtain ⟨cs4, rfl, hv4⟩ := hΦ
                obtain ⟨Apcs4, cpcs4, Ancs4, cncs4, rfl⟩ := ValR.shape hv4
                have hB4 := hB
                refine ⟨JOk.yes (JOk.edge (JOk.top) (by kernel_rfl)) (ldA Tryd.underlying35 rfl sz35 rfl (Cells.own (n := 6) PickB.eq rfl) rfl), ?_⟩
                refine Dx.two (i := 3) (j := 5) (by kernel_rfl) ?_ ?_
                · skip
                  refine Dstep.o (i := 3) rfl (Ox.cb rfl rfl rfl (Ref_ct 9 _ _ _ (ValR.mono hB4 hv3) (cutF_few _ _ _ _ (by decide)))) rfl (fun v B' H' hΦ hB => ?_)
                  obtain ⟨rfl, hΦ⟩ := hΦ
                  obtain ⟨cs5, rfl, hv5⟩ := hΦ
                  obtain ⟨Apcs5, cpcs5, Ancs5, cncs5, rfl⟩ := ValR.shape hv5
                  have hB5 := hB
                  refine ⟨JOk.edge (JOk.yes (JOk.top) (ldA Tryd.underlying35 rfl sz35 rfl (Cells.own (n := 6) PickB.eq rfl) rfl)) (by kernel_rfl), ?_⟩
                  refine Dx.one (i := 5) (by kernel_rfl) ?_
                  refine Dstep.o (i := 5) rfl (allocO ti42) rfl (fun v B' H' hΦ hB => ?_)
                  obtain ⟨b10, rfl, rfl, rfl⟩ := hΦ; clear hB
                  refine ⟨JOk.yes (JOk.yes (JOk.top) (ldA Tryd.underlying35 rfl sz35 rfl (Cells.own (n := 6) PickB.eq rfl) rfl)) (ldA Tryd.underlying35 rfl sz35 rfl (Cells.own (n := 6) PickB.eq rfl) rfl), ?_⟩
                  refine Dx.one (i := 6) (by kernel_rfl) ?_
                  refine Dstep.o0 (i := 6) rfl (stA (d := .bool) sz42 rfl rfl rfl rfl (by show 0 + 6 ≤ 6; omega) rfl) (fun v B' H' hΦ hB => ?_)
                  obtain ⟨rfl, rfl⟩ := hΦ; clear hB v
                  refine ⟨JOk.yes (JOk.edge (JOk.top) (by kernel_rfl)) (ldA Tryd.underlying35 rfl sz35 rfl (Cells.own (n := 6) PickB.eq rfl) rfl), ?_⟩
                  refine Dx.one (i := 7) (by kernel_rfl) ?_
                  refine Dstep.o0 (i := 7) rfl (stA (d := .bool) sz42 rfl rfl rfl rfl (by show 0 + 6 ≤ 6; omega) rfl) (fun v B' H' hΦ hB => ?_)
                  obtain ⟨rfl, rfl⟩ := hΦ; clear hB v
                  refine ⟨JOk.edge (JOk.edge (JOk.top) (by kernel_rfl)) (by kernel_rfl), ?_⟩
                  refine Dx.done (by kernel_rfl) ?_
                  refine Xx.dropB b5 (Xx.dropB b6 ?_)
                  exact Xx.mkK (⟨_, _, _, _, _, _, _, _, _, _, rfl, Frag.le_trans hB4 hB5, ValR.mono hB5 hv4, hv5, rfl⟩) (Sub.cons (s := 9) rfl (Sub.cons (s := 10) rfl (Sub.cons (s := 0) rfl (Sub.cons (s := 1) rfl (Sub.cons (s := 2) rfl (Sub.cons (s := 3) rfl (Sub.cons (s := 4) rfl (Sub.cons (s := 5) rfl (Sub.cons (s := 6) rfl (Sub.cons (s := 7) rfl (Sub.cons (s := 8) rfl (Sub.cons (s := 17) rfl (Sub.cons (s := 18) rfl (Sub.cons (s := 19) rfl (Sub.cons (s := 20) rfl (Sub.cons (s := 21) rfl (Sub.cons (s := 22) rfl (Sub.cons (s := 23) rfl (Sub.cons (s := 24) rfl (Sub.nil _))))))))))))))))))))
                · skip
                  refine Dstep.o (i := 5) rfl (allocO ti42) rfl (fun v B' H' hΦ hB => ?_)
                  obtain ⟨b10, rfl, rfl, rfl⟩ := hΦ; clear hB
                  refine ⟨JOk.yes (JOk.yes (JOk.top) (ldA Tryd.underlying35 rfl sz35 rfl (Cells.own (n := 6) PickB.eq rfl) rfl)) (ldA Tryd.underlying35 rfl sz35 rfl (Cells.own (n := 6) PickB.eq rfl) rfl), ?_⟩
                  refine Dx.one (i := 3) (by kernel_rfl) ?_
                  refine Dstep.o (i := 3) rfl (Ox.cb rfl rfl rfl (Ref_ct 9 _ _ _ (ValR.mono hB4 hv3) (cutF_few _ _ _ _ (by decide)))) rfl (fun v B' H' hΦ hB => ?_)
                  obtain ⟨rfl, hΦ⟩ := hΦ
                  obtain ⟨cs5, rfl, hv5⟩ := hΦ
                  obtain ⟨Apcs5, cpcs5, Ancs5, cncs5, rfl⟩ := ValR.shape hv5
                  have hB5 := hB
                  refine ⟨JOk.edge (JOk.yes (JOk.top) (ldA Tryd.underlying35 rfl sz35 rfl (Cells.own (n := 6) PickB.eq rfl) rfl)) (by kernel_rfl), ?_⟩
                  refine Dx.one (i := 6) (by kernel_rfl) ?_
                  refine Dstep.o0 (i := 6) rfl (stA (d := .bool) sz42 rfl rfl rfl rfl (by show 0 + 6 ≤ 6; omega) rfl) (fun v B' H' hΦ hB => ?_)
                  obtain ⟨rfl, rfl⟩ := hΦ; clear hB v
                  refine ⟨JOk.yes (JOk.edge (JOk.top) (by kernel_rfl)) (ldA Tryd.underlying35 rfl sz35 rfl (Cells.own (n := 6) PickB.eq rfl) rfl), ?_⟩
                  refine Dx.one (i := 7) (by kernel_rfl) ?_
                  refine Dstep.o0 (i := 7) rfl (stA (d := .bool) sz42 rfl rfl rfl rfl (by show 0 + 6 ≤ 6; omega) rfl) (fun v B' H' hΦ hB => ?_)
                  obtain ⟨rfl, rfl⟩ := hΦ; clear hB v
                  refine ⟨JOk.edge (JOk.edge (JOk.top) (by kernel_rfl)) (by kernel_rfl), ?_⟩
                  refine Dx.done (by kernel_rfl) ?_
                  refine Xx.dropB b5 (Xx.dropB b6 ?_)
                  exact Xx.mkK (⟨_, _, _, _, _, _, _, _, _, _, rfl, Frag.le_trans hB4 hB5, ValR.mono hB5 hv4, hv5, rfl⟩) (Sub.cons (s := 9) rfl (Sub.cons (s := 10) rfl (Sub.cons (s := 0) rfl (Sub.cons (s := 1) rfl (Sub.cons (s := 2) rfl (Sub.cons (s := 3) rfl (Sub.cons (s := 4) rfl (Sub.cons (s := 5) rfl (Sub.cons (s := 6) rfl (Sub.cons (s := 7) rfl (Sub.cons (s := 8) rfl (Sub.cons (s := 17) rfl (Sub.cons (s := 18) rfl (Sub.cons (s := 19) rfl (Sub.cons (s := 20) rfl (Sub.cons (s := 21) rfl (Sub.cons (s := 22) rfl (Sub.cons (s := 23) rfl (Sub.cons (s := 24) rfl (Sub.nil _))))))))))))))))))))
              · skip
                refine Dstep.o (i := 5) rfl (allocO ti42) rfl (fun v B' H' hΦ hB => ?_)
                obtain ⟨b10, rfl, rfl, rfl⟩ := hΦ; clear hB
                refine ⟨JOk.yes (JOk.yes (JOk.top) (ldA Tryd.underlying35 rfl sz35 rfl (Cells.own (n := 6) PickB.eq rfl) rfl)) (ldA Tryd.underlying35 rfl sz35 rfl (Cells.own (n := 6) PickB.eq rfl) rfl), ?_⟩
                refine Dx.one (i := 1) (by kernel_rfl) ?_
                refine Dstep.o (i := 1) rfl (Ox.cb rfl rfl rfl (Ref_ct 9 _ _ _ (hv2) (cutF_few _ _ _ _ (by decide)))) rfl (fun v B' H' hΦ hB => ?_)
                obtain ⟨rfl, hΦ⟩ := hΦ
                obtain ⟨cs4, rfl, hv4⟩ := hΦ
                obtain ⟨Apcs4, cpcs4, Ancs4, cncs4, rfl⟩ := ValR.shape hv4
                have hB4 := hB
                refine ⟨JOk.yes (JOk.edge (JOk.top) (by kernel_rfl)) (ldA Tryd.underlying35 rfl sz35 rfl (Cells.own (n := 6) PickB.eq rfl) rfl), ?_⟩
                refine Dx.one (i := 3) (by kernel_rfl) ?_
                refine Dstep.o (i := 3) rfl (Ox.cb rfl rfl rfl (Ref_ct 9 _ _ _ (ValR.mono hB4 hv3) (cutF_few _ _ _ _ (by decide)))) rfl (fun v B' H' hΦ hB => ?_)
                obtain ⟨rfl, hΦ⟩ := hΦ
                obtain ⟨cs5, rfl, hv5⟩ := hΦ
                obtain ⟨Apcs5, cpcs5, Ancs5, cncs5, rfl⟩ := ValR.shape hv5
                have hB5 := hB
                refine ⟨JOk.edge (JOk.yes (JOk.top) (ldA Tryd.underlying35 rfl sz35 rfl (Cells.own (n := 6) PickB.eq rfl) rfl)) (by kernel_rfl), ?_⟩
                refine Dx.one (i := 6) (by kernel_rfl) ?_
                refine Dstep.o0 (i := 6) rfl (stA (d := .bool) sz42 rfl rfl rfl rfl (by show 0 + 6 ≤ 6; omega) rfl) (fun v B' H' hΦ hB => ?_)
                obtain ⟨rfl, rfl⟩ := hΦ; clear hB v
                refine ⟨JOk.yes (JOk.edge (JOk.top) (by kernel_rfl)) (ldA Tryd.underlying35 rfl sz35 rfl (Cells.own (n := 6) PickB.eq rfl) rfl), ?_⟩
                refine Dx.one (i := 7) (by kernel_rfl) ?_
                refine Dstep.o0 (i := 7) rfl (stA (d := .bool) sz42 rfl rfl rfl rfl (by show 0 + 6 ≤ 6; omega) rfl) (fun v B' H' hΦ hB => ?_)
                obtain ⟨rfl, rfl⟩ := hΦ; clear hB v
                refine ⟨JOk.edge (JOk.edge (JOk.top) (by kernel_rfl)) (by kernel_rfl), ?_⟩
                refine Dx.done (by kernel_rfl) ?_
                refine Xx.dropB b5 (Xx.dropB b6 ?_)
                exact Xx.mkK (⟨_, _, _, _, _, _, _, _, _, _, rfl, Frag.le_trans hB4 hB5, ValR.mono hB5 hv4, hv5, rfl⟩) (Sub.cons (s := 9) rfl (Sub.cons (s := 10) rfl (Sub.cons (s := 0) rfl (Sub.cons (s := 1) rfl (Sub.cons (s := 2) rfl (Sub.cons (s := 3) rfl (Sub.cons (s := 4) rfl (Sub.cons (s := 5) rfl (Sub.cons (s := 6) rfl (Sub.cons (s := 7) rfl (Sub.cons (s := 8) rfl (Sub.cons (s := 17) rfl (Sub.cons (s := 18) rfl (Sub.cons (s := 19) rfl (Sub.cons (s := 20) rfl (Sub.cons (s := 21) rfl (Sub.cons (s := 22) rfl (Sub.cons (s := 23) rfl (Sub.cons (s := 24) rfl (Sub.nil _))))))))))))))))))))
            · skip
              refine Dstep.o (i := 5) rfl (allocO ti42) rfl (fun v B' H' hΦ hB => ?_)
              obtain ⟨b10, rfl, rfl, rfl⟩ := hΦ; clear hB
              refine ⟨JOk.yes (JOk.yes (JOk.top) (ldA Tryd.underlying35 rfl sz35 rfl (Cells.own (n := 6) PickB.eq rfl) rfl)) (ldA Tryd.underlying35 rfl sz35 rfl (Cells.own (n := 6) PickB.eq rfl) rfl), ?_⟩
              refine Dx.two (i := 1) (j := 4) (by kernel_rfl) ?_ ?_
              · skip
                refine Dstep.o (i := 1) rfl (Ox.cb rfl rfl rfl (Ref_ct 9 _ _ _ (hv2) (cutF_few _ _ _ _ (by decide)))) rfl (fun v B' H' hΦ hB => ?_)
                obtain ⟨rfl, hΦ⟩ := hΦ
                obtain ⟨cs4, rfl, hv4⟩ := hΦ
                obtain ⟨Apcs4, cpcs4, Ancs4, cncs4, rfl⟩ := ValR.shape hv4
                have hB4 := hB
                refine ⟨JOk.yes (JOk.edge (JOk.top) (by kernel_rfl)) (ldA Tryd.underlying35 rfl sz35 rfl (Cells.own (n := 6) PickB.eq rfl) rfl), ?_⟩
                refine Dx.two (i := 3) (j := 4) (by kernel_rfl) ?_ ?_
                · skip
                  refine Dstep.o (i := 3) rfl (Ox.cb rfl rfl rfl (Ref_ct 9 _ _ _ (ValR.mono hB4 hv3) (cutF_few _ _ _ _ (by decide)))) rfl (fun v B' H' hΦ hB => ?_)
                  obtain ⟨rfl, hΦ⟩ := hΦ
                  obtain ⟨cs5, rfl, hv5⟩ := hΦ
                  obtain ⟨Apcs5, cpcs5, Ancs5, cncs5, rfl⟩ := ValR.shape hv5
                  have hB5 := hB
                  refine ⟨JOk.edge (JOk.yes (JOk.top) (ldA Tryd.underlying35 rfl sz35 rfl (Cells.own (n := 6) PickB.eq rfl) rfl)) (by kernel_rfl), ?_⟩
                  refine Dx.one (i := 4) (by kernel_rfl) ?_
                  refine Dstep.o (i := 4) rfl (allocO ti42) rfl (fun v B' H' hΦ hB => ?_)
                  obtain ⟨b9, rfl, rfl, rfl⟩ := hΦ; clear hB
                  refine ⟨JOk.yes (JOk.yes (JOk.top) (ldA Tryd.underlying35 rfl sz35 rfl (Cells.own (n := 6) PickB.eq rfl) rfl)) (ldA Tryd.underlying35 rfl sz35 rfl (Cells.own (n := 6) PickB.eq rfl) rfl), ?_⟩
                  refine Dx.one (i := 6) (by kernel_rfl) ?_
                  refine Dstep.o0 (i := 6) rfl (stA (d := .bool) sz42 rfl rfl rfl rfl (by show 0 + 6 ≤ 6; omega) rfl) (fun v B' H' hΦ hB => ?_)
                  obtain ⟨rfl, rfl⟩ := hΦ; clear hB v
                  refine ⟨JOk.yes (JOk.edge (JOk.top) (by kernel_rfl)) (ldA Tryd.underlying35 rfl sz35 rfl (Cells.own (n := 6) PickB.eq rfl) rfl), ?_⟩
                  refine Dx.one (i := 7) (by kernel_rfl) ?_
                  refine Dstep.o0 (i := 7) rfl (stA (d := .bool) sz42 rfl rfl rfl rfl (by show 0 + 6 ≤ 6; omega) rfl) (fun v B' H' hΦ hB => ?_)
                  obtain ⟨rfl, rfl⟩ := hΦ; clear hB v
                  refine ⟨JOk.edge (JOk.edge (JOk.top) (by kernel_rfl)) (by kernel_rfl), ?_⟩
                  refine Dx.done (by kernel_rfl) ?_
                  refine Xx.dropB b5 (Xx.dropB b6 ?_)
                  exact Xx.mkK (⟨_, _, _, _, _, _, _, _, _, _, rfl, Frag.le_trans hB4 hB5, ValR.mono hB5 hv4, hv5, rfl⟩) (Sub.cons (s := 9) rfl (Sub.cons (s := 10) rfl (Sub.cons (s := 0) rfl (Sub.cons (s := 1) rfl (Sub.cons (s := 2) rfl (Sub.cons (s := 3) rfl (Sub.cons (s := 4) rfl (Sub.cons (s := 5) rfl (Sub.cons (s := 6) rfl (Sub.cons (s := 7) rfl (Sub.cons (s := 8) rfl (Sub.cons (s := 17) rfl (Sub.cons (s := 18) rfl (Sub.cons (s := 19) rfl (Sub.cons (s := 20) rfl (Sub.cons (s := 21) rfl (Sub.cons (s := 22) rfl (Sub.cons (s := 23) rfl (Sub.cons (s := 24) rfl (Sub.nil _))))))))))))))))))))
                · skip
                  refine Dstep.o (i := 4) rfl (allocO ti42) rfl (fun v B' H' hΦ hB => ?_)
                  obtain ⟨b9, rfl, rfl, rfl⟩ := hΦ; clear hB
                  refine ⟨JOk.yes (JOk.yes (JOk.top) (ldA Tryd.underlying35 rfl sz35 rfl (Cells.own (n := 6) PickB.eq rfl) rfl)) (ldA Tryd.underlying35 rfl sz35 rfl (Cells.own (n := 6) PickB.eq rfl) rfl), ?_⟩
                  refine Dx.one (i := 3) (by kernel_rfl) ?_
                  refine Dstep.o (i := 3) rfl (Ox.cb rfl rfl rfl (Ref_ct 9 _ _ _ (ValR.mono hB4 hv3) (cutF_few _ _ _ _ (by decide)))) rfl (fun v B' H' hΦ hB => ?_)
                  obtain ⟨rfl, hΦ⟩ := hΦ
                  obtain ⟨cs5, rfl, hv5⟩ := hΦ
                  obtain ⟨Apcs5, cpcs5, Ancs5, cncs5, rfl⟩ := ValR.shape hv5
                  have hB5 := hB
                  refine ⟨JOk.edge (JOk.yes (JOk.top) (ldA Tryd.underlying35 rfl sz35 rfl (Cells.own (n := 6) PickB.eq rfl) rfl)) (by kernel_rfl), ?_⟩
                  refine Dx.one (i := 6) (by kernel_rfl) ?_
                  refine Dstep.o0 (i := 6) rfl (stA (d := .bool) sz42 rfl rfl rfl rfl (by show 0 + 6 ≤ 6; omega) rfl) (fun v B' H' hΦ hB => ?_)
                  obtain ⟨rfl, rfl⟩ := hΦ; clear hB v
                  refine ⟨JOk.yes (JOk.edge (JOk.top) (by kernel_rfl)) (ldA Tryd.underlying35 rfl sz35 rfl (Cells.own (n := 6) PickB.eq rfl) rfl), ?_⟩
                  refine Dx.one (i := 7) (by kernel_rfl) ?_
                  refine Dstep.o0 (i := 7) rfl (stA (d := .bool) sz42 rfl rfl rfl rfl (by show 0 + 6 ≤ 6; omega) rfl) (fun v B' H' hΦ hB => ?_)
                  obtain ⟨rfl, rfl⟩ := hΦ; clear hB v
                  refine ⟨JOk.edge (JOk.edge (JOk.top) (by kernel_rfl)) (by kernel_rfl), ?_⟩
                  refine Dx.done (by kernel_rfl) ?_
                  refine Xx.dropB b5 (Xx.dropB b6 ?_)
                  exact Xx.mkK (⟨_, _, _, _, _, _, _, _, _, _, rfl, Frag.le_trans hB4 hB5, ValR.mono hB5 hv4, hv5, rfl⟩) (Sub.cons (s := 9) rfl (Sub.cons (s := 10) rfl (Sub.cons (s := 0) rfl (Sub.cons (s := 1) rfl (Sub.cons (s := 2) rfl (Sub.cons (s := 3) rfl (Sub.cons (s := 4) rfl (Sub.cons (s := 5) rfl (Sub.cons (s := 6) rfl (Sub.cons (s := 7) rfl (Sub.cons (s := 8) rfl (Sub.cons (s := 17) rfl (Sub.cons (s := 18) rfl (Sub.cons (s := 19) rfl (Sub.cons (s := 20) rfl (Sub.cons (s := 21) rfl (Sub.cons (s := 22) rfl (Sub.cons (s := 23) rfl (Sub.cons (s := 24) rfl (Sub.nil _))))))))))))))))))))
              · skip
                refine Dstep.o (i := 4) rfl (allocO ti42) rfl (fun v B' H' hΦ hB => ?_)
                obtain ⟨b9, rfl, rfl, rfl⟩ := hΦ; clear hB
                refine ⟨JOk.yes (JOk.yes (JOk.top) (ldA Tryd.underlying35 rfl sz35 rfl (Cells.own (n := 6) PickB.eq rfl) rfl)) (ldA Tryd.underlying35 rfl sz35 rfl (Cells.own (n := 6) PickB.eq rfl) rfl), ?_⟩
                refine Dx.one (i := 1) (by kernel_rfl) ?_
                refine Dstep.o (i := 1) rfl (Ox.cb rfl rfl rfl (Ref_ct 9 _ _ _ (hv2) (cutF_few _ _ _ _ (by decide)))) rfl (fun v B' H' hΦ hB => ?_)
                obtain ⟨rfl, hΦ⟩ := hΦ
                obtain ⟨cs4, rfl, hv4⟩ := hΦ
                obtain ⟨Apcs4, cpcs4, Ancs4, cncs4, rfl⟩ := ValR.shape hv4
                have hB4 := hB
                refine ⟨JOk.yes (JOk.edge (JOk.top) (by kernel_rfl)) (ldA Tryd.underlying35 rfl sz35 rfl (Cells.own (n := 6) PickB.eq rfl) rfl), ?_⟩
                refine Dx.one (i := 3) (by kernel_rfl) ?_
                refine Dstep.o (i := 3) rfl (Ox.cb rfl rfl rfl (Ref_ct 9 _ _ _ (ValR.mono hB4 hv3) (cutF_few _ _ _ _ (by decide)))) rfl (fun v B' H' hΦ hB => ?_)
                obtain ⟨rfl, hΦ⟩ := hΦ
                obtain ⟨cs5, rfl, hv5⟩ := hΦ
                obtain ⟨Apcs5, cpcs5, Ancs5, cncs5, rfl⟩ := ValR.shape hv5
                have hB5 := hB
                refine ⟨JOk.edge (JOk.yes (JOk.top) (ldA Tryd.underlying35 rfl sz35 rfl (Cells.own (n := 6) PickB.eq rfl) rfl)) (by kernel_rfl), ?_⟩
                refine Dx.one (i := 6) (by kernel_rfl) ?_
                refine Dstep.o0 (i := 6) rfl (stA (d := .bool) sz42 rfl rfl rfl rfl (by show 0 + 6 ≤ 6; omega) rfl) (fun v B' H' hΦ hB => ?_)
                obtain ⟨rfl, rfl⟩ := hΦ; clear hB v
                refine ⟨JOk.yes (JOk.edge (JOk.top) (by kernel_rfl)) (ldA Tryd.underlying35 rfl sz35 rfl (Cells.own (n := 6) PickB.eq rfl) rfl), ?_⟩
                refine Dx.one (i := 7) (by kernel_rfl) ?_
                refine Dstep.o0 (i := 7) rfl (stA (d := .bool) sz42 rfl rfl rfl rfl (by show 0 + 6 ≤ 6; omega) rfl) (fun v B' H' hΦ hB => ?_)
                obtain ⟨rfl, rfl⟩ := hΦ; clear hB v
                refine ⟨JOk.edge (JOk.edge (JOk.top) (by kernel_rfl)) (by kernel_rfl), ?_⟩
                refine Dx.done (by kernel_rfl) ?_
                refine Xx.dropB b5 (Xx.dropB b6 ?_)
                exact Xx.mkK (⟨_, _, _, _, _, _, _, _, _, _, rfl, Frag.le_trans hB4 hB5, ValR.mono hB5 hv4, hv5, rfl⟩) (Sub.cons (s := 9) rfl (Sub.cons (s := 10) rfl (Sub.cons (s := 0) rfl (Sub.cons (s := 1) rfl (Sub.cons (s := 2) rfl (Sub.cons (s := 3) rfl (Sub.cons (s := 4) rfl (Sub.cons (s := 5) rfl (Sub.cons (s := 6) rfl (Sub.cons (s := 7) rfl (Sub.cons (s := 8) rfl (Sub.cons (s := 17) rfl (Sub.cons (s := 18) rfl (Sub.cons (s := 19) rfl (Sub.cons (s := 20) rfl (Sub.cons (s := 21) rfl (Sub.cons (s := 22) rfl (Sub.cons (s := 23) rfl (Sub.cons (s := 24) rfl (Sub.nil _))))))))))))))))))))
          · rintro ρ' B' H' ⟨b9, b10, Ap4, cp4, An4, cn4, Ap5, cp5, An5, cn5, rfl, hB5, hv4, hv5, rfl⟩
            obtain ⟨B5, rfl⟩ : ∃ B5, B5 = B' := ⟨B', rfl⟩
            have hT := key_cmp hv4 hv5 hoka hokb
            have e1 := tri_lt hT
            have e2 := tri_eq hT
            have e3 := tri_pre hT
            have k1 := keyF_len _ _ _ _ hv4
            have k2 := keyF_len _ _ _ _ hv5
            refine Cx.seq (fun K10 k10 => ?_)
            refine Cx.region ?_
            refine Lx.y (ldA Tryd.underlying42 rfl sz42 rfl (Cells.own (n := 6) PickB.eq rfl) rfl) rfl ?_
            refine Lx.y (ldA Tryd.underlying42 rfl sz42 rfl (Cells.own (n := 6) PickB.eq rfl) rfl) rfl ?_
            refine Lx.cp rfl rfl rfl (Same_ct 9 _ _ _ _ _ _ hv4 hv5 hoka hokb) rfl ?_
            refine Lx.y (asg rfl) rfl ?_
            refine Lx.nil ?_
            refine Xx.tn (k10 _ _ _ _ ?_)
            refine Cx.cutK (ds' := []) (Sub.cons (s := 0) rfl (Sub.cons (s := 1) rfl (Sub.cons (s := 2) rfl (Sub.cons (s := 3) rfl (Sub.cons (s := 4) rfl (Sub.cons (s := 5) rfl (Sub.cons (s := 6) rfl (Sub.cons (s := 7) rfl (Sub.cons (s := 8) rfl (Sub.cons (s := 9) rfl (Sub.cons (s := 10) rfl (Sub.cons (s := 11) rfl (Sub.cons (s := 17) rfl (Sub.cons (s := 18) rfl (Sub.cons (s := 19) rfl (Sub.cons (s := 20) rfl (Sub.cons (s := 21) rfl (Sub.cons (s := 22) rfl (Sub.cons (s := 23) rfl (Sub.cons (s := 24) rfl (Sub.cons (s := 34) rfl (Sub.cons (s := 35) rfl (Sub.cons (s := 36) rfl (Sub.nil _)))))))))))))))))))))))) (fun ρ' B' H' => ρ' = [(12, .bool (decide (cmpF 9 (cutF 8 32 x) (cutF 8 32 y) = .eq)))] ∧ B5 = B' ∧ row b10 42 (vcs (cutF 8 32 y) Ap5 cp5 An5 cn5) * (row b9 42 (vcs (cutF 8 32 x) Ap4 cp4 An4 cn4) * R) = H') ?_ ?_
            · skip
              refine Cx.region ?_
              refine Lx.y (mv rfl) rfl ?_
              refine Lx.y (lenS Tryd.underlying9 rfl) rfl ?_
              refine Lx.y (mv rfl) rfl ?_
              refine Lx.y (lenS Tryd.underlying9 rfl) rfl ?_
              refine Lx.y (leq rfl rfl) rfl ?_
              refine Lx.y (mv rfl) rfl ?_
              refine Xx.ifD (t := 42) rfl (fun h11 => ?_) (fun h11 => ?_)
              · skip
                have hlen := h11
                refine Lx.gT rfl rfl rfl ?_
                refine Lx.y (mv rfl) rfl ?_
                refine Lx.gT rfl rfl rfl ?_
                refine Lx.y (mv rfl) rfl ?_
                refine Lx.gT rfl rfl rfl ?_
                refine Lx.y (lenS Tryd.underlying9 rfl) rfl ?_
                refine Lx.gT rfl rfl rfl ?_
                refine Lx.y (sl2S Tryd.underlying9 rfl rfl (by first | exact Int.toNat_natCast _ | rfl) (by omega) (by omega)) rfl ?_
                refine Lx.gT rfl rfl rfl ?_
                refine Lx.y (mv rfl) rfl ?_
                refine Lx.gT rfl rfl rfl ?_
                refine Lx.y (eqS rfl rfl) rfl ?_
                refine Lx.y (pickT rfl rfl) rfl ?_
                refine Lx.y (asg rfl) rfl ?_
                refine Lx.nil ?_
                exact Xx.mkK (⟨rfl, rfl, rfl⟩) (Sub.consE (s := 12) rfl (congrArg Value.bool (by rw [← e3]; exact decide_eq_decide.2 ⟨fun z => ⟨by omega, z⟩, fun z => z.2⟩)) (Sub.cons (s := 0) rfl (Sub.cons (s := 1) rfl (Sub.cons (s := 2) rfl (Sub.cons (s := 3) rfl (Sub.cons (s := 4) rfl (Sub.cons (s := 5) rfl (Sub.cons (s := 6) rfl (Sub.cons (s := 7) rfl (Sub.cons (s := 8) rfl (Sub.cons (s := 9) rfl (Sub.cons (s := 10) rfl (Sub.cons (s := 11) rfl (Sub.cons (s := 17) rfl (Sub.cons (s := 18) rfl (Sub.cons (s := 19) rfl (Sub.cons (s := 20) rfl (Sub.cons (s := 21) rfl (Sub.cons (s := 22) rfl (Sub.cons (s := 23) rfl (Sub.cons (s := 24) rfl (Sub.cons (s := 34) rfl (Sub.cons (s := 35) rfl (Sub.cons (s := 36) rfl (Sub.nil _)))))))))))))))))))))))))
              · skip
                have hlen := h11
                refine Lx.gF rfl rfl rfl rfl ?_
                refine Lx.gF rfl rfl rfl rfl ?_
                refine Lx.gF rfl rfl rfl rfl ?_
                refine Lx.gF rfl rfl rfl rfl ?_
                refine Lx.gF rfl rfl rfl rfl ?_
                refine Lx.gF rfl rfl rfl rfl ?_
                refine Lx.y (pickF rfl rfl) rfl ?_
                refine Lx.y (asg rfl) rfl ?_
                refine Lx.nil ?_
                exact Xx.mkK (⟨rfl, rfl, rfl⟩) (Sub.consE (s := 12) rfl (congrArg Value.bool (by rw [← e3]; exact (decide_eq_false fun z => hlen (by omega)).symm)) (Sub.cons (s := 0) rfl (Sub.cons (s := 1) rfl (Sub.cons (s := 2) rfl (Sub.cons (s := 3) rfl (Sub.cons (s := 4) rfl (Sub.cons (s := 5) rfl (Sub.cons (s := 6) rfl (Sub.cons (s := 7) rfl (Sub.cons (s := 8) rfl (Sub.cons (s := 9) rfl (Sub.cons (s := 10) rfl (Sub.cons (s := 11) rfl (Sub.cons (s := 17) rfl (Sub.cons (s := 18) rfl (Sub.cons (s := 19) rfl (Sub.cons (s := 20) rfl (Sub.cons (s := 21) rfl (Sub.cons (s := 22) rfl (Sub.cons (s := 23) rfl (Sub.cons (s := 24) rfl (Sub.cons (s := 34) rfl (Sub.cons (s := 35) rfl (Sub.cons (s := 36) rfl (Sub.nil _)))))))))))))))))))))))))
            · rintro ρ' B' H' ⟨rfl, rfl, rfl⟩
              refine Cx.seq (fun K12 k12 => ?_)
              refine Cx.region ?_
              refine Lx.cb rfl rfl rfl (awake_ct _) rfl ?_
              rintro v B9 ⟨rfl, hBB⟩ hB9
              obtain rfl := hBB.symm
              refine Lx.y (mv rfl) rfl ?_
              refine Lx.gT rfl rfl rfl ?_
              refine Lx.y (mv rfl) rfl ?_
              refine Lx.gT rfl rfl rfl ?_
              refine Lx.y (mv rfl) rfl ?_
              refine Lx.gT rfl rfl rfl ?_
              refine Lx.y (Yx.val (lssS rfl rfl) (congrArg Value.bool e1)) rfl ?_
              refine Lx.gT rfl rfl rfl ?_
              refine Lx.y (ldA Tryd.underlying42 rfl sz42 rfl (Cells.own (n := 6) PickB.eq rfl) rfl) rfl ?_
              refine Lx.gT rfl rfl rfl ?_
              refine Lx.y (ldA Tryd.underlying42 rfl sz42 rfl (Cells.own (n := 6) PickB.eq rfl) rfl) rfl ?_
              refine Lx.gT rfl rfl rfl ?_
              refine Lx.cp rfl rfl rfl (Before_ct 9 _ _ _ _ _ _ hv4 hv5 hoka hokb) rfl ?_
              refine Lx.gT rfl rfl rfl ?_
              refine Lx.y (Yx.tt (eqB Tryd.underlying4 rfl rfl) (beq_self_eq_true _)) rfl ?_
              refine Lx.y (pickT rfl rfl) rfl ?_
              refine Lx.y (mv rfl) rfl ?_
              refine Lx.gT rfl rfl rfl ?_
              refine Lx.y (mv rfl) rfl ?_
              refine Lx.gT rfl rfl rfl ?_
              refine Lx.y (mv rfl) rfl ?_
              refine Lx.gT rfl rfl rfl ?_
              refine Lx.y (Yx.val (eqS rfl rfl) (congrArg Value.bool e2)) rfl ?_
              refine Lx.gT rfl rfl rfl ?_
              refine Lx.y (mv rfl) rfl ?_
              refine Lx.gT rfl rfl rfl ?_
              refine Lx.y (Yx.tt (eqB Tryd.underlying4 rfl rfl) (beq_self_eq_true _)) rfl ?_
              refine Lx.y (pickT rfl rfl) rfl ?_
              refine Lx.y (mv rfl) rfl ?_
              refine Lx.gT rfl rfl rfl ?_
              refine Lx.y (mv rfl) rfl ?_
              refine Lx.gT rfl rfl rfl ?_
              refine Lx.y (mv rfl) rfl ?_
              refine Lx.gT rfl rfl rfl ?_
              refine Lx.y (Yx.tt (eqB Tryd.underlying4 rfl rfl) (beq_self_eq_true _)) rfl ?_
              refine Lx.y (pickT rfl rfl) rfl ?_
              refine Lx.y (asg rfl) rfl ?_
              refine Lx.nil ?_
              refine Xx.tn (k12 _ _ _ _ ?_)
              refine Cx.ret ?_
              first | exact Xx.dropB b5 (Xx.dropB b6 (Xx.rB1 rfl rfl rfl hB3 rfl)) | exact Xx.dropB b9 (Xx.dropB b10 (Xx.rB1 rfl rfl rfl (Frag.le_trans hB3 hB5) rfl))

set_option maxHeartbeats 1000000 in
theorem KeysEqual_ct (x y : V) (n : BitVec 64) (cs cs1 : List Value) (d d1 : Nat) (B : Frag) (hx : ValR B d x cs) (hy : ValR B d1 y cs1) (hM : MaxLenIn B) : CtB Tryd.prog 7 [.agg cs.toArray, .agg cs1.toArray, u64 n] B (fun v _ => v = .bool true) := by
  obtain ⟨Ap, cp, An, cn, rfl⟩ := ValR.shape hx
  obtain ⟨Ap1, cp1, An1, cn1, rfl⟩ := ValR.shape hy
  refine CtB.of_body Tryd.func7 rfl (nt := 39) rfl (by kernel_rfl) rfl ?_
  intro N0 w0 R
  refine Cx.seq (fun K1 k1 => ?_)
  refine Cx.region ?_
  refine Lx.new (boxA rfl) rfl (fun b2 => ?_)
  refine Lx.new (boxA rfl) rfl (fun b3 => ?_)
  refine Lx.y (asg rfl) rfl ?_
  refine Lx.nil ?_
  refine Xx.tn (k1 _ _ _ _ ?_)
  refine Cx.cutK (ds' := []) (Sub.cons (s := 0) rfl (Sub.cons (s := 1) rfl (Sub.cons (s := 2) rfl (Sub.cons (s := 3) rfl (Sub.cons (s := 4) rfl (Sub.cons (s := 6) rfl (Sub.nil _))))))) (fun ρ' B' H' => ∃ b5 b6 Ap2 cp2 An2 cn2 Ap3 cp3 An3 cn3, ρ' = [(7, .pointer (some ⟨b5, 0, none⟩)), (8, .pointer (some ⟨b6, 0, none⟩))] ∧ B.le B' ∧ ValR B' 9 (cutF 8 32 x) (vcs (cutF 8 32 x) Ap2 cp2 An2 cn2) ∧ ValR B' 9 (cutF 8 32 y) (vcs (cutF 8 32 y) Ap3 cp3 An3 cn3) ∧ row b6 35 (vcs (cutF 8 32 y) Ap3 cp3 An3 cn3) * (row b5 35 (vcs (cutF 8 32 x) Ap2 cp2 An2 cn2) * (row b3 35 (vcs y Ap1 cp1 An1 cn1) * (row b2 35 (vcs x Ap cp An cn) * R))) = H') ?_ ?_
  · skip
    refine Cx.drawn (by kernel_rfl) ?_
    refine Dx.r (i := 0) rfl (by kernel_rfl) (ldA Tryd.underlying35 rfl sz35 rfl (Cells.own (n := 6) PickB.eq rfl) rfl) rfl ?_
    refine Dx.r (i := 2) rfl (by kernel_rfl) (ldA Tryd.underlying35 rfl sz35 rfl (Cells.own (n := 6) PickB.eq rfl) rfl) rfl ?_
    refine Dx.three (i := 1) (j := 4) (l := 5) (by kernel_rfl) ?_ ?_ ?_
    · skip
      refine Dstep.o (i := 1) rfl (Ox.cb rfl rfl rfl (Cut_ct 8 32 _ _ _ _ (by decide) (by decide) (hx))) rfl (fun v B' H' hΦ hB => ?_)
      obtain ⟨rfl, hΦ⟩ := hΦ
      obtain ⟨cs2, rfl, hv2⟩ := hΦ
      obtain ⟨Apcs2, cpcs2, Ancs2, cncs2, rfl⟩ := ValR.shape hv2
      have hB2 := hB
      refine ⟨JOk.yes (JOk.edge (JOk.top) (by kernel_rfl)) (ldA Tryd.underlying35 rfl sz35 rfl (Cells.own (n := 6) PickB.eq rfl) rfl), ?_⟩
      refine Dx.three (i := 3) (j := 4) (l := 5) (by kernel_rfl) ?_ ?_ ?_
      · skip
        refine Dstep.o (i := 3) rfl (Ox.cb rfl rfl rfl (Cut_ct 8 32 _ _ _ _ (by decide) (by decide) (ValR.mono hB2 hy))) rfl (fun v B' H' hΦ hB => ?_)
        obtain ⟨rfl, hΦ⟩ := hΦ
        obtain ⟨cs3, rfl, hv3⟩ := hΦ
        obtain ⟨Apcs3, cpcs3, Ancs3, cncs3, rfl⟩ := ValR.shape hv3
        have hB3 := hB
        refine ⟨JOk.edge (JOk.yes (JOk.top) (ldA Tryd.underlying35 rfl sz35 rfl (Cells.own (n := 6) PickB.eq rfl) rfl)) (by kernel_rfl), ?_⟩
        refine Dx.two (i := 4) (j := 5) (by kernel_rfl) ?_ ?_
        · skip
          refine Dstep.o (i := 4) rfl (allocO ti35) rfl (fun v B' H' hΦ hB => ?_)
          obtain ⟨b5, rfl, rfl, rfl⟩ := hΦ; clear hB
          refine ⟨JOk.yes (JOk.yes (JOk.top) (ldA Tryd.underlying35 rfl sz35 rfl (Cells.own (n := 6) PickB.eq rfl) rfl)) (ldA Tryd.underlying35 rfl sz35 rfl (Cells.own (n := 6) PickB.eq rfl) rfl), ?_⟩
          refine Dx.one (i := 5) (by kernel_rfl) ?_
          refine Dstep.o (i := 5) rfl (allocO ti35) rfl (fun v B' H' hΦ hB => ?_)
          obtain ⟨b6, rfl, rfl, rfl⟩ := hΦ; clear hB
          refine ⟨JOk.yes (JOk.yes (JOk.top) (ldA Tryd.underlying35 rfl sz35 rfl (Cells.own (n := 6) PickB.eq rfl) rfl)) (ldA Tryd.underlying35 rfl sz35 rfl (Cells.own (n := 6) PickB.eq rfl) rfl), ?_⟩
          refine Dx.one (i := 6) (by kernel_rfl) ?_
          refine Dstep.o0 (i := 6) rfl (stA (d := .bool) sz35 rfl rfl rfl rfl (by show 0 + 6 ≤ 6; omega) rfl) (fun v B' H' hΦ hB => ?_)
          obtain ⟨rfl, rfl⟩ := hΦ; clear hB v
          refine ⟨JOk.yes (JOk.edge (JOk.top) (by kernel_rfl)) (ldA Tryd.underlying35 rfl sz35 rfl (Cells.own (n := 6) PickB.eq rfl) rfl), ?_⟩
          refine Dx.one (i := 7) (by kernel_rfl) ?_
          refine Dstep.o0 (i := 7) rfl (stA (d := .bool) sz35 rfl rfl rfl rfl (by show 0 + 6 ≤ 6; omega) rfl) (fun v B' H' hΦ hB => ?_)
          obtain ⟨rfl, rfl⟩ := hΦ; clear hB v
          refine ⟨JOk.edge (JOk.edge (JOk.top) (by kernel_rfl)) (by kernel_rfl), ?_⟩
          refine Dx.done (by kernel_rfl) ?_
          exact Xx.mkK (⟨_, _, _, _, _, _, _, _, _, _, rfl, Frag.le_trans hB2 hB3, ValR.mono hB3 hv2, hv3, rfl⟩) (Sub.cons (s := 7) rfl (Sub.cons (s := 8) rfl (Sub.cons (s := 0) rfl (Sub.cons (s := 1) rfl (Sub.cons (s := 2) rfl (Sub.cons (s := 3) rfl (Sub.cons (s := 4) rfl (Sub.cons (s := 6) rfl (Sub.nil _)))))))))
        · skip
          refine Dstep.o (i := 5) rfl (allocO ti35) rfl (fun v B' H' hΦ hB => ?_)
          obtain ⟨b6, rfl, rfl, rfl⟩ := hΦ; clear hB
          refine ⟨JOk.yes (JOk.yes (JOk.top) (ldA Tryd.underlying35 rfl sz35 rfl (Cells.own (n := 6) PickB.eq rfl) rfl)) (ldA Tryd.underlying35 rfl sz35 rfl (Cells.own (n := 6) PickB.eq rfl) rfl), ?_⟩
          refine Dx.one (i := 4) (by kernel_rfl) ?_
          refine Dstep.o (i := 4) rfl (allocO ti35) rfl (fun v B' H' hΦ hB => ?_)
          obtain ⟨b5, rfl, rfl, rfl⟩ := hΦ; clear hB
          refine ⟨JOk.yes (JOk.yes (JOk.top) (ldA Tryd.underlying35 rfl sz35 rfl (Cells.own (n := 6) PickB.eq rfl) rfl)) (ldA Tryd.underlying35 rfl sz35 rfl (Cells.own (n := 6) PickB.eq rfl) rfl), ?_⟩
          refine Dx.one (i := 6) (by kernel_rfl) ?_
          refine Dstep.o0 (i := 6) rfl (stA (d := .bool) sz35 rfl rfl rfl rfl (by show 0 + 6 ≤ 6; omega) rfl) (fun v B' H' hΦ hB => ?_)
          obtain ⟨rfl, rfl⟩ := hΦ; clear hB v
          refine ⟨JOk.yes (JOk.edge (JOk.top) (by kernel_rfl)) (ldA Tryd.underlying35 rfl sz35 rfl (Cells.own (n := 6) PickB.eq rfl) rfl), ?_⟩
          refine Dx.one (i := 7) (by kernel_rfl) ?_
          refine Dstep.o0 (i := 7) rfl (stA (d := .bool) sz35 rfl rfl rfl rfl (by show 0 + 6 ≤ 6; omega) rfl) (fun v B' H' hΦ hB => ?_)
          obtain ⟨rfl, rfl⟩ := hΦ; clear hB v
          refine ⟨JOk.edge (JOk.edge (JOk.top) (by kernel_rfl)) (by kernel_rfl), ?_⟩
          refine Dx.done (by kernel_rfl) ?_
          exact Xx.mkK (⟨_, _, _, _, _, _, _, _, _, _, rfl, Frag.le_trans hB2 hB3, ValR.mono hB3 hv2, hv3, rfl⟩) (Sub.cons (s := 7) rfl (Sub.cons (s := 8) rfl (Sub.cons (s := 0) rfl (Sub.cons (s := 1) rfl (Sub.cons (s := 2) rfl (Sub.cons (s := 3) rfl (Sub.cons (s := 4) rfl (Sub.cons (s := 6) rfl (Sub.nil _)))))))))
      · skip
        refine Dstep.o (i := 4) rfl (allocO ti35) rfl (fun v B' H' hΦ hB => ?_)
        obtain ⟨b5, rfl, rfl, rfl⟩ := hΦ; clear hB
        refine ⟨JOk.yes (JOk.yes (JOk.top) (ldA Tryd.underlying35 rfl sz35 rfl (Cells.own (n := 6) PickB.eq rfl) rfl)) (ldA Tryd.underlying35 rfl sz35 rfl (Cells.own (n := 6) PickB.eq rfl) rfl), ?_⟩
        refine Dx.two (i := 3) (j := 5) (by kernel_rfl) ?_ ?_
        · skip
          refine Dstep.o (i := 3) rfl (Ox.cb rfl rfl rfl (Cut_ct 8 32 _ _ _ _ (by decide) (by decide) (ValR.mono hB2 hy))) rfl (fun v B' H' hΦ hB => ?_)
          obtain ⟨rfl, hΦ⟩ := hΦ
          obtain ⟨cs3, rfl, hv3⟩ := hΦ
          obtain ⟨Apcs3, cpcs3, Ancs3, cncs3, rfl⟩ := ValR.shape hv3
          have hB3 := hB
          refine ⟨JOk.edge (JOk.yes (JOk.top) (ldA Tryd.underlying35 rfl sz35 rfl (Cells.own (n := 6) PickB.eq rfl) rfl)) (by kernel_rfl), ?_⟩
          refine Dx.one (i := 5) (by kernel_rfl) ?_
          refine Dstep.o (i := 5) rfl (allocO ti35) rfl (fun v B' H' hΦ hB => ?_)
          obtain ⟨b6, rfl, rfl, rfl⟩ := hΦ; clear hB
          refine ⟨JOk.yes (JOk.yes (JOk.top) (ldA Tryd.underlying35 rfl sz35 rfl (Cells.own (n := 6) PickB.eq rfl) rfl)) (ldA Tryd.underlying35 rfl sz35 rfl (Cells.own (n := 6) PickB.eq rfl) rfl), ?_⟩
          refine Dx.one (i := 6) (by kernel_rfl) ?_
          refine Dstep.o0 (i := 6) rfl (stA (d := .bool) sz35 rfl rfl rfl rfl (by show 0 + 6 ≤ 6; omega) rfl) (fun v B' H' hΦ hB => ?_)
          obtain ⟨rfl, rfl⟩ := hΦ; clear hB v
          refine ⟨JOk.yes (JOk.edge (JOk.top) (by kernel_rfl)) (ldA Tryd.underlying35 rfl sz35 rfl (Cells.own (n := 6) PickB.eq rfl) rfl), ?_⟩
          refine Dx.one (i := 7) (by kernel_rfl) ?_
          refine Dstep.o0 (i := 7) rfl (stA (d := .bool) sz35 rfl rfl rfl rfl (by show 0 + 6 ≤ 6; omega) rfl) (fun v B' H' hΦ hB => ?_)
          obtain ⟨rfl, rfl⟩ := hΦ; clear hB v
          refine ⟨JOk.edge (JOk.edge (JOk.top) (by kernel_rfl)) (by kernel_rfl), ?_⟩
          refine Dx.done (by kernel_rfl) ?_
          exact Xx.mkK (⟨_, _, _, _, _, _, _, _, _, _, rfl, Frag.le_trans hB2 hB3, ValR.mono hB3 hv2, hv3, rfl⟩) (Sub.cons (s := 7) rfl (Sub.cons (s := 8) rfl (Sub.cons (s := 0) rfl (Sub.cons (s := 1) rfl (Sub.cons (s := 2) rfl (Sub.cons (s := 3) rfl (Sub.cons (s := 4) rfl (Sub.cons (s := 6) rfl (Sub.nil _)))))))))
        · skip
          refine Dstep.o (i := 5) rfl (allocO ti35) rfl (fun v B' H' hΦ hB => ?_)
          obtain ⟨b6, rfl, rfl, rfl⟩ := hΦ; clear hB
          refine ⟨JOk.yes (JOk.yes (JOk.top) (ldA Tryd.underlying35 rfl sz35 rfl (Cells.own (n := 6) PickB.eq rfl) rfl)) (ldA Tryd.underlying35 rfl sz35 rfl (Cells.own (n := 6) PickB.eq rfl) rfl), ?_⟩
          refine Dx.one (i := 3) (by kernel_rfl) ?_
          refine Dstep.o (i := 3) rfl (Ox.cb rfl rfl rfl (Cut_ct 8 32 _ _ _ _ (by decide) (by decide) (ValR.mono hB2 hy))) rfl (fun v B' H' hΦ hB => ?_)
          obtain ⟨rfl, hΦ⟩ := hΦ
          obtain ⟨cs3, rfl, hv3⟩ := hΦ
          obtain ⟨Apcs3, cpcs3, Ancs3, cncs3, rfl⟩ := ValR.shape hv3
          have hB3 := hB
          refine ⟨JOk.edge (JOk.yes (JOk.top) (ldA Tryd.underlying35 rfl sz35 rfl (Cells.own (n := 6) PickB.eq rfl) rfl)) (by kernel_rfl), ?_⟩
          refine Dx.one (i := 6) (by kernel_rfl) ?_
          refine Dstep.o0 (i := 6) rfl (stA (d := .bool) sz35 rfl rfl rfl rfl (by show 0 + 6 ≤ 6; omega) rfl) (fun v B' H' hΦ hB => ?_)
          obtain ⟨rfl, rfl⟩ := hΦ; clear hB v
          refine ⟨JOk.yes (JOk.edge (JOk.top) (by kernel_rfl)) (ldA Tryd.underlying35 rfl sz35 rfl (Cells.own (n := 6) PickB.eq rfl) rfl), ?_⟩
          refine Dx.one (i := 7) (by kernel_rfl) ?_
          refine Dstep.o0 (i := 7) rfl (stA (d := .bool) sz35 rfl rfl rfl rfl (by show 0 + 6 ≤ 6; omega) rfl) (fun v B' H' hΦ hB => ?_)
          obtain ⟨rfl, rfl⟩ := hΦ; clear hB v
          refine ⟨JOk.edge (JOk.edge (JOk.top) (by kernel_rfl)) (by kernel_rfl), ?_⟩
          refine Dx.done (by kernel_rfl) ?_
          exact Xx.mkK (⟨_, _, _, _, _, _, _, _, _, _, rfl, Frag.le_trans hB2 hB3, ValR.mono hB3 hv2, hv3, rfl⟩) (Sub.cons (s := 7) rfl (Sub.cons (s := 8) rfl (Sub.cons (s := 0) rfl (Sub.cons (s := 1) rfl (Sub.cons (s := 2) rfl (Sub.cons (s := 3) rfl (Sub.cons (s := 4) rfl (Sub.cons (s := 6) rfl (Sub.nil _)))))))))
      · skip
        refine Dstep.o (i := 5) rfl (allocO ti35) rfl (fun v B' H' hΦ hB => ?_)
        obtain ⟨b6, rfl, rfl, rfl⟩ := hΦ; clear hB
        refine ⟨JOk.yes (JOk.yes (JOk.top) (ldA Tryd.underlying35 rfl sz35 rfl (Cells.own (n := 6) PickB.eq rfl) rfl)) (ldA Tryd.underlying35 rfl sz35 rfl (Cells.own (n := 6) PickB.eq rfl) rfl), ?_⟩
        refine Dx.two (i := 3) (j := 4) (by kernel_rfl) ?_ ?_
        · skip
          refine Dstep.o (i := 3) rfl (Ox.cb rfl rfl rfl (Cut_ct 8 32 _ _ _ _ (by decide) (by decide) (ValR.mono hB2 hy))) rfl (fun v B' H' hΦ hB => ?_)
          obtain ⟨rfl, hΦ⟩ := hΦ
          obtain ⟨cs3, rfl, hv3⟩ := hΦ
          obtain ⟨Apcs3, cpcs3, Ancs3, cncs3, rfl⟩ := ValR.shape hv3
          have hB3 := hB
          refine ⟨JOk.edge (JOk.yes (JOk.top) (ldA Tryd.underlying35 rfl sz35 rfl (Cells.own (n := 6) PickB.eq rfl) rfl)) (by kernel_rfl), ?_⟩
          refine Dx.one (i := 4) (by kernel_rfl) ?_
          refine Dstep.o (i := 4) rfl (allocO ti35) rfl (fun v B' H' hΦ hB => ?_)
          obtain ⟨b5, rfl, rfl, rfl⟩ := hΦ; clear hB
          refine ⟨JOk.yes (JOk.yes (JOk.top) (ldA Tryd.underlying35 rfl sz35 rfl (Cells.own (n := 6) PickB.eq rfl) rfl)) (ldA Tryd.underlying35 rfl sz35 rfl (Cells.own (n := 6) PickB.eq rfl) rfl), ?_⟩
          refine Dx.one (i := 6) (by kernel_rfl) ?_
          refine Dstep.o0 (i := 6) rfl (stA (d := .bool) sz35 rfl rfl rfl rfl (by show 0 + 6 ≤ 6; omega) rfl) (fun v B' H' hΦ hB => ?_)
          obtain ⟨rfl, rfl⟩ := hΦ; clear hB v
          refine ⟨JOk.yes (JOk.edge (JOk.top) (by kernel_rfl)) (ldA Tryd.underlying35 rfl sz35 rfl (Cells.own (n := 6) PickB.eq rfl) rfl), ?_⟩
          refine Dx.one (i := 7) (by kernel_rfl) ?_
          refine Dstep.o0 (i := 7) rfl (stA (d := .bool) sz35 rfl rfl rfl rfl (by show 0 + 6 ≤ 6; omega) rfl) (fun v B' H' hΦ hB => ?_)
          obtain ⟨rfl, rfl⟩ := hΦ; clear hB v
          refine ⟨JOk.edge (JOk.edge (JOk.top) (by kernel_rfl)) (by kernel_rfl), ?_⟩
          refine Dx.done (by kernel_rfl) ?_
          exact Xx.mkK (⟨_, _, _, _, _, _, _, _, _, _, rfl, Frag.le_trans hB2 hB3, ValR.mono hB3 hv2, hv3, rfl⟩) (Sub.cons (s := 7) rfl (Sub.cons (s := 8) rfl (Sub.cons (s := 0) rfl (Sub.cons (s := 1) rfl (Sub.cons (s := 2) rfl (Sub.cons (s := 3) rfl (Sub.cons (s := 4) rfl (Sub.cons (s := 6) rfl (Sub.nil _)))))))))
        · skip
          refine Dstep.o (i := 4) rfl (allocO ti35) rfl (fun v B' H' hΦ hB => ?_)
          obtain ⟨b5, rfl, rfl, rfl⟩ := hΦ; clear hB
          refine ⟨JOk.yes (JOk.yes (JOk.top) (ldA Tryd.underlying35 rfl sz35 rfl (Cells.own (n := 6) PickB.eq rfl) rfl)) (ldA Tryd.underlying35 rfl sz35 rfl (Cells.own (n := 6) PickB.eq rfl) rfl), ?_⟩
          refine Dx.one (i := 3) (by kernel_rfl) ?_
          refine Dstep.o (i := 3) rfl (Ox.cb rfl rfl rfl (Cut_ct 8 32 _ _ _ _ (by decide) (by decide) (ValR.mono hB2 hy))) rfl (fun v B' H' hΦ hB => ?_)
          obtain ⟨rfl, hΦ⟩ := hΦ
          obtain ⟨cs3, rfl, hv3⟩ := hΦ
          obtain ⟨Apcs3, cpcs3, Ancs3, cncs3, rfl⟩ := ValR.shape hv3
          have hB3 := hB
          refine ⟨JOk.edge (JOk.yes (JOk.top) (ldA Tryd.underlying35 rfl sz35 rfl (Cells.own (n := 6) PickB.eq rfl) rfl)) (by kernel_rfl), ?_⟩
          refine Dx.one (i := 6) (by kernel_rfl) ?_
          refine Dstep.o0 (i := 6) rfl (stA (d := .bool) sz35 rfl rfl rfl rfl (by show 0 + 6 ≤ 6; omega) rfl) (fun v B' H' hΦ hB => ?_)
          obtain ⟨rfl, rfl⟩ := hΦ; clear hB v
          refine ⟨JOk.yes (JOk.edge (JOk.top) (by kernel_rfl)) (ldA Tryd.underlying35 rfl sz35 rfl (Cells.own (n := 6) PickB.eq rfl) rfl), ?_⟩
          refine Dx.one (i := 7) (by kernel_rfl) ?_
          refine Dstep.o0 (i := 7) rfl (stA (d := .bool) sz35 rfl rfl rfl rfl (by show 0 + 6 ≤ 6; omega) rfl) (fun v B' H' hΦ hB => ?_)
          obtain ⟨rfl, rfl⟩ := hΦ; clear hB v
          refine ⟨JOk.edge (JOk.edge (JOk.top) (by kernel_rfl)) (by kernel_rfl), ?_⟩
          refine Dx.done (by kernel_rfl) ?_
          exact Xx.mkK (⟨_, _, _, _, _, _, _, _, _, _, rfl, Frag.le_trans hB2 hB3, ValR.mono hB3 hv2, hv3, rfl⟩) (Sub.cons (s := 7) rfl (Sub.cons (s := 8) rfl (Sub.cons (s := 0) rfl (Sub.cons (s := 1) rfl (Sub.cons (s := 2) rfl (Sub.cons (s := 3) rfl (Sub.cons (s := 4) rfl (Sub.cons (s := 6) rfl (Sub.nil _)))))))))
    · skip
      refine Dstep.o (i := 4) rfl (allocO ti35) rfl (fun v B' H' hΦ hB => ?_)
      obtain ⟨b5, rfl, rfl, rfl⟩ := hΦ; clear hB
      refine ⟨JOk.yes (JOk.yes (JOk.top) (ldA Tryd.underlying35 rfl sz35 rfl (Cells.own (n := 6) PickB.eq rfl) rfl)) (ldA Tryd.underlying35 rfl sz35 rfl (Cells.own (n := 6) PickB.eq rfl) rfl), ?_⟩
      refine Dx.two (i := 1) (j := 5) (by kernel_rfl) ?_ ?_
      · skip
        refine Dstep.o (i := 1) rfl (Ox.cb rfl rfl rfl (Cut_ct 8 32 _ _ _ _ (by decide) (by decide) (hx))) rfl (fun v B' H' hΦ hB => ?_)
        obtain ⟨rfl, hΦ⟩ := hΦ
        obtain ⟨cs2, rfl, hv2⟩ := hΦ
        obtain ⟨Apcs2, cpcs2, Ancs2, cncs2, rfl⟩ := ValR.shape hv2
        have hB2 := hB
        refine ⟨JOk.yes (JOk.edge (JOk.top) (by kernel_rfl)) (ldA Tryd.underlying35 rfl sz35 rfl (Cells.own (n := 6) PickB.eq rfl) rfl), ?_⟩
        refine Dx.two (i := 3) (j := 5) (by kernel_rfl) ?_ ?_
        · skip
          refine Dstep.o (i := 3) rfl (Ox.cb rfl rfl rfl (Cut_ct 8 32 _ _ _ _ (by decide) (by decide) (ValR.mono hB2 hy))) rfl (fun v B' H' hΦ hB => ?_)
          obtain ⟨rfl, hΦ⟩ := hΦ
          obtain ⟨cs3, rfl, hv3⟩ := hΦ
          obtain ⟨Apcs3, cpcs3, Ancs3, cncs3, rfl⟩ := ValR.shape hv3
          have hB3 := hB
          refine ⟨JOk.edge (JOk.yes (JOk.top) (ldA Tryd.underlying35 rfl sz35 rfl (Cells.own (n := 6) PickB.eq rfl) rfl)) (by kernel_rfl), ?_⟩
          refine Dx.one (i := 5) (by kernel_rfl) ?_
          refine Dstep.o (i := 5) rfl (allocO ti35) rfl (fun v B' H' hΦ hB => ?_)
          obtain ⟨b6, rfl, rfl, rfl⟩ := hΦ; clear hB
          refine ⟨JOk.yes (JOk.yes (JOk.top) (ldA Tryd.underlying35 rfl sz35 rfl (Cells.own (n := 6) PickB.eq rfl) rfl)) (ldA Tryd.underlying35 rfl sz35 rfl (Cells.own (n := 6) PickB.eq rfl) rfl), ?_⟩
          refine Dx.one (i := 6) (by kernel_rfl) ?_
          refine Dstep.o0 (i := 6) rfl (stA (d := .bool) sz35 rfl rfl rfl rfl (by show 0 + 6 ≤ 6; omega) rfl) (fun v B' H' hΦ hB => ?_)
          obtain ⟨rfl, rfl⟩ := hΦ; clear hB v
          refine ⟨JOk.yes (JOk.edge (JOk.top) (by kernel_rfl)) (ldA Tryd.underlying35 rfl sz35 rfl (Cells.own (n := 6) PickB.eq rfl) rfl), ?_⟩
          refine Dx.one (i := 7) (by kernel_rfl) ?_
          refine Dstep.o0 (i := 7) rfl (stA (d := .bool) sz35 rfl rfl rfl rfl (by show 0 + 6 ≤ 6; omega) rfl) (fun v B' H' hΦ hB => ?_)
          obtain ⟨rfl, rfl⟩ := hΦ; clear hB v
          refine ⟨JOk.edge (JOk.edge (JOk.top) (by kernel_rfl)) (by kernel_rfl), ?_⟩
          refine Dx.done (by kernel_rfl) ?_
          exact Xx.mkK (⟨_, _, _, _, _, _, _, _, _, _, rfl, Frag.le_trans hB2 hB3, ValR.mono hB3 hv2, hv3, rfl⟩) (Sub.cons (s := 7) rfl (Sub.cons (s := 8) rfl (Sub.cons (s := 0) rfl (Sub.cons (s := 1) rfl (Sub.cons (s := 2) rfl (Sub.cons (s := 3) rfl (Sub.cons (s := 4) rfl (Sub.cons (s := 6) rfl (Sub.nil _)))))))))
        · skip
          refine Dstep.o (i := 5) rfl (allocO ti35) rfl (fun v B' H' hΦ hB => ?_)
          obtain ⟨b6, rfl, rfl, rfl⟩ := hΦ; clear hB
          refine ⟨JOk.yes (JOk.yes (JOk.top) (ldA Tryd.underlying35 rfl sz35 rfl (Cells.own (n := 6) PickB.eq rfl) rfl)) (ldA Tryd.underlying35 rfl sz35 rfl (Cells.own (n := 6) PickB.eq rfl) rfl), ?_⟩
          refine Dx.one (i := 3) (by kernel_rfl) ?_
          refine Dstep.o (i := 3) rfl (Ox.cb rfl rfl rfl (Cut_ct 8 32 _ _ _ _ (by decide) (by decide) (ValR.mono hB2 hy))) rfl (fun v B' H' hΦ hB => ?_)
          obtain ⟨rfl, hΦ⟩ := hΦ
          obtain ⟨cs3, rfl, hv3⟩ := hΦ
          obtain ⟨Apcs3, cpcs3, Ancs3, cncs3, rfl⟩ := ValR.shape hv3
          have hB3 := hB
          refine ⟨JOk.edge (JOk.yes (JOk.top) (ldA Tryd.underlying35 rfl sz35 rfl (Cells.own (n := 6) PickB.eq rfl) rfl)) (by kernel_rfl), ?_⟩
          refine Dx.one (i := 6) (by kernel_rfl) ?_
          refine Dstep.o0 (i := 6) rfl (stA (d := .bool) sz35 rfl rfl rfl rfl (by show 0 + 6 ≤ 6; omega) rfl) (fun v B' H' hΦ hB => ?_)
          obtain ⟨rfl, rfl⟩ := hΦ; clear hB v
          refine ⟨JOk.yes (JOk.edge (JOk.top) (by kernel_rfl)) (ldA Tryd.underlying35 rfl sz35 rfl (Cells.own (n := 6) PickB.eq rfl) rfl), ?_⟩
          refine Dx.one (i := 7) (by kernel_rfl) ?_
          refine Dstep.o0 (i := 7) rfl (stA (d := .bool) sz35 rfl rfl rfl rfl (by show 0 + 6 ≤ 6; omega) rfl) (fun v B' H' hΦ hB => ?_)
          obtain ⟨rfl, rfl⟩ := hΦ; clear hB v
          refine ⟨JOk.edge (JOk.edge (JOk.top) (by kernel_rfl)) (by kernel_rfl), ?_⟩
          refine Dx.done (by kernel_rfl) ?_
          exact Xx.mkK (⟨_, _, _, _, _, _, _, _, _, _, rfl, Frag.le_trans hB2 hB3, ValR.mono hB3 hv2, hv3, rfl⟩) (Sub.cons (s := 7) rfl (Sub.cons (s := 8) rfl (Sub.cons (s := 0) rfl (Sub.cons (s := 1) rfl (Sub.cons (s := 2) rfl (Sub.cons (s := 3) rfl (Sub.cons (s := 4) rfl (Sub.cons (s := 6) rfl (Sub.nil _)))))))))
      · skip
        refine Dstep.o (i := 5) rfl (allocO ti35) rfl (fun v B' H' hΦ hB => ?_)
        obtain ⟨b6, rfl, rfl, rfl⟩ := hΦ; clear hB
        refine ⟨JOk.yes (JOk.yes (JOk.top) (ldA Tryd.underlying35 rfl sz35 rfl (Cells.own (n := 6) PickB.eq rfl) rfl)) (ldA Tryd.underlying35 rfl sz35 rfl (Cells.own (n := 6) PickB.eq rfl) rfl), ?_⟩
        refine Dx.one (i := 1) (by kernel_rfl) ?_
        refine Dstep.o (i := 1) rfl (Ox.cb rfl rfl rfl (Cut_ct 8 32 _ _ _ _ (by decide) (by decide) (hx))) rfl (fun v B' H' hΦ hB => ?_)
        obtain ⟨rfl, hΦ⟩ := hΦ
        obtain ⟨cs2, rfl, hv2⟩ := hΦ
        obtain ⟨Apcs2, cpcs2, Ancs2, cncs2, rfl⟩ := ValR.shape hv2
        have hB2 := hB
        refine ⟨JOk.yes (JOk.edge (JOk.top) (by kernel_rfl)) (ldA Tryd.underlying35 rfl sz35 rfl (Cells.own (n := 6) PickB.eq rfl) rfl), ?_⟩
        refine Dx.one (i := 3) (by kernel_rfl) ?_
        refine Dstep.o (i := 3) rfl (Ox.cb rfl rfl rfl (Cut_ct 8 32 _ _ _ _ (by decide) (by decide) (ValR.mono hB2 hy))) rfl (fun v B' H' hΦ hB => ?_)
        obtain ⟨rfl, hΦ⟩ := hΦ
        obtain ⟨cs3, rfl, hv3⟩ := hΦ
        obtain ⟨Apcs3, cpcs3, Ancs3, cncs3, rfl⟩ := ValR.shape hv3
        have hB3 := hB
        refine ⟨JOk.edge (JOk.yes (JOk.top) (ldA Tryd.underlying35 rfl sz35 rfl (Cells.own (n := 6) PickB.eq rfl) rfl)) (by kernel_rfl), ?_⟩
        refine Dx.one (i := 6) (by kernel_rfl) ?_
        refine Dstep.o0 (i := 6) rfl (stA (d := .bool) sz35 rfl rfl rfl rfl (by show 0 + 6 ≤ 6; omega) rfl) (fun v B' H' hΦ hB => ?_)
        obtain ⟨rfl, rfl⟩ := hΦ; clear hB v
        refine ⟨JOk.yes (JOk.edge (JOk.top) (by kernel_rfl)) (ldA Tryd.underlying35 rfl sz35 rfl (Cells.own (n := 6) PickB.eq rfl) rfl), ?_⟩
        refine Dx.one (i := 7) (by kernel_rfl) ?_
        refine Dstep.o0 (i := 7) rfl (stA (d := .bool) sz35 rfl rfl rfl rfl (by show 0 + 6 ≤ 6; omega) rfl) (fun v B' H' hΦ hB => ?_)
        obtain ⟨rfl, rfl⟩ := hΦ; clear hB v
        refine ⟨JOk.edge (JOk.edge (JOk.top) (by kernel_rfl)) (by kernel_rfl), ?_⟩
        refine Dx.done (by kernel_rfl) ?_
        exact Xx.mkK (⟨_, _, _, _, _, _, _, _, _, _, rfl, Frag.le_trans hB2 hB3, ValR.mono hB3 hv2, hv3, rfl⟩) (Sub.cons (s := 7) rfl (Sub.cons (s := 8) rfl (Sub.cons (s := 0) rfl (Sub.cons (s := 1) rfl (Sub.cons (s := 2) rfl (Sub.cons (s := 3) rfl (Sub.cons (s := 4) rfl (Sub.cons (s := 6) rfl (Sub.nil _)))))))))
    · skip
      refine Dstep.o (i := 5) rfl (allocO ti35) rfl (fun v B' H' hΦ hB => ?_)
      obtain ⟨b6, rfl, rfl, rfl⟩ := hΦ; clear hB
      refine ⟨JOk.yes (JOk.yes (JOk.top) (ldA Tryd.underlying35 rfl sz35 rfl (Cells.own (n := 6) PickB.eq rfl) rfl)) (ldA Tryd.underlying35 rfl sz35 rfl (Cells.own (n := 6) PickB.eq rfl) rfl), ?_⟩
      refine Dx.two (i := 1) (j := 4) (by kernel_rfl) ?_ ?_
      · skip
        refine Dstep.o (i := 1) rfl (Ox.cb rfl rfl rfl (Cut_ct 8 32 _ _ _ _ (by decide) (by decide) (hx))) rfl (fun v B' H' hΦ hB => ?_)
        obtain ⟨rfl, hΦ⟩ := hΦ
        obtain ⟨cs2, rfl, hv2⟩ := hΦ
        obtain ⟨Apcs2, cpcs2, Ancs2, cncs2, rfl⟩ := ValR.shape hv2
        have hB2 := hB
        refine ⟨JOk.yes (JOk.edge (JOk.top) (by kernel_rfl)) (ldA Tryd.underlying35 rfl sz35 rfl (Cells.own (n := 6) PickB.eq rfl) rfl), ?_⟩
        refine Dx.two (i := 3) (j := 4) (by kernel_rfl) ?_ ?_
        · skip
          refine Dstep.o (i := 3) rfl (Ox.cb rfl rfl rfl (Cut_ct 8 32 _ _ _ _ (by decide) (by decide) (ValR.mono hB2 hy))) rfl (fun v B' H' hΦ hB => ?_)
          obtain ⟨rfl, hΦ⟩ := hΦ
          obtain ⟨cs3, rfl, hv3⟩ := hΦ
          obtain ⟨Apcs3, cpcs3, Ancs3, cncs3, rfl⟩ := ValR.shape hv3
          have hB3 := hB
          refine ⟨JOk.edge (JOk.yes (JOk.top) (ldA Tryd.underlying35 rfl sz35 rfl (Cells.own (n := 6) PickB.eq rfl) rfl)) (by kernel_rfl), ?_⟩
          refine Dx.one (i := 4) (by kernel_rfl) ?_
          refine Dstep.o (i := 4) rfl (allocO ti35) rfl (fun v B' H' hΦ hB => ?_)
          obtain ⟨b5, rfl, rfl, rfl⟩ := hΦ; clear hB
          refine ⟨JOk.yes (JOk.yes (JOk.top) (ldA Tryd.underlying35 rfl sz35 rfl (Cells.own (n := 6) PickB.eq rfl) rfl)) (ldA Tryd.underlying35 rfl sz35 rfl (Cells.own (n := 6) PickB.eq rfl) rfl), ?_⟩
          refine Dx.one (i := 6) (by kernel_rfl) ?_
          refine Dstep.o0 (i := 6) rfl (stA (d := .bool) sz35 rfl rfl rfl rfl (by show 0 + 6 ≤ 6; omega) rfl) (fun v B' H' hΦ hB => ?_)
          obtain ⟨rfl, rfl⟩ := hΦ; clear hB v
          refine ⟨JOk.yes (JOk.edge (JOk.top) (by kernel_rfl)) (ldA Tryd.underlying35 rfl sz35 rfl (Cells.own (n := 6) PickB.eq rfl) rfl), ?_⟩
          refine Dx.one (i := 7) (by kernel_rfl) ?_
          refine Dstep.o0 (i := 7) rfl (stA (d := .bool) sz35 rfl rfl rfl rfl (by show 0 + 6 ≤ 6; omega) rfl) (fun v B' H' hΦ hB => ?_)
          obtain ⟨rfl, rfl⟩ := hΦ; clear hB v
          refine ⟨JOk.edge (JOk.edge (JOk.top) (by kernel_rfl)) (by kernel_rfl), ?_⟩
          refine Dx.done (by kernel_rfl) ?_
          exact Xx.mkK (⟨_, _, _, _, _, _, _, _, _, _, rfl, Frag.le_trans hB2 hB3, ValR.mono hB3 hv2, hv3, rfl⟩) (Sub.cons (s := 7) rfl (Sub.cons (s := 8) rfl (Sub.cons (s := 0) rfl (Sub.cons (s := 1) rfl (Sub.cons (s := 2) rfl (Sub.cons (s := 3) rfl (Sub.cons (s := 4) rfl (Sub.cons (s := 6) rfl (Sub.nil _)))))))))
        · skip
          refine Dstep.o (i := 4) rfl (allocO ti35) rfl (fun v B' H' hΦ hB => ?_)
          obtain ⟨b5, rfl, rfl, rfl⟩ := hΦ; clear hB
          refine ⟨JOk.yes (JOk.yes (JOk.top) (ldA Tryd.underlying35 rfl sz35 rfl (Cells.own (n := 6) PickB.eq rfl) rfl)) (ldA Tryd.underlying35 rfl sz35 rfl (Cells.own (n := 6) PickB.eq rfl) rfl), ?_⟩
          refine Dx.one (i := 3) (by kernel_rfl) ?_
          refine Dstep.o (i := 3) rfl (Ox.cb rfl rfl rfl (Cut_ct 8 32 _ _ _ _ (by decide) (by decide) (ValR.mono hB2 hy))) rfl (fun v B' H' hΦ hB => ?_)
          obtain ⟨rfl, hΦ⟩ := hΦ
          obtain ⟨cs3, rfl, hv3⟩ := hΦ
          obtain ⟨Apcs3, cpcs3, Ancs3, cncs3, rfl⟩ := ValR.shape hv3
          have hB3 := hB
          refine ⟨JOk.edge (JOk.yes (JOk.top) (ldA Tryd.underlying35 rfl sz35 rfl (Cells.own (n := 6) PickB.eq rfl) rfl)) (by kernel_rfl), ?_⟩
          refine Dx.one (i := 6) (by kernel_rfl) ?_
          refine Dstep.o0 (i := 6) rfl (stA (d := .bool) sz35 rfl rfl rfl rfl (by show 0 + 6 ≤ 6; omega) rfl) (fun v B' H' hΦ hB => ?_)
          obtain ⟨rfl, rfl⟩ := hΦ; clear hB v
          refine ⟨JOk.yes (JOk.edge (JOk.top) (by kernel_rfl)) (ldA Tryd.underlying35 rfl sz35 rfl (Cells.own (n := 6) PickB.eq rfl) rfl), ?_⟩
          refine Dx.one (i := 7) (by kernel_rfl) ?_
          refine Dstep.o0 (i := 7) rfl (stA (d := .bool) sz35 rfl rfl rfl rfl (by show 0 + 6 ≤ 6; omega) rfl) (fun v B' H' hΦ hB => ?_)
          obtain ⟨rfl, rfl⟩ := hΦ; clear hB v
          refine ⟨JOk.edge (JOk.edge (JOk.top) (by kernel_rfl)) (by kernel_rfl), ?_⟩
          refine Dx.done (by kernel_rfl) ?_
          exact Xx.mkK (⟨_, _, _, _, _, _, _, _, _, _, rfl, Frag.le_trans hB2 hB3, ValR.mono hB3 hv2, hv3, rfl⟩) (Sub.cons (s := 7) rfl (Sub.cons (s := 8) rfl (Sub.cons (s := 0) rfl (Sub.cons (s := 1) rfl (Sub.cons (s := 2) rfl (Sub.cons (s := 3) rfl (Sub.cons (s := 4) rfl (Sub.cons (s := 6) rfl (Sub.nil _)))))))))
      · skip
        refine Dstep.o (i := 4) rfl (allocO ti35) rfl (fun v B' H' hΦ hB => ?_)
        obtain ⟨b5, rfl, rfl, rfl⟩ := hΦ; clear hB
        refine ⟨JOk.yes (JOk.yes (JOk.top) (ldA Tryd.underlying35 rfl sz35 rfl (Cells.own (n := 6) PickB.eq rfl) rfl)) (ldA Tryd.underlying35 rfl sz35 rfl (Cells.own (n := 6) PickB.eq rfl) rfl), ?_⟩
        refine Dx.one (i := 1) (by kernel_rfl) ?_
        refine Dstep.o (i := 1) rfl (Ox.cb rfl rfl rfl (Cut_ct 8 32 _ _ _ _ (by decide) (by decide) (hx))) rfl (fun v B' H' hΦ hB => ?_)
        obtain ⟨rfl, hΦ⟩ := hΦ
        obtain ⟨cs2, rfl, hv2⟩ := hΦ
        obtain ⟨Apcs2, cpcs2, Ancs2, cncs2, rfl⟩ := ValR.shape hv2
        have hB2 := hB
        refine ⟨JOk.yes (JOk.edge (JOk.top) (by kernel_rfl)) (ldA Tryd.underlying35 rfl sz35 rfl (Cells.own (n := 6) PickB.eq rfl) rfl), ?_⟩
        refine Dx.one (i := 3) (by kernel_rfl) ?_
        refine Dstep.o (i := 3) rfl (Ox.cb rfl rfl rfl (Cut_ct 8 32 _ _ _ _ (by decide) (by decide) (ValR.mono hB2 hy))) rfl (fun v B' H' hΦ hB => ?_)
        obtain ⟨rfl, hΦ⟩ := hΦ
        obtain ⟨cs3, rfl, hv3⟩ := hΦ
        obtain ⟨Apcs3, cpcs3, Ancs3, cncs3, rfl⟩ := ValR.shape hv3
        have hB3 := hB
        refine ⟨JOk.edge (JOk.yes (JOk.top) (ldA Tryd.underlying35 rfl sz35 rfl (Cells.own (n := 6) PickB.eq rfl) rfl)) (by kernel_rfl), ?_⟩
        refine Dx.one (i := 6) (by kernel_rfl) ?_
        refine Dstep.o0 (i := 6) rfl (stA (d := .bool) sz35 rfl rfl rfl rfl (by show 0 + 6 ≤ 6; omega) rfl) (fun v B' H' hΦ hB => ?_)
        obtain ⟨rfl, rfl⟩ := hΦ; clear hB v
        refine ⟨JOk.yes (JOk.edge (JOk.top) (by kernel_rfl)) (ldA Tryd.underlying35 rfl sz35 rfl (Cells.own (n := 6) PickB.eq rfl) rfl), ?_⟩
        refine Dx.one (i := 7) (by kernel_rfl) ?_
        refine Dstep.o0 (i := 7) rfl (stA (d := .bool) sz35 rfl rfl rfl rfl (by show 0 + 6 ≤ 6; omega) rfl) (fun v B' H' hΦ hB => ?_)
        obtain ⟨rfl, rfl⟩ := hΦ; clear hB v
        refine ⟨JOk.edge (JOk.edge (JOk.top) (by kernel_rfl)) (by kernel_rfl), ?_⟩
        refine Dx.done (by kernel_rfl) ?_
        exact Xx.mkK (⟨_, _, _, _, _, _, _, _, _, _, rfl, Frag.le_trans hB2 hB3, ValR.mono hB3 hv2, hv3, rfl⟩) (Sub.cons (s := 7) rfl (Sub.cons (s := 8) rfl (Sub.cons (s := 0) rfl (Sub.cons (s := 1) rfl (Sub.cons (s := 2) rfl (Sub.cons (s := 3) rfl (Sub.cons (s := 4) rfl (Sub.cons (s := 6) rfl (Sub.nil _)))))))))
  · rintro ρ' B' H' ⟨b5, b6, Ap2, cp2, An2, cn2, Ap3, cp3, An3, cn3, rfl, hB3, hv2, hv3, rfl⟩
    obtain ⟨B3, rfl⟩ : ∃ B3, B3 = B' := ⟨B', rfl⟩
    refine Xx.dropB b2 (Xx.dropB b3 ?_)
    refine Cx.seq (fun K2 k2 => ?_)
    refine Cx.seq (fun K3 k3 => ?_)
    refine Cx.region ?_
    refine Lx.y (ldA Tryd.underlying35 rfl sz35 rfl (Cells.own (n := 6) PickB.eq rfl) rfl) rfl ?_
    refine Lx.cp rfl rfl rfl (Check_ct 9 _ _ _ hv2 (fun z => cut_bytes z)) rfl ?_
    refine Lx.y (neI rfl rfl) rfl ?_
    refine Lx.y (mv rfl) rfl ?_
    refine Xx.ifN (t := 17) rfl (fun h4 => ?_) (fun h4 => ?_)
    · skip
      refine Lx.gF rfl rfl rfl rfl ?_
      refine Lx.gF rfl rfl rfl rfl ?_
      refine Lx.gF rfl rfl rfl rfl ?_
      refine Lx.y (pickT rfl rfl) rfl ?_
      refine Lx.nil ?_
      refine Xx.tn (k3 _ _ _ _ ?_)
      refine Cx.condT rfl ?_
      refine Cx.seq (fun K5 k5 => ?_)
      refine Cx.region ?_
      refine Lx.cb rfl rfl rfl (awake_ct _) rfl ?_
      rintro v B9 ⟨rfl, hBB⟩ hB9
      obtain rfl := hBB.symm
      refine Lx.y (asg rfl) rfl ?_
      refine Lx.nil ?_
      refine Xx.tn (k5 _ _ _ _ ?_)
      refine Cx.ret ?_
      refine Xx.tr ?_
      first | exact Xx.dropB b5 (Xx.dropB b6 (Xx.rB1 rfl rfl rfl hB3 rfl)) | exact Xx.dropB b5 (Xx.dropB b6 (Xx.rB1 rfl rfl rfl (Frag.le_trans hB3 hB5) rfl))
    · skip
      obtain ⟨hoka, hbya⟩ := CheckF_zero h4
      refine Lx.gT rfl rfl rfl ?_
      refine Lx.y (ldA Tryd.underlying35 rfl sz35 rfl (Cells.own (n := 6) PickB.eq rfl) rfl) rfl ?_
      refine Lx.gT rfl rfl rfl ?_
      refine Lx.cp rfl rfl rfl (Check_ct 9 _ _ _ hv3 (fun z => cut_bytes z)) rfl ?_
      refine Lx.gT rfl rfl rfl ?_
      refine Lx.y (neI rfl rfl) rfl ?_
      refine Lx.y (pickF rfl rfl) rfl ?_
      refine Lx.nil ?_
      refine Xx.tn (k3 _ _ _ _ ?_)
      refine Cx.condN rfl (fun h7 => ?_) (fun h7 => ?_)
      · skip
        refine Cx.seq (fun K8 k8 => ?_)
        refine Cx.region ?_
        refine Lx.cb rfl rfl rfl (awake_ct _) rfl ?_
        rintro v B9 ⟨rfl, hBB⟩ hB9
        obtain rfl := hBB.symm
        refine Lx.y (asg rfl) rfl ?_
        refine Lx.nil ?_
        refine Xx.tn (k8 _ _ _ _ ?_)
        refine Cx.ret ?_
        refine Xx.tr ?_
        first | exact Xx.dropB b5 (Xx.dropB b6 (Xx.rB1 rfl rfl rfl hB3 rfl)) | exact Xx.dropB b5 (Xx.dropB b6 (Xx.rB1 rfl rfl rfl (Frag.le_trans hB3 hB5) rfl))
      · skip
        obtain ⟨hokb, hbyb⟩ := CheckF_zero h7
        refine Cx.skip ?_
        refine Xx.tn (k2 _ _ _ _ ?_)
        refine Cx.cutK (ds' := []) (Sub.cons (s := 0) rfl (Sub.cons (s := 1) rfl (Sub.cons (s := 2) rfl (Sub.cons (s := 3) rfl (Sub.cons (s := 4) rfl (Sub.cons (s := 6) rfl (Sub.cons (s := 7) rfl (Sub.cons (s := 8) rfl (Sub.cons (s := 14) rfl (Sub.cons (s := 15) rfl (Sub.cons (s := 16) rfl (Sub.cons (s := 17) rfl (Sub.cons (s := 18) rfl (Sub.cons (s := 19) rfl (Sub.cons (s := 20) rfl (Sub.cons (s := 21) rfl (Sub.nil _))))))))))))))))) (fun ρ' B' H' => ρ' = [(9, .bool (decide (cmpF 9 (cutF 8 32 x) (cutF 8 32 y) = .eq)))] ∧ B3.le B' ∧ row b6 35 (vcs (cutF 8 32 y) Ap3 cp3 An3 cn3) * (row b5 35 (vcs (cutF 8 32 x) Ap2 cp2 An2 cn2) * R) = H') ?_ ?_
        · skip
          refine Cx.drawn (by kernel_rfl) ?_
          refine Dx.r (i := 0) rfl (by kernel_rfl) (ldA Tryd.underlying35 rfl sz35 rfl (Cells.own (n := 6) PickB.eq rfl) rfl) rfl ?_
          refine Dx.r (i := 2) rfl (by kernel_rfl) (ldA Tryd.underlying35 rfl sz35 rfl (Cells.own (n := 6) PickB.eq rfl) rfl) rfl ?_
          refine Dx.one (i := 1) (by kernel_rfl) ?_
          refine Dstep.o (i := 1) rfl (Ox.cb rfl rfl rfl (Ref_ct 9 _ _ _ (hv2) (cutF_few _ _ _ _ (by decide)))) rfl (fun v B' H' hΦ hB => ?_)
          obtain ⟨rfl, hΦ⟩ := hΦ
          obtain ⟨cs4, rfl, hv4⟩ := hΦ
          obtain ⟨Apcs4, cpcs4, Ancs4, cncs4, rfl⟩ := ValR.shape hv4
          have hB4 := hB
          refine ⟨JOk.yes (JOk.edge (JOk.top) (by kernel_rfl)) (ldA Tryd.underlying35 rfl sz35 rfl (Cells.own (n := 6) PickB.eq rfl) rfl), ?_⟩
          refine Dx.one (i := 3) (by kernel_rfl) ?_
          refine Dstep.o (i := 3) rfl (Ox.cb rfl rfl rfl (Ref_ct 9 _ _ _ (ValR.mono hB4 hv3) (cutF_few _ _ _ _ (by decide)))) rfl (fun v B' H' hΦ hB => ?_)
          obtain ⟨rfl, hΦ⟩ := hΦ
          obtain ⟨cs5, rfl, hv5⟩ := hΦ
          obtain ⟨Apcs5, cpcs5, Ancs5, cncs5, rfl⟩ := ValR.shape hv5
          have hB5 := hB
          refine ⟨JOk.edge (JOk.yes (JOk.top) (ldA Tryd.underlying35 rfl sz35 rfl (Cells.own (n := 6) PickB.eq rfl) rfl)) (by kernel_rfl), ?_⟩
          refine Dx.one (i := 4) (by kernel_rfl) ?_
          refine Dstep.o (i := 4) rfl (Ox.cb rfl rfl rfl (Same_ct 9 _ _ _ _ _ _ (ValR.mono hB5 hv4) hv5 hoka hokb)) rfl (fun v B' H' hΦ hB => ?_)
          obtain ⟨rfl, rfl, rfl⟩ := hΦ; clear hB
          refine ⟨JOk.yes (JOk.yes (JOk.top) (ldA Tryd.underlying35 rfl sz35 rfl (Cells.own (n := 6) PickB.eq rfl) rfl)) (ldA Tryd.underlying35 rfl sz35 rfl (Cells.own (n := 6) PickB.eq rfl) rfl), ?_⟩
          refine Dx.p (i := 5) rfl (by kernel_rfl) (asg rfl) rfl ?_
          refine Dx.done (by kernel_rfl) ?_
          exact Xx.mkK (⟨rfl, Frag.le_trans hB4 hB5, rfl⟩) (Sub.cons (s := 9) rfl (Sub.cons (s := 0) rfl (Sub.cons (s := 1) rfl (Sub.cons (s := 2) rfl (Sub.cons (s := 3) rfl (Sub.cons (s := 4) rfl (Sub.cons (s := 6) rfl (Sub.cons (s := 7) rfl (Sub.cons (s := 8) rfl (Sub.cons (s := 14) rfl (Sub.cons (s := 15) rfl (Sub.cons (s := 16) rfl (Sub.cons (s := 17) rfl (Sub.cons (s := 18) rfl (Sub.cons (s := 19) rfl (Sub.cons (s := 20) rfl (Sub.cons (s := 21) rfl (Sub.nil _))))))))))))))))))
        · rintro ρ' B' H' ⟨rfl, hB5, rfl⟩
          obtain ⟨B5, rfl⟩ : ∃ B5, B5 = B' := ⟨B', rfl⟩
          have hv4 := ValR.mono hB5 hv2
          have hv5 := ValR.mono hB5 hv3
          have hM5 := (hM.mono hB3).mono hB5
          have hT := key_cmp hv4 hv5 hoka hokb
          refine Cx.seq (fun K10 k10 => ?_)
          refine Cx.drawn (by kernel_rfl) ?_
          refine Dx.one (i := 0) (by kernel_rfl) ?_
          refine Dstep.o (i := 0) rfl (Ox.cb rfl rfl rfl (awake_ct _)) rfl (fun v B' H' hΦ hB => ?_)
          obtain ⟨rfl, hΦ⟩ := hΦ
          obtain ⟨rfl, hBB⟩ := hΦ
          obtain rfl := hBB.symm
          clear hB
          refine ⟨JOk.top, ?_⟩
          refine Dx.p (i := 1) rfl (by kernel_rfl) (mv rfl) rfl ?_
          refine Dx.rT (i := 2) rfl rfl rfl rfl (by kernel_rfl) (ldA Tryd.underlying35 rfl sz35 rfl (Cells.own (n := 6) PickB.eq rfl) rfl) rfl ?_
          refine Dx.rT (i := 4) rfl rfl rfl rfl (by kernel_rfl) (ldA Tryd.underlying35 rfl sz35 rfl (Cells.own (n := 6) PickB.eq rfl) rfl) rfl ?_
          refine Dx.pT (i := 5) rfl rfl rfl rfl (by kernel_rfl) (mv rfl) rfl ?_
          refine Dx.pT (i := 8) rfl rfl rfl rfl (by kernel_rfl) (mv rfl) rfl ?_
          refine Dx.one (i := 3) (by kernel_rfl) ?_
          refine Dstep.oT (i := 3) rfl rfl rfl rfl (Ox.cb rfl rfl rfl (Equal_ct 9 _ _ _ hv4 hM5 hbya)) rfl (fun v B' H' hΦ hB => ?_)
          obtain ⟨rfl, hΦ⟩ := hΦ
          obtain ⟨hBB, r, rfl, hr⟩ := hΦ
          obtain rfl := hBB.symm
          clear hB
          refine ⟨JOk.yes (JOk.edge (JOk.top) (by kernel_rfl)) (ldA Tryd.underlying35 rfl sz35 rfl (Cells.own (n := 6) PickB.eq rfl) rfl), ?_⟩
          refine Dx.one (i := 6) (by kernel_rfl) ?_
          refine Dstep.oT (i := 6) rfl rfl rfl rfl (Ox.cb rfl rfl rfl (Pair_ct 9 _ _ _ _ hv5 hM5 (by omega))) rfl (fun v B' H' hΦ hB => ?_)
          obtain ⟨rfl, rfl, rfl⟩ := hΦ; clear hB
          refine ⟨JOk.edge (JOk.yes (JOk.top) (ldA Tryd.underlying35 rfl sz35 rfl (Cells.own (n := 6) PickB.eq rfl) rfl)) (by kernel_rfl), ?_⟩
          refine Dx.one (i := 7) (by kernel_rfl) ?_
          refine Dstep.oT (i := 7) rfl rfl rfl rfl (Ox.cb rfl rfl rfl (Has_ct _ _ _ _)) rfl (fun v B' H' hΦ hB => ?_)
          obtain ⟨rfl, rfl, rfl⟩ := hΦ; clear hB
          refine ⟨JOk.yes (JOk.yes (JOk.top) (ldA Tryd.underlying35 rfl sz35 rfl (Cells.own (n := 6) PickB.eq rfl) rfl)) (ldA Tryd.underlying35 rfl sz35 rfl (Cells.own (n := 6) PickB.eq rfl) rfl), ?_⟩
          refine Dx.pT (i := 9) rfl rfl rfl rfl (by kernel_rfl) (Yx.tt (eqB Tryd.underlying4 rfl rfl) (by rw [tri_has hT hr]; exact beq_self_eq_true _)) rfl ?_
          refine Dx.p (i := 10) rfl (by kernel_rfl) (pickT rfl rfl) rfl ?_
          refine Dx.p (i := 11) rfl (by kernel_rfl) (asg rfl) rfl ?_
          refine Dx.done (by kernel_rfl) ?_
          refine Xx.tn (k10 _ _ _ _ ?_)
          refine Cx.ret ?_
          first | exact Xx.dropB b5 (Xx.dropB b6 (Xx.rB1 rfl rfl rfl hB3 rfl)) | exact Xx.dropB b5 (Xx.dropB b6 (Xx.rB1 rfl rfl rfl (Frag.le_trans hB3 hB5) rfl))
end KeH
end Go.Proofs.YtcoiejmlpinpbaaDoor
