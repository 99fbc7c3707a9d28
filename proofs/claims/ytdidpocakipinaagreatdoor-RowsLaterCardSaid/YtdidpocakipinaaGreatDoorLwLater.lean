/-
  RowsLater: whatever the input, the law answers true, and the input reads as it did.
-/
import Derived.Test.YtdidpocakipinaaGreatDoorProg
import Derived.SizedLaws
import Derived.Deep.Strs
import Derived.Test.YtdidpocakipinaaGreatDoorRows
import Derived.Test.YtdidpocakipinaaGreatDoorCards
import Derived.Test.YtdidpocakipinaaGreatDoorTie
import Derived.Deep.DeepHandedRow
import Derived.Lib.LaidTab
import Derived.Test.YtdidpocakipinaaGreatDoorMl6

/-
  An index made behind the documents: the walk of the law.
-/
namespace Go.Proofs.YtdidpocakipinaaGreatDoor
open Go.SL Go.RowKit
set_option linter.unusedVariables false
set_option linter.unusedSimpArgs false
set_option maxRecDepth 100000
open Ke1 Ke3 Ke4 Ke5 Ke6 Ke7 Ke8 Ke9 KeA KeB KeC KeD KeE KeF KeG KeI RgA RgB BtB BtC BtD BtE BtG BtX BtH BtI BtF BtJ BtK BtL BtM BtN BtO BtR BtY BtZ DrA DrB DrC DrD DrE DrF RwA RwB BtQ BtS RwC RwD RwE RwF RwG RwH RwI
namespace RwK
theorem sz9 : (Tryz.prog.info? 9).map (·.size) = some 1 := by kernel_rfl
theorem sz25 : (Tryz.prog.info? 25).map (·.size) = some 6 := by kernel_rfl
theorem sz34 : (Tryz.prog.info? 34).map (·.size) = some 1 := by kernel_rfl
theorem sz36 : (Tryz.prog.info? 36).map (·.size) = some 8 := by kernel_rfl
theorem sz48 : (Tryz.prog.info? 48).map (·.size) = some 2 := by kernel_rfl
theorem sz51 : (Tryz.prog.info? 51).map (·.size) = some 9 := by kernel_rfl
theorem sz53 : (Tryz.prog.info? 53).map (·.size) = some 1 := by kernel_rfl
theorem ti25 : TI Tryz.prog 25 [.int .i64 0, .bool false, .int .i64 0, str [], .slice none 0 0, .slice none 0 0] 6 88 := TI.of (by kernel_rfl) rfl rfl
theorem ti34 : TI Tryz.prog 34 [.int .u64 0] 1 8 := TI.of (by kernel_rfl) rfl rfl
theorem ti36 : TI Tryz.prog 36 [.int .u64 0, .int .u64 0, .int .i64 0, .bool false, .int .i64 0, str [], .slice none 0 0, .slice none 0 0] 8 104 := TI.of (by kernel_rfl) rfl rfl
theorem ti53 : TI Tryz.prog 53 [.slice none 0 0] 1 24 := TI.of (by kernel_rfl) rfl rfl
theorem fo36_0 : FO Tryz.prog 36 0 0 1 false := FO.of Tryz.underlying36 rfl rfl (by kernel_rfl) Tryz.underlying34 rfl rfl
theorem fo51_0 : FO Tryz.prog 51 0 0 1 false := FO.of Tryz.underlying51 rfl rfl (by kernel_rfl) Tryz.underlying3 rfl rfl
theorem fo51_1 : FO Tryz.prog 51 1 1 1 false := FO.of Tryz.underlying51 rfl rfl (by kernel_rfl) Tryz.underlying34 rfl rfl
theorem fo51_2 : FO Tryz.prog 51 2 2 6 true := FO.of Tryz.underlying51 rfl rfl (by kernel_rfl) Tryz.underlying25 rfl rfl
theorem pl36 : PL Tryz.prog 36 [(0, 1), (1, 1), (2, 6)] := PL.of Tryz.underlying36 (by kernel_rfl)

/-- something that is done -/
structure Ac where
  kind : Int
  doc : BitVec 64
  v : V
  cs : List Value
  f : List UInt8
def acv (a : Ac) : List Value := i64 a.kind :: u64 a.doc :: (a.cs ++ [str a.f])
theorem u64_at {l : List Dc} {j : Nat} (h : j < l.length) : ((l.map (fun x => u64 x.n)).drop (0 + j * 1)).take 1 = [u64 l[j].n] := by
  rw [Nat.zero_add, Nat.mul_one, List.drop_eq_getElem_cons (by simpa using h)]
  simp
def AcOk (B : Frag) (a : Ac) : Prop := a.cs.length = 6 ∧ ∃ d, ValR B d a.v a.cs
theorem AcOk.mono {B B' : Frag} {a : Ac} (h : AcOk B a) (hB : B.le B') : AcOk B' a := ⟨h.1, let ⟨d, h2⟩ := h.2; ⟨d, h2.mono hB⟩⟩
/-- a thing of the list, cell by cell -/
theorem ac_at {B : Frag} {A : Option Addr} {l : List Ac} (h6 : ∀ a ∈ l, a.cs.length = 6) (hR : 0 < l.length → RoS B 9 A l.length (l.flatMap acv)) {i : Nat} (hi : i < l.length) : ∃ b o cs et fz, A = some ⟨b, o, none⟩ ∧ B b = some (.cells (List.toArray cs) et fz) ∧ (cs.drop (o + i * 9)).take 9 = acv l[i] := by
  obtain ⟨hl, ⟨_, h0⟩ | ⟨b, o, cs, et, fz, hA, hB, hx⟩⟩ := hR (by omega)
  · omega
  · refine ⟨b, o, cs, et, fz, hA, hB, ?_⟩
    have hlen : ∀ m : List Ac, (∀ a ∈ m, a.cs.length = 6) → (m.flatMap acv).length = m.length * 9 := by
      intro m
      induction m with
      | nil => intro _; rfl
      | cons a m ih =>
        intro h
        rw [List.flatMap_cons, List.length_append, ih fun b hb => h b (by simp [hb])]
        have := h a (by simp)
        unfold acv
        simp [this]; omega
    have hat : ∀ (m : List Ac) (k : Nat) (hk : k < m.length), (∀ a ∈ m, a.cs.length = 6) → ((m.flatMap acv).drop (k * 9)).take 9 = acv m[k] := by
      intro m
      induction m with
      | nil => intro k hk; simp at hk
      | cons a m ih =>
        intro k hk h
        have h9 : (acv a).length = 9 := by have := h a (by simp); unfold acv; simp [this]
        rw [List.flatMap_cons]
        cases k with
        | zero => rw [Nat.zero_mul, List.drop_zero, List.take_left' h9]; rfl
        | succ k =>
          rw [show (k + 1) * 9 = (acv a).length + k * 9 by rw [h9]; omega, ← List.drop_drop, List.drop_left]
          exact ih k (by simpa using hk) fun b hb => h b (by simp [hb])
    have h1 := hat l i hi h6
    rw [← hx, List.drop_take, List.take_take, List.drop_drop, Nat.min_eq_left (by omega)] at h1
    exact h1
theorem take_at {cs vs : List Value} {o n j : Nat} {v : Value} (h : (cs.drop o).take n = vs) (hj : vs[j]? = some v) (hn : j < n) : cs[o + j]? = some v := by
  rw [← h, List.getElem?_take, if_pos hn, List.getElem?_drop] at hj; exact hj
theorem take_part {cs vs : List Value} {o n j m : Nat} (h : (cs.drop o).take n = vs) (hn : j + m ≤ n) : (cs.drop (o + j)).take m = (vs.drop j).take m := by
  rw [← h, List.drop_take, List.take_take, List.drop_drop, Nat.min_eq_left (by omega)]
/-- two lists in order with the same keys are the same -/
theorem ord_ext {a b : List (List UInt8 × List UInt8)} (ha : Ord a) (hb : Ord b) (h : ∀ k, k ∈ a.map (·.1) ↔ k ∈ b.map (·.1)) : a.map (·.1) = b.map (·.1) := by
  have p1 : (a.map (·.1)).Pairwise (fun x y => bless x y = true) := List.pairwise_map.2 ha
  have p2 : (b.map (·.1)).Pairwise (fun x y => bless x y = true) := List.pairwise_map.2 hb
  have hp := (List.perm_ext_iff_of_nodup (ord_nodup ha) (ord_nodup hb)).2 h
  refine List.Perm.eq_of_pairwise ?_ p1 p2 hp
  intro x y _ _ h1 h2
  rw [bless_asymm h1] at h2; cases h2
theorem inS_keys (lo hi : List UInt8) (a : List (List UInt8 × List UInt8)) : (inS lo hi a).map (·.1) = (a.map (·.1)).filter (BtS.hasB lo hi) := by
  unfold inS
  induction a with
  | nil => rfl
  | cons p a ih =>
    by_cases h : BtS.hasB lo hi p.1 = true
    · simp [List.filter_cons, h, ih]
    · simp [List.filter_cons, h, ih]
theorem abs_drop (n : BitVec 64) (ds : List Dc) : (dropD n ds).map Dc.abs = (ds.map Dc.abs).filter (fun p => decide (p.1 ≠ n)) := by
  unfold dropD
  induction ds with
  | nil => rfl
  | cons d ds ih =>
    by_cases h : d.n = n
    · rw [List.filter_cons_of_neg (by simp [h]), ih, List.map_cons, List.filter_cons_of_neg (by simp [Dc.abs, h])]
    · rw [List.filter_cons_of_pos (by simp [h]), List.map_cons, ih, List.map_cons, List.filter_cons_of_pos (by simp [Dc.abs, h])]
/-- the same documents have the same keys -/
theorem abs_keys {f : List UInt8} {a b : List Dc} (h : a.map Dc.abs = b.map Dc.abs) : a.map (keyD f) = b.map (keyD f) := by
  have h1 := congrArg (List.map fun p : BitVec 64 × BitVec 64 × V => keyF 3 (getV p.2.2 f) ++ numL p.1) h
  rw [List.map_map, List.map_map] at h1
  exact h1
theorem keys_n {f : List UInt8} : ∀ {a b : List Dc}, a.map (keyD f) = b.map (keyD f) → a.map (·.n) = b.map (·.n) := by
  intro a
  induction a with
  | nil => intro b h; cases b with
    | nil => rfl
    | cons y b => cases h
  | cons x a ih => intro b h; cases b with
    | nil => cases h
    | cons y b =>
      rw [List.map_cons, List.map_cons] at h
      injection h with h1 h2
      rw [List.map_cons, List.map_cons, keyD_n h1, ih h2]
/-- two indexes of the same documents hand out the same numbers -/
theorem same_docs {f lo hi : List UInt8} {d d' : Nat} {c c' : C} {a b ta tb : List Dc} (h : a.map Dc.abs = b.map Dc.abs) (ha : TK d c (fun k => ∃ x ∈ a, k = keyD f x)) (hb : TK d' c' (fun k => ∃ x ∈ b, k = keyD f x))
    (h1 : ta.map (keyD f) = (inS lo hi (io (d + 1) c)).map (·.1)) (h2 : tb.map (keyD f) = (inS lo hi (io (d' + 1) c')).map (·.1)) : ta.map (·.n) = tb.map (·.n) := by
  have hk := abs_keys (f := f) h
  have he : (io (d + 1) c).map (·.1) = (io (d' + 1) c').map (·.1) := ord_ext ha.1.2.2.1 hb.1.2.2.1 fun k => by
    rw [ha.2.2 k, hb.2.2 k]
    have e1 : (∃ x ∈ a, k = keyD f x) ↔ k ∈ a.map (keyD f) := ⟨fun ⟨x, hx, e⟩ => List.mem_map.2 ⟨x, hx, e.symm⟩, fun hm => let ⟨x, hx, e⟩ := List.mem_map.1 hm; ⟨x, hx, e.symm⟩⟩
    have e2 : (∃ x ∈ b, k = keyD f x) ↔ k ∈ b.map (keyD f) := ⟨fun ⟨x, hx, e⟩ => List.mem_map.2 ⟨x, hx, e.symm⟩, fun hm => let ⟨x, hx, e⟩ := List.mem_map.1 hm; ⟨x, hx, e.symm⟩⟩
    exact (e1.trans (by rw [hk])).trans e2.symm
  refine keys_n (f := f) ?_
  rw [h1, h2, inS_keys, inS_keys, he]
theorem abs_n {a b : List Dc} (h : a.map Dc.abs = b.map Dc.abs) : a.map (·.n) = b.map (·.n) := by
  have h1 := congrArg (List.map fun p : BitVec 64 × BitVec 64 × V => p.1) h
  rw [List.map_map, List.map_map] at h1
  exact h1
theorem u64s_n {a b : List Dc} (h : a.map (·.n) = b.map (·.n)) : a.map (fun x => u64 x.n) = b.map (fun x => u64 x.n) := by
  have h1 := congrArg (List.map fun n : BitVec 64 => u64 n) h
  rw [List.map_map, List.map_map] at h1
  exact h1

set_option maxHeartbeats 8000000 in
theorem RowsLater_ct (l : List Ac) (A : Option Addr) (c : Nat) (f lo hi : List UInt8) (B : Frag) (hM : MaxLenIn B) (hl : l.length ≤ 9223372036854775807) (hR : 0 < l.length → RoS B 9 A l.length (l.flatMap acv)) (hv : ∀ a ∈ l, AcOk B a) : CtB Tryz.prog 4 [.slice A l.length c, str f, .agg [str lo, str hi].toArray] B (fun v _ => v = .bool true) := by
  refine CtB.of_bodyM Tryz.func4 rfl (nt := 136) rfl (by kernel_rfl) rfl ?_
  intro N0 w0 R
  refine Cx.seq (fun K1 k1 => ?_)
  refine Cx.region ?_
  refine Lx.new (boxA rfl) rfl (fun b5 => ?_)
  refine Lx.y (asg rfl) rfl ?_
  refine Lx.nil ?_
  refine Xx.tn (k1 _ _ _ _ ?_)
  refine Cx.seq (fun K2 k2 => ?_)
  refine Cx.seq (fun K3 k3 => ?_)
  refine Cx.region ?_
  refine Lx.cb rfl rfl rfl (awake_ct _ hM) rfl ?_
  rintro v1 B1 rfl hB1
  refine Lx.y (Yx.ff (not' rfl) (rfl)) rfl ?_
  refine Lx.nil ?_
  refine Xx.tn (k3 _ _ _ _ ?_)
  refine Cx.condF rfl ?_
  refine Cx.skip ?_
  refine Xx.tn (k2 _ _ _ _ ?_)
  refine Cx.seq (fun K5 k5 => ?_)
  refine Cx.region ?_
  refine Lx.c rfl rfl rfl (RNew_ct _) ((one_star _).symm) rfl ?_
  rintro v B3 H3 ⟨hBB, T0, rfl, rfl, hdT, hxT, hT0⟩ hB3
  have hBB2 := hBB.symm
  subst hBB2
  clear hB3
  refine Lx.c rfl rfl rfl (RNew_ct _) ((one_star _).symm) rfl ?_
  rintro v B3 H3 ⟨hBB, U0, rfl, rfl, hdU, hxU, hU0⟩ hB3
  have hBB2 := hBB.symm
  subst hBB2
  clear hB3
  refine Lx.y (asg rfl) rfl ?_
  refine Lx.y (asg rfl) rfl ?_
  refine Lx.nil ?_
  refine Xx.tn (k5 _ _ _ _ ?_)
  refine Cx.seq (fun K6 k6 => ?_)
  refine Cx.region ?_
  refine Lx.y (mv rfl) rfl ?_
  refine Lx.y (mv rfl) rfl ?_
  refine Lx.c rfl rfl rfl (RAdd_ct T0 f _ hT0 (hM.mono hB1) (by rw [hdT]; decide)) (Pick.eq) rfl ?_
  rintro r5 B5 H5 ⟨hBB, T1, rfl, rfl, hT1, hb1, hd1, hx1⟩ hB5
  have hBB2 := hBB.symm
  subst hBB2
  clear hB5
  rw [← hb1]
  rw [hxT] at hx1
  have hx1 : T1.xs.map (·.f) = [f] := hx1
  have hxU2 : U0.xs.map (·.f) = [] := by rw [hxU]; rfl
  obtain ⟨Bz, hBz⟩ : ∃ Bz, Bz = B1 := ⟨_, rfl⟩
  subst hBz
  refine Lx.nil ?_
  refine Xx.tn (k6 _ _ _ _ ?_)
  refine Cx.cutK (ds' := []) (Sub.cons (s := 0) rfl (Sub.cons (s := 1) rfl (Sub.cons (s := 2) rfl (Sub.cons (s := 5) rfl (Sub.cons (s := 6) rfl (Sub.cons (s := 7) rfl (Sub.cons (s := 8) rfl (Sub.cons (s := 16) rfl (Sub.cons (s := 17) rfl (Sub.cons (s := 18) rfl (Sub.cons (s := 19) rfl (Sub.cons (s := 20) rfl (Sub.cons (s := 21) rfl (Sub.nil _)))))))))))))) (fun ρ' B' H' => ∃ Ta Ub B2, ρ' = [] ∧ B2 = B' ∧ tab Ta * (tab Ub * (row b5 48 [str lo, str hi] * R)) = H' ∧ TabOk B2 Ta ∧ TabOk B2 Ub ∧ Ta.b = T1.b ∧ Ub.b = U0.b ∧ Ta.ds.map Dc.abs = Ub.ds.map Dc.abs ∧ Ta.ds.length ≤ 30 ∧ Ta.xs.map (·.f) = [f] ∧ Ub.xs.map (·.f) = [] ∧ Bz.le B2) ?_ ?_
  · skip
    refine Cx.seq (fun K7 k7 => ?_)
    refine Cx.region ?_
    refine Lx.y (asg rfl) rfl ?_
    refine Lx.nil ?_
    refine Xx.tn (k7 _ _ _ _ ?_)
    refine Cx.block ?_
    refine Cx.loopK (Sub.cons (s := 0) rfl (Sub.cons (s := 1) rfl (Sub.cons (s := 2) rfl (Sub.cons (s := 5) rfl (Sub.cons (s := 6) rfl (Sub.cons (s := 7) rfl (Sub.cons (s := 8) rfl (Sub.cons (s := 16) rfl (Sub.cons (s := 17) rfl (Sub.cons (s := 18) rfl (Sub.cons (s := 19) rfl (Sub.cons (s := 20) rfl (Sub.cons (s := 21) rfl (Sub.nil _)))))))))))))) (fun m ρ' B' H' => ∃ (i : Nat) (Ta Ub : Tb) (B2 : Frag), (i ≤ l.length ∧ i ≤ 30 ∧ TabOk B2 Ta ∧ TabOk B2 Ub ∧ Ta.b = T1.b ∧ Ub.b = U0.b ∧ Ta.ds.map Dc.abs = Ub.ds.map Dc.abs ∧ Ta.ds.length ≤ i ∧ Ta.xs.map (·.f) = [f] ∧ Ub.xs.map (·.f) = [] ∧ Bz.le B2) ∧ m = 30 - i ∧ ρ' = [(9, i64 i)] ∧ B2 = B' ∧ tab Ta * (tab Ub * (row b5 48 [str lo, str hi] * R)) = H') ⟨0, T1, U0, _, ⟨Nat.zero_le _, Nat.zero_le _, hT1, hU0, rfl, rfl, by rw [hd1, hdT, hdU], by rw [hd1, hdT]; exact Nat.zero_le _, hx1, hxU2, Frag.le_refl _⟩, rfl, rfl, rfl, by ac_rfl⟩ (Sub.cons (s := 9) rfl (Sub.cons (s := 0) rfl (Sub.cons (s := 1) rfl (Sub.cons (s := 2) rfl (Sub.cons (s := 5) rfl (Sub.cons (s := 6) rfl (Sub.cons (s := 7) rfl (Sub.cons (s := 8) rfl (Sub.cons (s := 16) rfl (Sub.cons (s := 17) rfl (Sub.cons (s := 18) rfl (Sub.cons (s := 19) rfl (Sub.cons (s := 20) rfl (Sub.cons (s := 21) rfl (Sub.nil _))))))))))))))) ?_
    rintro m ρ' B' H' ⟨i, Ta, Ub, B2, ⟨hi1, hi2, hTa, hUb, hab, hub, habs, hln, hxa, hxb, hB2⟩, rfl, rfl, rfl, rfl⟩
    rw [← hab, ← hub]
    have hlu : Ub.ds.length = Ta.ds.length := by have := congrArg List.length habs; simp at this; omega
    refine Cx.seq (fun K8 k8 => ?_)
    refine Cx.seq (fun K9 k9 => ?_)
    refine Cx.region ?_
    refine Lx.y (mv rfl) rfl ?_
    refine Lx.y (mv rfl) rfl ?_
    refine Lx.y (lenV (ty' := 0) Tryz.underlying46 rfl) rfl ?_
    refine Lx.y (lss rfl rfl) rfl ?_
    refine Lx.y (mv rfl) rfl ?_
    refine Xx.ifD (t := 27) rfl (fun h10 => ?_) (fun h10 => ?_)
    · skip
      have hlt := h10
      have hlt : i < l.length := by omega
      refine Lx.gT rfl rfl rfl ?_
      refine Lx.y (mv rfl) rfl ?_
      refine Lx.gT rfl rfl rfl ?_
      refine Lx.y (lss rfl rfl) rfl ?_
      refine Lx.y (pickT rfl rfl) rfl ?_
      refine Lx.nil ?_
      refine Xx.tn (k9 _ _ _ _ ?_)
      refine Cx.condD rfl (fun h11 => ?_) (fun h11 => ?_)
      · skip
        have hlt3 := h11
        have hlt3 : i < 30 := by omega
        obtain ⟨ba, oa, csa, eta, fza, rfl, hBa, hca⟩ := ac_at (fun a ha => (hv a ha).1) hR hlt
        have hBa := hB2 _ _ (hB1 _ _ hBa)
        obtain ⟨h6, d9, hva⟩ := (hv _ (List.getElem_mem hlt)).mono (Frag.le_trans hB1 hB2)
        obtain ⟨Ap3, cp3, An3, cn3, hsh⟩ := ValR.shape hva
        rw [hsh] at hva
        have hcv : (csa.drop (oa + i * 9 + 2)).take 6 = vcs l[i].v Ap3 cp3 An3 cn3 := by rw [take_part hca (by decide)]; unfold acv; rw [hsh]; rfl
        have hck : csa[oa + i * 9 + 0]? = some (i64 l[i].kind) := take_at hca rfl (by decide)
        have hcd : csa[oa + i * 9 + 1]? = some (u64 l[i].doc) := take_at hca rfl (by decide)
        refine Cx.skip ?_
        refine Xx.tn (k8 _ _ _ _ ?_)
        refine Cx.seq (fun K12 k12 => ?_)
        refine Cx.block ?_
        refine Cx.seq (fun K13 k13 => ?_)
        refine Cx.region ?_
        refine Lx.y (mv rfl) rfl ?_
        refine Lx.y (mv rfl) rfl ?_
        refine Lx.y (ia Tryz.underlying46 sz51 rfl rfl (Int.toNat_natCast _) (by omega) (by omega)) rfl ?_
        refine Lx.y (fa' fo51_2 rfl) rfl ?_
        refine Lx.y (ldA Tryz.underlying25 rfl sz25 rfl (Cells.base (n := 6) hBa hcv) rfl) rfl ?_
        refine Lx.cb rfl rfl rfl (Cut_ct 2 3 l[i].v _ d9 _ (by decide) (by decide) hva) rfl ?_
        rintro v4 B9 ⟨cs4, rfl, hw4⟩ hB9
        obtain ⟨Ap4, cp4, An4, cn4, rfl⟩ := ValR.shape hw4
        have hw4 : ValR B9 4 (cutF 2 3 l[i].v) (vcs (cutF 2 3 l[i].v) Ap4 cp4 An4 cn4) := ValR.le hw4 (by decide)
        have hM9 := hM.mono (Frag.le_trans hB1 (Frag.le_trans hB2 hB9))
        refine Lx.new (allocO ti25) rfl (fun b10 => ?_)
        refine Lx.st (stA (d := .bool) sz25 rfl rfl rfl rfl (by show 0 + 6 ≤ 6; omega) rfl) ?_
        refine Lx.nil ?_
        refine Xx.tn (k13 _ _ _ _ ?_)
        refine Cx.seq (fun K15 k15 => ?_)
        refine Cx.region ?_
        refine Lx.y (mv rfl) rfl ?_
        refine Lx.y (mv rfl) rfl ?_
        refine Lx.y (ia Tryz.underlying46 sz51 rfl rfl (Int.toNat_natCast _) (by omega) (by omega)) rfl ?_
        refine Lx.y (fa' fo51_0 rfl) rfl ?_
        refine Lx.y (ldB Tryz.underlying3 rfl rfl (hB9 _ _ hBa) hck) rfl ?_
        refine Lx.y (eqI rfl rfl) rfl ?_
        refine Lx.nil ?_
        refine Xx.tn (k15 _ _ _ _ ?_)
        refine Cx.condD rfl (fun h16 => ?_) (fun h16 => ?_)
        · skip
          have hk3 := h16
          refine Cx.seq (fun K17 k17 => ?_)
          refine Cx.region ?_
          refine Lx.y (mv rfl) rfl ?_
          refine Lx.y (mv rfl) rfl ?_
          refine Lx.y (mv rfl) rfl ?_
          refine Lx.y (ia Tryz.underlying46 sz51 rfl rfl (by first | exact Int.toNat_natCast _ | rfl) (by omega) (by omega)) rfl ?_
          refine Lx.y (fa' fo51_1 rfl) rfl ?_
          refine Lx.y (ldB Tryz.underlying34 rfl rfl (hB9 _ _ hBa) hcd) rfl ?_
          refine Lx.c rfl rfl rfl (RDrop_ct Ta l[i].doc _ (hTa.mono hB9) hM9 (by omega)) (Pick.eq) rfl ?_
          rintro r6 B6 H6 ⟨hBB, Ta2, rfl, rfl, hTa2, ha2, hda2, hxa2⟩ hB6
          have hBB2 := hBB.symm
          subst hBB2
          clear hB6
          refine Lx.nil ?_
          refine Xx.tn (k17 _ _ _ _ ?_)
          refine Cx.region ?_
          refine Lx.y (mv rfl) rfl ?_
          refine Lx.y (mv rfl) rfl ?_
          refine Lx.y (mv rfl) rfl ?_
          refine Lx.y (ia Tryz.underlying46 sz51 rfl rfl (by first | exact Int.toNat_natCast _ | rfl) (by omega) (by omega)) rfl ?_
          refine Lx.y (fa' fo51_1 rfl) rfl ?_
          refine Lx.y (ldB Tryz.underlying34 rfl rfl (hB9 _ _ hBa) hcd) rfl ?_
          refine Lx.c rfl rfl rfl (RDrop_ct Ub l[i].doc _ (hUb.mono hB9) hM9 (by omega)) (Pick.eq) rfl ?_
          rintro r6 B6 H6 ⟨hBB, Ub2, rfl, rfl, hUb2, hu2, hdu2, hxu2⟩ hB6
          have hBB2 := hBB.symm
          subst hBB2
          clear hB6
          refine Lx.nil ?_
          refine Xx.bn ?_
          refine Xx.tn (k12 _ _ _ _ ?_)
          refine Cx.region ?_
          refine Lx.y (mv rfl) rfl ?_
          refine Lx.y (Yx.val (add rfl rfl (by first | exact wrap64 (by omega) (by omega) | rfl)) (show _ = i64 ((i + 1 : Nat) : Int) from rfl)) rfl ?_
          refine Lx.y (asg rfl) rfl ?_
          refine Lx.nil ?_
          refine Xx.dropB b10 ?_
          exact Xx.againK ⟨i + 1, Ta2, Ub2, _, ⟨by omega, by omega, hTa2, hUb2, ha2, hu2, by rw [hda2, hdu2, abs_drop, abs_drop, habs], by rw [hda2]; exact Nat.le_trans dropD_len (by omega), by rw [hxa2]; exact hxa, by rw [hxu2]; exact hxb, Frag.le_trans hB2 hB9⟩, rfl, rfl, rfl, (by ac_rfl)⟩ (by omega) (Sub.cons (s := 9) rfl (Sub.cons (s := 0) rfl (Sub.cons (s := 1) rfl (Sub.cons (s := 2) rfl (Sub.cons (s := 5) rfl (Sub.cons (s := 6) rfl (Sub.cons (s := 7) rfl (Sub.cons (s := 8) rfl (Sub.cons (s := 16) rfl (Sub.cons (s := 17) rfl (Sub.cons (s := 18) rfl (Sub.cons (s := 19) rfl (Sub.cons (s := 20) rfl (Sub.cons (s := 21) rfl (Sub.nil _)))))))))))))))
        · skip
          have hk3 := h16
          refine Cx.seq (fun K18 k18 => ?_)
          refine Cx.region ?_
          refine Lx.y (ldA Tryz.underlying25 rfl sz25 rfl (Cells.own (n := 6) PickB.eq rfl) rfl) rfl ?_
          refine Lx.cp rfl rfl rfl (Check_ct 4 (cutF 2 3 l[i].v) _ _ hw4 (fun z => cut_bytes z)) rfl ?_
          refine Lx.y (eqI rfl rfl) rfl ?_
          refine Lx.nil ?_
          refine Xx.tn (k18 _ _ _ _ ?_)
          refine Cx.condD rfl (fun h19 => ?_) (fun h19 => ?_)
          · skip
            have hz := h19
            have hz : CheckF 4 (cutF 2 3 l[i].v) = 0 := hz
            obtain ⟨hck4, hby4⟩ := CheckF_zero hz
            refine Cx.seq (fun K20 k20 => ?_)
            refine Cx.drawn (by kernel_rfl) ?_
            refine Dx.p (i := 0) rfl (by kernel_rfl) (mv rfl) rfl ?_
            refine Dx.p (i := 1) rfl (by kernel_rfl) (mv rfl) rfl ?_
            refine Dx.p (i := 2) rfl (by kernel_rfl) (mv rfl) rfl ?_
            refine Dx.p (i := 3) rfl (by kernel_rfl) (ia Tryz.underlying46 sz51 rfl rfl (by first | exact Int.toNat_natCast _ | rfl) (by omega) (by omega)) rfl ?_
            refine Dx.p (i := 4) rfl (by kernel_rfl) (fa' fo51_1 rfl) rfl ?_
            refine Dx.r (i := 5) rfl (by kernel_rfl) (ldB Tryz.underlying34 rfl rfl (by first | exact hB9 _ _ hBa | exact hB _ _ (hB9 _ _ hBa)) hcd) rfl ?_
            refine Dx.r (i := 6) rfl (by kernel_rfl) (ldA Tryz.underlying25 rfl sz25 rfl (Cells.own (n := 6) PickB.eq rfl) rfl) rfl ?_
            refine Dx.p (i := 7) rfl (by kernel_rfl) (bld ti36 pl36 rfl rfl) rfl ?_
            refine Dx.one (i := 8) (by kernel_rfl) ?_
            refine Dstep.o (i := 8) rfl (Ox.call rfl rfl rfl (RPut_ct Ta l[i].doc 0#64 (cutF 2 3 l[i].v) _ _ (hTa.mono hB9) hM9 (by omega) hw4 hck4 hby4) (Pick.eq)) rfl (fun v B' H' hΦ hB => ?_)
            obtain ⟨_, rfl, hΦ⟩ := hΦ
            obtain ⟨rfl, Ta2, rfl, hTa2, ha2, hda2, hxa2⟩ := hΦ
            obtain ⟨Bc, hce⟩ : ∃ Bc, Bc = B' := ⟨_, rfl⟩
            subst hce
            have hBc := hB
            refine ⟨JOk.yes (JOk.yes (JOk.top) (ldB Tryz.underlying34 rfl rfl (by first | exact hB9 _ _ hBa | exact hB _ _ (hB9 _ _ hBa)) hcd)) (ldA Tryz.underlying25 rfl sz25 rfl (Cells.own (n := 6) PickB.eq rfl) rfl), ?_⟩
            refine Dx.done (by kernel_rfl) ?_
            refine Xx.tn (k20 _ _ _ _ ?_)
            refine Cx.drawn (by kernel_rfl) ?_
            refine Dx.p (i := 0) rfl (by kernel_rfl) (mv rfl) rfl ?_
            refine Dx.p (i := 1) rfl (by kernel_rfl) (mv rfl) rfl ?_
            refine Dx.p (i := 2) rfl (by kernel_rfl) (mv rfl) rfl ?_
            refine Dx.p (i := 3) rfl (by kernel_rfl) (ia Tryz.underlying46 sz51 rfl rfl (by first | exact Int.toNat_natCast _ | rfl) (by omega) (by omega)) rfl ?_
            refine Dx.p (i := 4) rfl (by kernel_rfl) (fa' fo51_1 rfl) rfl ?_
            refine Dx.r (i := 5) rfl (by kernel_rfl) (ldB Tryz.underlying34 rfl rfl (by first | exact hBc _ _ (hB9 _ _ hBa) | exact hB _ _ (hBc _ _ (hB9 _ _ hBa))) hcd) rfl ?_
            refine Dx.r (i := 6) rfl (by kernel_rfl) (ldA Tryz.underlying25 rfl sz25 rfl (Cells.own (n := 6) PickB.eq rfl) rfl) rfl ?_
            refine Dx.p (i := 7) rfl (by kernel_rfl) (bld ti36 pl36 rfl rfl) rfl ?_
            refine Dx.one (i := 8) (by kernel_rfl) ?_
            refine Dstep.o (i := 8) rfl (Ox.call rfl rfl rfl (RPut_ct Ub l[i].doc 0#64 (cutF 2 3 l[i].v) _ _ (hUb.mono (Frag.le_trans hB9 hBc)) (hM9.mono hBc) (by omega) (hw4.mono hBc) hck4 hby4) (Pick.eq)) rfl (fun v B' H' hΦ hB => ?_)
            obtain ⟨_, rfl, hΦ⟩ := hΦ
            obtain ⟨rfl, Ub2, rfl, hUb2, hu2, hdu2, hxu2⟩ := hΦ
            obtain ⟨Bd, hde⟩ : ∃ Bd, Bd = B' := ⟨_, rfl⟩
            subst hde
            have hBd := hB
            refine ⟨JOk.yes (JOk.yes (JOk.top) (ldB Tryz.underlying34 rfl rfl (by first | exact hBc _ _ (hB9 _ _ hBa) | exact hB _ _ (hBc _ _ (hB9 _ _ hBa))) hcd)) (ldA Tryz.underlying25 rfl sz25 rfl (Cells.own (n := 6) PickB.eq rfl) rfl), ?_⟩
            refine Dx.done (by kernel_rfl) ?_
            refine Xx.bn ?_
            refine Xx.tn (k12 _ _ _ _ ?_)
            refine Cx.region ?_
            refine Lx.y (mv rfl) rfl ?_
            refine Lx.y (Yx.val (add rfl rfl (by first | exact wrap64 (by omega) (by omega) | rfl)) (show _ = i64 ((i + 1 : Nat) : Int) from rfl)) rfl ?_
            refine Lx.y (asg rfl) rfl ?_
            refine Lx.nil ?_
            refine Xx.dropB b10 ?_
            exact Xx.againK ⟨i + 1, Ta2, Ub2, _, ⟨by omega, by omega, hTa2.mono hBd, hUb2, ha2, hu2, by rw [hda2, hdu2, abs_drop, abs_drop, habs], by have h9 := congrArg List.length hda2; simp only [List.length_map, List.length_append, List.length_singleton] at h9; have h8 := dropD_len (n := l[i].doc) (ds := Ta.ds); omega, by rw [hxa2]; exact hxa, by rw [hxu2]; exact hxb, Frag.le_trans hB2 (Frag.le_trans hB9 (Frag.le_trans hBc hBd))⟩, rfl, rfl, rfl, (by ac_rfl)⟩ (by omega) (Sub.cons (s := 9) rfl (Sub.cons (s := 0) rfl (Sub.cons (s := 1) rfl (Sub.cons (s := 2) rfl (Sub.cons (s := 5) rfl (Sub.cons (s := 6) rfl (Sub.cons (s := 7) rfl (Sub.cons (s := 8) rfl (Sub.cons (s := 16) rfl (Sub.cons (s := 17) rfl (Sub.cons (s := 18) rfl (Sub.cons (s := 19) rfl (Sub.cons (s := 20) rfl (Sub.cons (s := 21) rfl (Sub.nil _)))))))))))))))
          · skip
            have hz := h19
            refine Cx.skip ?_
            refine Xx.bn ?_
            refine Xx.tn (k12 _ _ _ _ ?_)
            refine Cx.region ?_
            refine Lx.y (mv rfl) rfl ?_
            refine Lx.y (Yx.val (add rfl rfl (by first | exact wrap64 (by omega) (by omega) | rfl)) (show _ = i64 ((i + 1 : Nat) : Int) from rfl)) rfl ?_
            refine Lx.y (asg rfl) rfl ?_
            refine Lx.nil ?_
            refine Xx.dropB b10 ?_
            exact Xx.againK ⟨i + 1, Ta, Ub, _, ⟨by omega, by omega, hTa.mono hB9, hUb.mono hB9, rfl, rfl, habs, by omega, hxa, hxb, Frag.le_trans hB2 hB9⟩, rfl, rfl, rfl, (by ac_rfl)⟩ (by omega) (Sub.cons (s := 9) rfl (Sub.cons (s := 0) rfl (Sub.cons (s := 1) rfl (Sub.cons (s := 2) rfl (Sub.cons (s := 5) rfl (Sub.cons (s := 6) rfl (Sub.cons (s := 7) rfl (Sub.cons (s := 8) rfl (Sub.cons (s := 16) rfl (Sub.cons (s := 17) rfl (Sub.cons (s := 18) rfl (Sub.cons (s := 19) rfl (Sub.cons (s := 20) rfl (Sub.cons (s := 21) rfl (Sub.nil _)))))))))))))))
      · skip
        have hlt3 := h11
        refine Cx.exit ?_
        refine Xx.te ?_
        refine Xx.te ?_
        refine Xx.bh ?_
        exact Xx.mkK (⟨Ta, Ub, B2, rfl, rfl, rfl, hTa, hUb, rfl, rfl, habs, by omega, hxa, hxb, hB2⟩) (Sub.cons (s := 0) rfl (Sub.cons (s := 1) rfl (Sub.cons (s := 2) rfl (Sub.cons (s := 5) rfl (Sub.cons (s := 6) rfl (Sub.cons (s := 7) rfl (Sub.cons (s := 8) rfl (Sub.cons (s := 16) rfl (Sub.cons (s := 17) rfl (Sub.cons (s := 18) rfl (Sub.cons (s := 19) rfl (Sub.cons (s := 20) rfl (Sub.cons (s := 21) rfl (Sub.nil _))))))))))))))
    · skip
      have hlt := h10
      refine Lx.gF rfl rfl rfl rfl ?_
      refine Lx.gF rfl rfl rfl rfl ?_
      refine Lx.y (pickF rfl rfl) rfl ?_
      refine Lx.nil ?_
      refine Xx.tn (k9 _ _ _ _ ?_)
      refine Cx.condF rfl ?_
      refine Cx.exit ?_
      refine Xx.te ?_
      refine Xx.te ?_
      refine Xx.bh ?_
      exact Xx.mkK (⟨Ta, Ub, B2, rfl, rfl, rfl, hTa, hUb, rfl, rfl, habs, by omega, hxa, hxb, hB2⟩) (Sub.cons (s := 0) rfl (Sub.cons (s := 1) rfl (Sub.cons (s := 2) rfl (Sub.cons (s := 5) rfl (Sub.cons (s := 6) rfl (Sub.cons (s := 7) rfl (Sub.cons (s := 8) rfl (Sub.cons (s := 16) rfl (Sub.cons (s := 17) rfl (Sub.cons (s := 18) rfl (Sub.cons (s := 19) rfl (Sub.cons (s := 20) rfl (Sub.cons (s := 21) rfl (Sub.nil _))))))))))))))
  · rintro ρ' B' H' ⟨Ta, Ub, B2, rfl, rfl, rfl, hTa, hUb, hab, hub, habs, hln, hxa, hxb, hB2⟩
    rw [← hab, ← hub]
    have hlu : Ub.ds.length = Ta.ds.length := by have := congrArg List.length habs; simp at this; omega
    refine Cx.seq (fun K21 k21 => ?_)
    refine Cx.region ?_
    refine Lx.y (mv rfl) rfl ?_
    refine Lx.y (mv rfl) rfl ?_
    refine Lx.c rfl rfl rfl (RAdd_ct Ub f _ hUb (hM.mono (Frag.le_trans hB1 hB2)) (by omega)) (Pick.eq) rfl ?_
    rintro r7 B7 H7 ⟨hBB, Uc, rfl, rfl, hUc, hb7, hd7, hx7⟩ hB7
    have hBB2 := hBB.symm
    subst hBB2
    clear hB7
    rw [← hb7]
    rw [hxb] at hx7
    have hx7 : Uc.xs.map (·.f) = [f] := hx7
    have habs7 : Ta.ds.map Dc.abs = Uc.ds.map Dc.abs := by rw [hd7]; exact habs
    refine Xx.perm (H' := tab Ta * (tab Uc * (row b5 48 [str lo, str hi] * R))) ?_ (by ac_rfl)
    refine freeze_tab hTa fun B7 hB7 hRa => ?_
    refine freeze_tab (hUc.mono hB7) fun B8 hB8 hRu => ?_
    obtain ⟨xTa, hxTa, hxfa, hlxa⟩ := look_x (f := f) (xs := Ta.xs) (by rw [hxa]; simp)
    obtain ⟨xUc, hxUc, hxfu, hlxu⟩ := look_x (f := f) (xs := Uc.xs) (by rw [hx7]; simp)
    have htka := hTa.idx xTa hxTa
    rw [hxfa] at htka
    have htku := hUc.idx xUc hxUc
    rw [hxfu] at htku
    obtain ⟨tsTa, htsa, htka2⟩ := tk_list htka lo hi
    obtain ⟨tsUc, htsu, htku2⟩ := tk_list htku lo hi
    have hsame := same_docs habs7 htka htku htka2 htku2
    have hlta : tsTa.length ≤ 30 := by have h9 := congrArg List.length htka2; have h8 := htka.len; simp only [List.length_map] at h9; rw [h9]; exact Nat.le_trans (List.length_filter_le _ _) (by omega)
    have hltu : tsUc.length ≤ 30 := by have h9 := congrArg List.length hsame; simp only [List.length_map] at h9; omega
    refine Lx.nil ?_
    refine Xx.tn (k21 _ _ _ _ ?_)
    refine Cx.seq (fun K22 k22 => ?_)
    refine Cx.region ?_
    refine Lx.o (bslZ Tryz.underlying53 ti34) rfl (fun v B' H' hΦ hB => ?_)
    obtain ⟨b83, rfl, hBB, rfl⟩ := hΦ
    have hBB2 := hBB.symm
    subst hBB2
    clear hB
    refine Lx.o (bslZ Tryz.underlying53 ti34) rfl (fun v B' H' hΦ hB => ?_)
    obtain ⟨b84, rfl, hBB, rfl⟩ := hΦ
    have hBB2 := hBB.symm
    subst hBB2
    clear hB
    refine Lx.new (allocO ti53) rfl (fun b11 => ?_)
    refine Lx.new (allocO ti53) rfl (fun b12 => ?_)
    refine Lx.st (stO Tryz.underlying53 sz53 rfl rfl rfl (by simp) rfl) ?_
    refine Lx.st (stO Tryz.underlying53 sz53 rfl rfl rfl (by simp) rfl) ?_
    refine Lx.nil ?_
    refine Xx.tn (k22 _ _ _ _ ?_)
    refine Cx.seq (fun K23 k23 => ?_)
    refine Cx.seq (fun K24 k24 => ?_)
    refine Cx.region ?_
    refine Lx.y (mv rfl) rfl ?_
    refine Lx.y (mv rfl) rfl ?_
    refine Lx.y (ldA Tryz.underlying48 rfl sz48 rfl (Cells.own (n := 2) PickB.eq rfl) rfl) rfl ?_
    refine Lx.cb rfl rfl rfl (RRange_ro Ta f lo hi _ (hRa.mono hB8)) rfl ?_
    rintro v10 BA ⟨c1, c2, c3, rfl, hc1, hc2, hc3⟩ hBA
    rw [hlxa] at hc2
    have hRa9 := hRa.mono (Frag.le_trans hB8 hBA)
    have hTa9 := hTa.mono (Frag.le_trans hB7 (Frag.le_trans hB8 hBA))
    refine Lx.nil ?_
    refine Xx.tn (k24 _ _ _ _ ?_)
    refine Cx.block ?_
    refine Cx.rangeG (σ := _) (Sub.cons (s := 11) rfl (Sub.nil _)) rfl rfl (Docs_it Ta xTa.tb xTa.d xTa.c (keyD f) lo hi tsTa BA hTa9 hRa9 (hRa9.2.2.2.2 xTa hxTa) htka.1 htsa htka2 (fun y hy => keyD_tail (hTa.docs y hy)) c1 c2 c3 hc1 hc2 hc3) (show _ = 1 * ((row b11 53 [.slice (some ⟨b83, 0, none⟩) 0 0] * sbuf 34 1 (some ⟨b83, 0, none⟩) 0 0 []) * (row b12 53 [.slice (some ⟨b84, 0, none⟩) 0 0] * (sbuf 34 1 (some ⟨b84, 0, none⟩) 0 0 [] * (row b5 48 [str lo, str hi] * R)))) by simp only [one_star]; ac_rfl) rfl (fun _ => rfl) (fun pre B' H' => ∃ A c, H' = row b11 53 [.slice A pre.length c] * sbuf 34 1 A pre.length c (pre.map (fun x => u64 x.n))) (fun _ _ _ _ => False) (fun pre x B1 ρ' B' H' => ∃ ba A c, ρ' = [(13, .pointer (some ⟨ba, 0, none⟩))] ∧ B' = B1 ∧ pre.length + 1 ≤ 60 ∧ H' = row ba 36 x.cells * (row b11 53 [.slice A pre.length c] * sbuf 34 1 A pre.length c (pre.map (fun x => u64 x.n)))) (⟨_, _, rfl⟩) ?_ ?_ ?_ ?_
    · rintro lz Nz wz pre x B0 B1 H1 F K hxs hB0 hB01 hJ hK
      obtain ⟨A9, c9, rfl⟩ := hJ
      obtain ⟨⟨post, hpo⟩, hlast⟩ := hxs
      obtain ⟨Ap9, cp9, An9, cn9, hsh⟩ := cells_shape (hlast x (by simp))
      have hpl : pre.length + 1 ≤ 60 := by have h9 := congrArg List.length hpo; simp at h9; omega
      refine Cx.region ?_
      refine Lx.new (allocO ti36) rfl (fun ba => ?_)
      refine Lx.st (stA (d := .bool) (cs' := x.cells) sz36 rfl rfl (by rw [hsh]; rfl) (by rw [hsh]; rfl) (by rw [hsh]; show 0 + 8 ≤ 8; omega) (st_all rfl (by rw [hsh]; rfl))) ?_
      refine Lx.nil ?_
      refine Xx.tn ?_
      exact Xx.perm (Xx.sub (hK _ _ (row ba 36 x.cells * (row b11 53 [.slice A9 pre.length c9] * sbuf 34 1 A9 pre.length c9 (pre.map (fun x => u64 x.n)))) ⟨ba, A9, c9, rfl, rfl, hpl, rfl⟩ (Frag.le_refl _)) (Sub.cons (s := 13) rfl (Sub.cons (s := 11) rfl (Sub.nil _)))) (by ac_rfl)
    · rintro lz Nz wz pre x B1 F ρ' B' H' hxs hB1 hBx hAS
      obtain ⟨ba, A9, c9, rfl, hBB, hpl, rfl⟩ := hAS
      have hBB2 := hBB.symm
      subst hBB2
      simp only [star_assoc]
      refine Cx.block ?_
      refine Cx.region ?_
      refine Lx.y (ld Tryz.underlying53 rfl rfl rfl) rfl ?_
      refine Lx.y (fa' fo36_0 rfl) rfl ?_
      refine Lx.y (ld Tryz.underlying34 rfl rfl rfl) rfl ?_
      refine Lx.bsl (bsl1 Tryz.underlying53 ti34 rfl rfl rfl (by decide)) rfl (fun bv => ?_)
      refine Lx.o (appN (A := A9) (pre.length + 1) [u64 x.n] (pre.map (fun x => u64 x.n) ++ [u64 x.n]) Tryz.underlying53 Tryz.underlying53 ti34 rfl rfl rfl rfl rfl (by omega) (by omega) rfl rfl) rfl (fun v B' H' hΦ hB => ?_)
      obtain ⟨A2, c2, rfl, hA2, hl2, hc2, hBB, rfl⟩ := hΦ
      have hBB2 := hBB.symm
      subst hBB2
      clear hB
      refine Lx.st (stO Tryz.underlying53 sz53 rfl rfl rfl (by simp) rfl) ?_
      refine Lx.nil ?_
      refine Xx.bn ?_
      refine Xx.dropB ba (Xx.dropB bv ?_)
      exact Xx.rqn ⟨A2, c2, by rw [List.length_append, List.length_singleton, List.map_append, List.map_singleton]⟩ hBx (by ac_rfl)
    · rintro D xs B' H' hxs hBx hJ
      rename Nat => D1
      obtain ⟨ATa, cTa, rfl⟩ := hJ
      simp only [star_assoc]
      have hBxA := hBx
      have hxsA : xs.map (·.n) = tsTa.map (·.n) := abs_n hxs
      obtain ⟨xsA, hxsE⟩ : ∃ xsA, xsA = xs := ⟨_, rfl⟩
      rw [← hxsE]
      rw [← hxsE] at hxsA
      refine Xx.bn ?_
      refine Xx.tn (k23 _ _ _ _ ?_)
      refine Cx.seq (fun K26 k26 => ?_)
      refine Cx.seq (fun K27 k27 => ?_)
      refine Cx.region ?_
      refine Lx.y (mv rfl) rfl ?_
      refine Lx.y (mv rfl) rfl ?_
      refine Lx.y (ldA Tryz.underlying48 rfl sz48 rfl (Cells.own (n := 2) PickB.eq rfl) rfl) rfl ?_
      refine Lx.cb rfl rfl rfl (RRange_ro Uc f lo hi _ (hRu.mono (Frag.le_trans hBA hBxA))) rfl ?_
      rintro v11 BC ⟨c4, c5, c6, rfl, hc4, hc5, hc6⟩ hBC
      rw [hlxu] at hc5
      have hRu9 := hRu.mono (Frag.le_trans hBA (Frag.le_trans hBxA hBC))
      have hUc9 := hUc.mono (Frag.le_trans hB7 (Frag.le_trans hB8 (Frag.le_trans hBA (Frag.le_trans hBxA hBC))))
      refine Lx.nil ?_
      refine Xx.tn (k27 _ _ _ _ ?_)
      refine Cx.block ?_
      refine Cx.rangeG (σ := _) (Sub.cons (s := 12) rfl (Sub.nil _)) rfl rfl (Docs_it Uc xUc.tb xUc.d xUc.c (keyD f) lo hi tsUc BC hUc9 hRu9 (hRu9.2.2.2.2 xUc hxUc) htku.1 htsu htku2 (fun y hy => keyD_tail (hUc.docs y hy)) c4 c5 c6 hc4 hc5 hc6) (show _ = 1 * ((row b12 53 [.slice (some ⟨b84, 0, none⟩) 0 0] * sbuf 34 1 (some ⟨b84, 0, none⟩) 0 0 []) * (row b11 53 [.slice ATa xsA.length cTa] * (sbuf 34 1 ATa xsA.length cTa (xsA.map (fun x => u64 x.n)) * (blk D1 dfr * (row b5 48 [str lo, str hi] * R))))) by simp only [one_star]; ac_rfl) rfl (fun _ => rfl) (fun pre B' H' => ∃ A c, H' = row b12 53 [.slice A pre.length c] * sbuf 34 1 A pre.length c (pre.map (fun x => u64 x.n))) (fun _ _ _ _ => False) (fun pre x B1 ρ' B' H' => ∃ ba A c, ρ' = [(14, .pointer (some ⟨ba, 0, none⟩))] ∧ B' = B1 ∧ pre.length + 1 ≤ 60 ∧ H' = row ba 36 x.cells * (row b12 53 [.slice A pre.length c] * sbuf 34 1 A pre.length c (pre.map (fun x => u64 x.n)))) (⟨_, _, rfl⟩) ?_ ?_ ?_ ?_
      · rintro lz Nz wz pre x B0 B1 H1 F K hxs hB0 hB01 hJ hK
        obtain ⟨A9, c9, rfl⟩ := hJ
        obtain ⟨⟨post, hpo⟩, hlast⟩ := hxs
        obtain ⟨Ap9, cp9, An9, cn9, hsh⟩ := cells_shape (hlast x (by simp))
        have hpl : pre.length + 1 ≤ 60 := by have h9 := congrArg List.length hpo; simp at h9; omega
        refine Cx.region ?_
        refine Lx.new (allocO ti36) rfl (fun ba => ?_)
        refine Lx.st (stA (d := .bool) (cs' := x.cells) sz36 rfl rfl (by rw [hsh]; rfl) (by rw [hsh]; rfl) (by rw [hsh]; show 0 + 8 ≤ 8; omega) (st_all rfl (by rw [hsh]; rfl))) ?_
        refine Lx.nil ?_
        refine Xx.tn ?_
        exact Xx.perm (Xx.sub (hK _ _ (row ba 36 x.cells * (row b12 53 [.slice A9 pre.length c9] * sbuf 34 1 A9 pre.length c9 (pre.map (fun x => u64 x.n)))) ⟨ba, A9, c9, rfl, rfl, hpl, rfl⟩ (Frag.le_refl _)) (Sub.cons (s := 14) rfl (Sub.cons (s := 12) rfl (Sub.nil _)))) (by ac_rfl)
      · rintro lz Nz wz pre x B1 F ρ' B' H' hxs hB1 hBx hAS
        obtain ⟨ba, A9, c9, rfl, hBB, hpl, rfl⟩ := hAS
        have hBB2 := hBB.symm
        subst hBB2
        simp only [star_assoc]
        refine Cx.block ?_
        refine Cx.region ?_
        refine Lx.y (ld Tryz.underlying53 rfl rfl rfl) rfl ?_
        refine Lx.y (fa' fo36_0 rfl) rfl ?_
        refine Lx.y (ld Tryz.underlying34 rfl rfl rfl) rfl ?_
        refine Lx.bsl (bsl1 Tryz.underlying53 ti34 rfl rfl rfl (by decide)) rfl (fun bv => ?_)
        refine Lx.o (appN (A := A9) (pre.length + 1) [u64 x.n] (pre.map (fun x => u64 x.n) ++ [u64 x.n]) Tryz.underlying53 Tryz.underlying53 ti34 rfl rfl rfl rfl rfl (by omega) (by omega) rfl rfl) rfl (fun v B' H' hΦ hB => ?_)
        obtain ⟨A2, c2, rfl, hA2, hl2, hc2, hBB, rfl⟩ := hΦ
        have hBB2 := hBB.symm
        subst hBB2
        clear hB
        refine Lx.st (stO Tryz.underlying53 sz53 rfl rfl rfl (by simp) rfl) ?_
        refine Lx.nil ?_
        refine Xx.bn ?_
        refine Xx.dropB ba (Xx.dropB bv ?_)
        exact Xx.rqn ⟨A2, c2, by rw [List.length_append, List.length_singleton, List.map_append, List.map_singleton]⟩ hBx (by ac_rfl)
      · rintro D xs B' H' hxs hBx hJ
        rename Nat => D2
        obtain ⟨AUc, cUc, rfl⟩ := hJ
        simp only [star_assoc]
        have hxsU : xs.map (·.n) = xsA.map (·.n) := by rw [hxsA, abs_n hxs, hsame]
        have hBxB := hBx
        have hxl : xs.length = xsA.length := by have := congrArg List.length hxsU; simpa using this
        rw [hxl, u64s_n hxsU]
        have hM9 := hM.mono (Frag.le_trans hB1 (Frag.le_trans hB2 (Frag.le_trans hB7 (Frag.le_trans hB8 (Frag.le_trans hBA (Frag.le_trans hBxA (Frag.le_trans hBC hBxB)))))))
        have hld : Uc.ds.length = Ta.ds.length := by have := congrArg List.length habs7; simp at this; omega
        have hxa30 : xsA.length ≤ 60 := by have h9 := congrArg List.length hxsA; simp at h9; omega
        refine Xx.bn ?_
        refine Xx.tn (k26 _ _ _ _ ?_)
        refine Cx.seq (fun K29 k29 => ?_)
        refine Cx.seq (fun K30 k30 => ?_)
        refine Cx.region ?_
        refine Lx.cb rfl rfl rfl (awake_ct _ hM9) rfl ?_
        rintro v12 BZ rfl hBZ
        refine Lx.y (Yx.ff (not' rfl) (rfl)) rfl ?_
        refine Lx.y (mv rfl) rfl ?_
        refine Lx.gT rfl rfl rfl ?_
        refine Lx.y (ld Tryz.underlying53 rfl rfl rfl) rfl ?_
        refine Lx.gT rfl rfl rfl ?_
        refine Lx.y (lenV (ty' := 0) Tryz.underlying53 rfl) rfl ?_
        refine Lx.gT rfl rfl rfl ?_
        refine Lx.y (ld Tryz.underlying53 rfl rfl rfl) rfl ?_
        refine Lx.gT rfl rfl rfl ?_
        refine Lx.y (lenV (ty' := 0) Tryz.underlying53 rfl) rfl ?_
        refine Lx.gT rfl rfl rfl ?_
        refine Lx.y (Yx.ff (neI rfl rfl) (by simp)) rfl ?_
        refine Lx.y (pickF rfl rfl) rfl ?_
        refine Lx.y (mv rfl) rfl ?_
        refine Lx.gT rfl rfl rfl ?_
        refine Lx.y (mv rfl) rfl ?_
        refine Lx.gT rfl rfl rfl ?_
        refine Lx.cp rfl rfl rfl (RLen_ro Ta _ (hRa9.mono (Frag.le_trans hBxA (Frag.le_trans hBC (Frag.le_trans hBxB hBZ))))) rfl ?_
        refine Lx.gT rfl rfl rfl ?_
        refine Lx.y (mv rfl) rfl ?_
        refine Lx.gT rfl rfl rfl ?_
        refine Lx.cp rfl rfl rfl (RLen_ro Uc _ (hRu9.mono (Frag.le_trans hBxB hBZ))) rfl ?_
        refine Lx.gT rfl rfl rfl ?_
        refine Lx.y (Yx.ff (neI rfl rfl) (by rw [hld]; simp)) rfl ?_
        refine Lx.y (pickF rfl rfl) rfl ?_
        refine Lx.nil ?_
        refine Xx.tn (k30 _ _ _ _ ?_)
        refine Cx.condF rfl ?_
        refine Cx.skip ?_
        refine Xx.tn (k29 _ _ _ _ ?_)
        refine Cx.seq (fun K32 k32 => ?_)
        refine Cx.seq (fun K33 k33 => ?_)
        simp only [one_star]
        refine Xx.dropB b5 ?_
        refine Cx.region ?_
        refine Lx.y (asg rfl) rfl ?_
        refine Lx.nil ?_
        refine Xx.tn (k33 _ _ _ _ ?_)
        refine Cx.block ?_
        refine Cx.loopK (Sub.cons (s := 0) rfl (Sub.cons (s := 1) rfl (Sub.cons (s := 2) rfl (Sub.cons (s := 5) rfl (Sub.cons (s := 7) rfl (Sub.cons (s := 8) rfl (Sub.cons (s := 11) rfl (Sub.cons (s := 12) rfl (Sub.cons (s := 16) rfl (Sub.cons (s := 17) rfl (Sub.cons (s := 18) rfl (Sub.cons (s := 19) rfl (Sub.cons (s := 20) rfl (Sub.cons (s := 21) rfl (Sub.cons (s := 80) rfl (Sub.cons (s := 81) rfl (Sub.cons (s := 83) rfl (Sub.cons (s := 84) rfl (Sub.cons (s := 85) rfl (Sub.cons (s := 86) rfl (Sub.cons (s := 87) rfl (Sub.cons (s := 88) rfl (Sub.cons (s := 95) rfl (Sub.cons (s := 96) rfl (Sub.cons (s := 97) rfl (Sub.cons (s := 98) rfl (Sub.cons (s := 105) rfl (Sub.cons (s := 106) rfl (Sub.cons (s := 107) rfl (Sub.cons (s := 108) rfl (Sub.cons (s := 109) rfl (Sub.cons (s := 110) rfl (Sub.cons (s := 111) rfl (Sub.cons (s := 112) rfl (Sub.cons (s := 113) rfl (Sub.cons (s := 114) rfl (Sub.cons (s := 115) rfl (Sub.cons (s := 116) rfl (Sub.cons (s := 117) rfl (Sub.cons (s := 118) rfl (Sub.cons (s := 119) rfl (Sub.cons (s := 120) rfl (Sub.nil _))))))))))))))))))))))))))))))))))))))))))) (fun m ρ' B' H' => ∃ (j : Nat), (j ≤ xsA.length) ∧ m = xsA.length - j ∧ ρ' = [(15, i64 j)] ∧ BZ = B' ∧ row b11 53 [.slice ATa xsA.length cTa] * (sbuf 34 1 ATa xsA.length cTa (xsA.map (fun x => u64 x.n)) * (row b12 53 [.slice AUc xsA.length cUc] * (sbuf 34 1 AUc xsA.length cUc (xsA.map (fun x => u64 x.n)) * (blk D2 dfr * (blk D1 dfr * R))))) = H') ⟨0, Nat.zero_le _, rfl, rfl, rfl, by ac_rfl⟩ (Sub.cons (s := 15) rfl (Sub.cons (s := 0) rfl (Sub.cons (s := 1) rfl (Sub.cons (s := 2) rfl (Sub.cons (s := 5) rfl (Sub.cons (s := 7) rfl (Sub.cons (s := 8) rfl (Sub.cons (s := 11) rfl (Sub.cons (s := 12) rfl (Sub.cons (s := 16) rfl (Sub.cons (s := 17) rfl (Sub.cons (s := 18) rfl (Sub.cons (s := 19) rfl (Sub.cons (s := 20) rfl (Sub.cons (s := 21) rfl (Sub.cons (s := 80) rfl (Sub.cons (s := 81) rfl (Sub.cons (s := 83) rfl (Sub.cons (s := 84) rfl (Sub.cons (s := 85) rfl (Sub.cons (s := 86) rfl (Sub.cons (s := 87) rfl (Sub.cons (s := 88) rfl (Sub.cons (s := 95) rfl (Sub.cons (s := 96) rfl (Sub.cons (s := 97) rfl (Sub.cons (s := 98) rfl (Sub.cons (s := 105) rfl (Sub.cons (s := 106) rfl (Sub.cons (s := 107) rfl (Sub.cons (s := 108) rfl (Sub.cons (s := 109) rfl (Sub.cons (s := 110) rfl (Sub.cons (s := 111) rfl (Sub.cons (s := 112) rfl (Sub.cons (s := 113) rfl (Sub.cons (s := 114) rfl (Sub.cons (s := 115) rfl (Sub.cons (s := 116) rfl (Sub.cons (s := 117) rfl (Sub.cons (s := 118) rfl (Sub.cons (s := 119) rfl (Sub.cons (s := 120) rfl (Sub.nil _)))))))))))))))))))))))))))))))))))))))))))) ?_
        rintro m ρ' B' H' ⟨j, hj, rfl, rfl, rfl, rfl⟩
        refine Cx.seq (fun K34 k34 => ?_)
        refine Cx.seq (fun K35 k35 => ?_)
        refine Cx.region ?_
        refine Lx.y (mv rfl) rfl ?_
        refine Lx.y (ld Tryz.underlying53 rfl rfl rfl) rfl ?_
        refine Lx.y (lenV (ty' := 0) Tryz.underlying53 rfl) rfl ?_
        refine Lx.y (lss rfl rfl) rfl ?_
        refine Lx.nil ?_
        refine Xx.tn (k35 _ _ _ _ ?_)
        refine Cx.condD rfl (fun h36 => ?_) (fun h36 => ?_)
        · skip
          have hjl := h36
          have hjl : j < xsA.length := by omega
          refine Xx.addrT ATa (by omega) (fun bp hAT _ _ => ?_)
          subst hAT
          refine Xx.addrT AUc (by omega) (fun bq hAU _ _ => ?_)
          subst hAU
          refine Cx.skip ?_
          refine Xx.tn (k34 _ _ _ _ ?_)
          refine Cx.seq (fun K37 k37 => ?_)
          refine Cx.block ?_
          refine Cx.seq (fun K38 k38 => ?_)
          refine Cx.drawn (by kernel_rfl) ?_
          refine Dx.r (i := 0) rfl (by kernel_rfl) (ld Tryz.underlying53 rfl rfl rfl) rfl ?_
          refine Dx.p (i := 1) rfl (by kernel_rfl) (mv rfl) rfl ?_
          refine Dx.p (i := 2) rfl (by kernel_rfl) (ia Tryz.underlying53 sz34 rfl rfl (Int.toNat_natCast _) (by omega) (by omega)) rfl ?_
          refine Dx.r (i := 3) rfl (by kernel_rfl) (ldC Tryz.underlying34 rfl rfl (Cells.buf (b := bp) (m := 1) (show _ = [u64 xsA[j].n] from u64_at hjl) (by rw [List.length_map]; omega))) rfl ?_
          refine Dx.r (i := 4) rfl (by kernel_rfl) (ld Tryz.underlying53 rfl rfl rfl) rfl ?_
          refine Dx.p (i := 5) rfl (by kernel_rfl) (mv rfl) rfl ?_
          refine Dx.p (i := 6) rfl (by kernel_rfl) (ia Tryz.underlying53 sz34 rfl rfl (Int.toNat_natCast _) (by omega) (by omega)) rfl ?_
          refine Dx.r (i := 7) rfl (by kernel_rfl) (ldC Tryz.underlying34 rfl rfl (Cells.buf (b := bq) (m := 1) (show _ = [u64 xsA[j].n] from u64_at hjl) (by rw [List.length_map]; omega))) rfl ?_
          refine Dx.p (i := 8) rfl (by kernel_rfl) (Yx.ff (neW64 rfl rfl) (by simp)) rfl ?_
          refine Dx.done (by kernel_rfl) ?_
          refine Xx.tn (k38 _ _ _ _ ?_)
          refine Cx.condF rfl ?_
          refine Cx.skip ?_
          refine Xx.bn ?_
          refine Xx.tn (k37 _ _ _ _ ?_)
          refine Cx.region ?_
          refine Lx.y (mv rfl) rfl ?_
          refine Lx.y (Yx.val (add rfl rfl (by first | exact wrap64 (by omega) (by omega) | rfl)) (show _ = i64 ((j + 1 : Nat) : Int) from rfl)) rfl ?_
          refine Lx.y (asg rfl) rfl ?_
          refine Lx.nil ?_
          exact Xx.againK ⟨j + 1, by omega, rfl, rfl, rfl, rfl⟩ (by omega) (Sub.cons (s := 15) rfl (Sub.cons (s := 0) rfl (Sub.cons (s := 1) rfl (Sub.cons (s := 2) rfl (Sub.cons (s := 5) rfl (Sub.cons (s := 7) rfl (Sub.cons (s := 8) rfl (Sub.cons (s := 11) rfl (Sub.cons (s := 12) rfl (Sub.cons (s := 16) rfl (Sub.cons (s := 17) rfl (Sub.cons (s := 18) rfl (Sub.cons (s := 19) rfl (Sub.cons (s := 20) rfl (Sub.cons (s := 21) rfl (Sub.cons (s := 80) rfl (Sub.cons (s := 81) rfl (Sub.cons (s := 83) rfl (Sub.cons (s := 84) rfl (Sub.cons (s := 85) rfl (Sub.cons (s := 86) rfl (Sub.cons (s := 87) rfl (Sub.cons (s := 88) rfl (Sub.cons (s := 95) rfl (Sub.cons (s := 96) rfl (Sub.cons (s := 97) rfl (Sub.cons (s := 98) rfl (Sub.cons (s := 105) rfl (Sub.cons (s := 106) rfl (Sub.cons (s := 107) rfl (Sub.cons (s := 108) rfl (Sub.cons (s := 109) rfl (Sub.cons (s := 110) rfl (Sub.cons (s := 111) rfl (Sub.cons (s := 112) rfl (Sub.cons (s := 113) rfl (Sub.cons (s := 114) rfl (Sub.cons (s := 115) rfl (Sub.cons (s := 116) rfl (Sub.cons (s := 117) rfl (Sub.cons (s := 118) rfl (Sub.cons (s := 119) rfl (Sub.cons (s := 120) rfl (Sub.nil _))))))))))))))))))))))))))))))))))))))))))))
        · skip
          have hjl := h36
          refine Cx.exit ?_
          refine Xx.te ?_
          refine Xx.te ?_
          refine Xx.bh ?_
          refine Xx.tn (k32 _ _ _ _ ?_)
          refine Cx.seq (fun K39 k39 => ?_)
          refine Cx.region ?_
          refine Lx.y (asg rfl) rfl ?_
          refine Lx.nil ?_
          refine Xx.tn (k39 _ _ _ _ ?_)
          refine Cx.ret ?_
          refine Xx.perm (H' := (row b11 53 [.slice ATa xsA.length cTa] * (sbuf 34 1 ATa xsA.length cTa (xsA.map (fun x => u64 x.n)) * (row b12 53 [.slice AUc xsA.length cUc] * sbuf 34 1 AUc xsA.length cUc (xsA.map (fun x => u64 x.n))))) * (blk D2 dfr * (blk D1 dfr * R))) ?_ (by ac_rfl)
          refine Xx.drop ?_
          exact Xx.rBM (Ds := [D2, D1]) (res1 rfl rfl) rfl (Frag.le_trans hB1 (Frag.le_trans hB2 (Frag.le_trans hB7 (Frag.le_trans hB8 (Frag.le_trans hBA (Frag.le_trans hBxA (Frag.le_trans hBC (Frag.le_trans hBxB hBZ)))))))) (by simp only [marks_cons, marks_nil, star_one, one_star]; ac_rfl)
      · rintro D c pre B' H' hBx hJx
        exact hJx.elim
    · rintro D c pre B' H' hBx hJx
      exact hJx.elim
end RwK
end Go.Proofs.YtdidpocakipinaaGreatDoor

/-
  What comes in: lists of things that are told apart cell by cell; numbers.
-/
namespace Go.SL
open Go.RowKit Go.ChangeShapes Go.WideShapes Go.ChangeAt
set_option linter.unusedVariables false
set_option linter.unusedSimpArgs false
theorem flatG_len {α : Type} {enc : α → List Value} {size : Nat} (he : ∀ x, (enc x).length = size) (l : List α) : (l.flatMap enc).length = l.length * size := by
  induction l with
  | nil => simp
  | cons x l ih => rw [List.flatMap_cons, List.length_append, ih, he, List.length_cons, Nat.succ_mul]; omega
/-- the first place where p holds; -1: there is none -/
def ixF {α : Type} (p : α → Bool) (l : List α) : Int := if l.any p = true then ((l.findIdx p : Nat) : Int) else -1
section
variable {H : Type} {enc : TypeId × Value → H}
theorem weightsAll_mem {P : Program} {e : TypeId} : ∀ {l : List (DataW H)} {d : DataW H} {n : Nat}, d ∈ l → n ∈ d.weights P e → n ∈ DataW.weightsAll P e l := by
  intro l
  induction l with
  | nil => intro d n h; cases h
  | cons x l ih =>
    intro d n h hn
    simp only [DataW.weightsAll, List.mem_append]
    rcases List.mem_cons.1 h with rfl | h
    · exact .inl hn
    · exact .inr (ih h hn)
theorem add_block (a : Addr) (k : Nat) : (a.add k).block = a.block := by unfold Addr.add; split <;> rfl
theorem add_off (a : Addr) (k : Nat) : (a.add k).off = a.off + k := by unfold Addr.add; split <;> simp_all
theorem cells_row {W : World} {b0 : Nat} {a : Addr} {n : Nat} {cs : List Value} (h : W.cells? b0 a n = some cs) (hn : 0 < n) : a.spot = none ∧ ∃ l et fz, W.heap[a.block]? = some (.cells (List.toArray l) et fz) ∧ (l.drop a.off).take n = cs := by
  obtain ⟨_, hl, hc⟩ := World.cells?_some h
  have hb : ∀ k, (a.add k).block = a.block := fun k => by unfold Addr.add; split <;> rfl
  have h0 := cell_obj ((hc 0 hn).trans (List.getElem?_eq_getElem (by omega)))
  have hs : a.spot = none := by have := h0.1; simpa [Addr.add] using this
  obtain ⟨l, et, fz, hh, _⟩ := h0.2
  rw [hb] at hh
  have ho : ∀ k, (a.add k).off = a.off + k := fun k => by unfold Addr.add; split <;> simp_all
  refine ⟨hs, l, et, fz, hh, ?_⟩
  apply List.ext_getElem?
  intro k
  by_cases hk : k < n
  · rw [List.getElem?_take, if_pos hk, List.getElem?_drop]
    obtain ⟨l2, et2, fz2, hh2, hv2⟩ := (cell_obj ((hc k hk).trans (List.getElem?_eq_getElem (by omega)))).2
    rw [hb, hh] at hh2
    rw [ho] at hv2
    injection hh2 with hh2
    injection hh2 with e1
    have e2 : l = l2 := by simpa using congrArg Array.toList e1
    subst e2
    rw [hv2, List.getElem?_eq_getElem]
  · rw [List.getElem?_take, if_neg hk, List.getElem?_eq_none (by omega)]
theorem wf_i64 {n : Int} (h : (Lit.int .i64 n).wf = true) : -9223372036854775808 ≤ n ∧ n ≤ 9223372036854775807 := by
  unfold Lit.wf at h
  rw [Bool.and_eq_true] at h
  exact ⟨of_decide_eq_true h.1, of_decide_eq_true h.2⟩
theorem wf_u64 {n : Int} (h : (Lit.int .u64 n).wf = true) : 0 ≤ n ∧ n ≤ 18446744073709551615 := by
  unfold Lit.wf at h
  rw [Bool.and_eq_true] at h
  exact ⟨of_decide_eq_true h.1, of_decide_eq_true h.2⟩
theorem u64_of {n : Int} (h : (Lit.int .u64 n).wf = true) : ∃ b : BitVec 64, Value.int .u64 n = u64 b := by
  obtain ⟨h1, h2⟩ := wf_u64 h
  refine ⟨BitVec.ofNat 64 n.toNat, ?_⟩
  show _ = Value.int .u64 _
  congr 1
  rw [BitVec.toNat_ofNat]
  omega
theorem flat_of {α : Type} {en : α → List Value} {size : Nat} : ∀ (l : List α) (o : Nat) (cs : List Value), (∀ i (h : i < l.length), (cs.drop (o + i * size)).take size = en l[i]) → (cs.drop o).take (l.length * size) = l.flatMap en := by
  intro l
  induction l with
  | nil => intro o cs _; simp
  | cons x l ih =>
    intro o cs h
    have h0 := h 0 (by simp)
    rw [Nat.zero_mul, Nat.add_zero] at h0
    have h1 := ih (o + size) cs (fun i hi => by
      have := h (i + 1) (by simpa using hi)
      rw [Nat.succ_mul, Nat.add_comm (i * size), ← Nat.add_assoc] at this
      exact this)
    rw [List.length_cons, Nat.succ_mul, Nat.add_comm, List.take_add, h0, List.drop_drop, h1, List.flatMap_cons]; rfl
theorem choose_any {α : Type} {n : Nat} {Q : Nat → α → Prop} (h : ∀ i, i < n → ∃ x, Q i x) : ∃ l : List α, l.length = n ∧ ∀ i (hi : i < l.length), Q i l[i] := by
  induction n with
  | zero => exact ⟨[], rfl, fun i hi => by simp at hi⟩
  | succ n ih =>
    obtain ⟨l, hl, hall⟩ := ih (fun i hi => h i (by omega))
    obtain ⟨x, hx⟩ := h n (by omega)
    refine ⟨l ++ [x], by simp [hl], fun i hi => ?_⟩
    by_cases e : i < l.length
    · rw [List.getElem_append_left e]; exact hall i e
    · have hin : i = l.length := by simp at hi; omega
      subst hin
      rw [List.getElem_append_right (Nat.le_refl _)]
      simp only [Nat.sub_self, List.getElem_cons_zero]
      rw [hl]; exact hx
/-- A slice among the arguments, of elements that are told apart cell by cell. -/
theorem open_list {α : Type} {P : Program} {r : Reach} {b0 base' : Nat} {sp : Nat → Bool} {hd : Bool} {W : World} {t e : TypeId} {v : Value} {d : DataW H} {ps : List MemPlace} {size : Nat} (en : α → List Value) (Q : α → Prop) (he : ∀ x, (en x).length = size) (hz : 0 < size) (ht : P.underlying t = some (.slice e)) (hc : P.cellsOf e = size)
    (hval : Value.okWide P W r b0 t v) (h : DataW.Trod enc P W base' sp hd t v d ps)
    (hel : ∀ n cs y, DataW.trod enc P W base' sp hd n e cs = some y → (∀ k ∈ y.1.weights P e, k ∈ d.weights P t) → ∃ x, cs = en x ∧ Q x) :
    ∃ (A : Option Addr) (c : Nat) (l : List α), v = .slice A l.length c ∧ l.length ≤ 9223372036854775807 ∧ (0 < l.length → RoS (base W) size A l.length (l.flatMap en)) ∧ ∀ x ∈ l, Q x := by
  obtain ⟨a0, len0, cap0, rfl⟩ := okWide_slice ht hval
  obtain ⟨fuel, hf⟩ := h
  rcases DataW.trod_slice ht hf with ⟨hcs, _⟩ | ⟨a, len, cap, elems, rest, n, rfl, hcs, hx4, _, hl4, hm4, hlen4, hev, _, _⟩
  · simp [Value.cells] at hcs
    obtain ⟨rfl, rfl, rfl⟩ := hcs
    exact ⟨none, 0, [], rfl, by simp, fun h => by simp at h, fun x hx => by cases hx⟩
  · simp [Value.cells] at hcs
    obtain ⟨rfl, rfl, rfl⟩ := hcs
    have hdx : d = .slice (elems.map (·.1)) (rest.map (·.1)) := congrArg Prod.fst hx4
    have hex : ∀ i, i < len0 → ∃ x, W.cells? base' (a.add (i * size)) size = some (en x) ∧ Q x := by
      intro i hi
      have h1 := hev i hi
      rw [hc, List.getElem?_eq_getElem (by omega), Option.bind_eq_some_iff] at h1
      obtain ⟨cs', h2, h3⟩ := h1
      obtain ⟨x, rfl, hq⟩ := hel n cs' _ h3 (fun m hm => by
        rw [hdx]
        simp only [DataW.weights, ht, List.mem_cons, List.mem_append]
        exact .inr (.inl (weightsAll_mem (List.mem_map.2 ⟨_, List.getElem_mem (by omega), rfl⟩) hm)))
      exact ⟨x, h2, hq⟩
    obtain ⟨l, hl, hall⟩ := choose_any hex
    subst hl
    have hml : maxLen ≤ 9223372036854775807 := by decide
    refine ⟨some a, cap0, l, rfl, by omega, fun h0 => ?_, fun x hx => ?_⟩
    · obtain ⟨hs, cs, et, fz, hh, hd0⟩ := cells_row (hall 0 h0).1 hz
      rw [add_block] at hh
      have hsa : a.spot = none := by simpa [Addr.add] using hs
      refine ⟨flatG_len he l, .inr ⟨a.block, a.off, cs, et, fz, by rw [← hsa], hh, flat_of l a.off cs fun i hi => ?_⟩⟩
      obtain ⟨_, cs', et', fz', hh', hd'⟩ := cells_row (hall i hi).1 hz
      rw [add_block] at hh'
      rw [add_off] at hd'
      have e1 := hh.symm.trans hh'
      injection e1 with e1
      injection e1 with e1 e2 e3
      have e4 : cs = cs' := by simpa using congrArg Array.toList e1
      rw [e4]; exact hd'
    · obtain ⟨i, hi, rfl⟩ := List.getElem_of_mem hx
      exact (hall i hi).2
def s1 (s : List UInt8) : List Value := [str s]
end
end Go.SL

/-
  A list of what is done, as it comes in.
-/
namespace Go.Proofs.YtdidpocakipinaaGreatDoor
open Go.SL Go.RowKit
set_option linter.unusedVariables false
set_option linter.unusedSimpArgs false
set_option maxRecDepth 100000
open Ke1 Ke3 Ke4 Ke5 Ke6 Ke7 Ke8 Ke9 KeA KeB KeC KeD KeE KeF KeG KeI RwK
open Go.ChangeShapes Go.WideShapes Go.ChangeAt
namespace RwL


section
variable {H : Type} {enc : TypeId × Value → H}
/-- something that is done, with where its value's lists lie -/
structure Aq where
  kind : Int
  doc : BitVec 64
  v : V
  A1 : Option Addr
  c1 : Nat
  N1 : Option Addr
  d1 : Nat
  f : List UInt8
def aqv (a : Aq) : List Value := i64 a.kind :: u64 a.doc :: (vcs a.v a.A1 a.c1 a.N1 a.d1 ++ [str a.f])
def Aq.ac (a : Aq) : Ac := ⟨a.kind, a.doc, a.v, vcs a.v a.A1 a.c1 a.N1 a.d1, a.f⟩
theorem open_act0 {W : World} {b0 : Nat} {sp : Nat → Bool} {hd : Bool} {fuel : Nat} {cs : List Value} {x : DataW H × List MemPlace} (h : DataW.trod enc Tryz.prog W b0 sp hd fuel 51 cs = some x) (hw : ∀ n ∈ x.1.weights Tryz.prog 51, n ≤ reachBytes) :
    ∃ a : Aq, cs = aqv a ∧ ∃ d, ValR (base W) d a.v (vcs a.v a.A1 a.c1 a.N1 a.d1) := by
  have c3 : Tryz.prog.cellsOf 3 = 1 := by kernel_rfl
  have c34 : Tryz.prog.cellsOf 34 = 1 := by kernel_rfl
  have cV : Tryz.prog.cellsOf 25 = 6 := by kernel_rfl
  have c9 : Tryz.prog.cellsOf 9 = 1 := by kernel_rfl
  have cT : Tryz.prog.cellsOf 51 = 9 := by kernel_rfl
  obtain ⟨xs, n, rfl, rfl, hl, hlen, hf⟩ := DataW.trod_struct Tryz.underlying51 h
  rw [cT] at hl
  match cs, hl, xs, hlen with
  | [k0, k1, k2, k3, k4, k5, k6, k7, k8], _, [y0, y1, y2, y3], _ =>
    have g0 : DataW.trod enc Tryz.prog W b0 sp hd n 3 (List.take (Tryz.prog.cellsOf 3) [k0, k1, k2, k3, k4, k5, k6, k7, k8]) = some y0 := hf 0 _ rfl
    have g1 : DataW.trod enc Tryz.prog W b0 sp hd n 34 (List.take (Tryz.prog.cellsOf 34) [k1, k2, k3, k4, k5, k6, k7, k8]) = some y1 := hf 1 _ rfl
    have g2 : DataW.trod enc Tryz.prog W b0 sp hd n 25 (List.take (Tryz.prog.cellsOf 25) [k2, k3, k4, k5, k6, k7, k8]) = some y2 := hf 2 _ rfl
    have g3 : DataW.trod enc Tryz.prog W b0 sp hd n 9 (List.take (Tryz.prog.cellsOf 9) [k8]) = some y3 := hf 3 _ rfl
    rw [c3] at g0
    rw [c34] at g1
    rw [cV] at g2
    rw [c9] at g3
    have hwe : ∀ (j : Nat) (t : TypeId) (d : DataW H), [3, 34, 25, 9][j]? = some t → [y0.1, y1.1, y2.1, y3.1][j]? = some d → ∀ m ∈ d.weights Tryz.prog t, m ≤ reachBytes := fun j t d ht hd' m hm => hw m (by
      have : (DataW.agg (List.map (·.1) [y0, y1, y2, y3])).weights Tryz.prog 51 = DataW.weightsEach Tryz.prog [3, 34, 25, 9] [y0.1, y1.1, y2.1, y3.1] := by
        simp [DataW.weights, Tryz.underlying51]
      rw [this]
      exact DataW.weights_mem_each ht hd' m hm)
    obtain ⟨m0, q0, _, _⟩ := DataW.trod_int Tryz.underlying3 g0
    obtain ⟨m1, q1, _, w1⟩ := DataW.trod_int Tryz.underlying34 g1
    obtain ⟨m3, q3, _, _⟩ := DataW.trod_string Tryz.underlying9 g3
    obtain ⟨v, hv⟩ := open_val0 n _ _ g2 (hwe 2 25 _ rfl rfl)
    obtain ⟨Ap, cp, An, cn, hsh⟩ := ValR.shape hv
    obtain ⟨x1, hx1⟩ := SL.u64_of w1
    injection q0 with q0 _
    injection q1 with q1 _
    injection q3 with q3 _
    subst q0 q1 q3
    refine ⟨⟨m0, x1, v, Ap, cp, An, cn, m3.data.toList⟩, ?_, n, ?_⟩
    · have hsh' : [k2, k3, k4, k5, k6, k7] = vcs v Ap cp An cn := hsh
      unfold aqv
      rw [← hsh', ← hx1]; rfl
    · have hsh' : [k2, k3, k4, k5, k6, k7] = vcs v Ap cp An cn := hsh
      rw [← hsh']; exact hv
theorem aq_flat (l : List Aq) : (l.map Aq.ac).flatMap acv = l.flatMap aqv := by
  induction l with
  | nil => rfl
  | cons a l ih => rw [List.map_cons, List.flatMap_cons, List.flatMap_cons, ih]; rfl
theorem open_acts {r : Reach} {b0 base' : Nat} {sp : Nat → Bool} {hd : Bool} {W : World} {v : Value} {d : DataW H} {ps : List MemPlace} (hval : Value.okWide Tryz.prog W r b0 46 v) (h : DataW.Trod enc Tryz.prog W base' sp hd 46 v d ps) (hw : ∀ n ∈ d.weights Tryz.prog 46, n ≤ reachBytes) :
    ∃ (A : Option Addr) (c : Nat) (l : List Ac), v = .slice A l.length c ∧ l.length ≤ 9223372036854775807 ∧ (0 < l.length → RoS (base W) 9 A l.length (l.flatMap acv)) ∧ ∀ a ∈ l, AcOk (base W) a := by
  obtain ⟨A, c, l, h1, h2, h3, h4⟩ := open_list (size := 9) aqv (fun a => ∃ d, ValR (base W) d a.v (vcs a.v a.A1 a.c1 a.N1 a.d1)) (fun x => rfl) (by decide) Tryz.underlying46 (by kernel_rfl) hval h fun n cs y hy hk => by
    obtain ⟨a, ha, hd⟩ := open_act0 hy (fun m hm => hw m (hk m hm))
    exact ⟨a, ha, hd⟩
  refine ⟨A, c, l.map Aq.ac, by rw [h1, List.length_map], by rw [List.length_map]; exact h2, fun h0 => ?_, fun a ha => ?_⟩
  · rw [List.length_map] at h0 ⊢
    rw [aq_flat]; exact h3 h0
  · obtain ⟨x, hx, rfl⟩ := List.mem_map.1 ha
    exact ⟨rfl, h4 x hx⟩
end
end RwL
end Go.Proofs.YtdidpocakipinaaGreatDoor

/-
  RowsLater: whatever the input, the law answers true, and the input reads as it did.
-/
namespace Go.Proofs.YtdidpocakipinaaGreatDoor.RowsLaterLaw
open Go.ChangeShapes Go.WideShapes Go.ChangeAt Go.RowKit Go.SL
open Ke6 KeI RwK RwL
open Go.ChangeMaps (open_string shut_string)

theorem own : ownKnob Tryz.prog.godebug = none := by kernel_rfl
theorem laidOut : laidOutB Tryz.prog = true := by kernel_rfl

set_option maxRecDepth 100000 in
theorem contract (H : Type) (enc : TypeId × Value → H) (W : World) (base : Nat) (args : Array Value) (ds gs : List (DataW H)) (before : List MemPlace)
    (hval : ∀ (j : Nat) t v, Tryz.f4.params[j]? = some t → args[j]? = some v → Value.okWide Tryz.prog W .any base t v)
    (hW : DataW.Whole enc Tryz.prog Tryz.f4.params.toList Rows.rowsLaterSpec.vars false W args.toList ds gs before) (ts : List TypeId) (hwt : (DataW.weightsEach Tryz.prog (Tryz.f4.params.toList ++ ts) (ds ++ gs)).all (· ≤ reachBytes) = true) (hsh : W.ShapedOpen Tryz.prog) :
    Calls Tryz.prog 4 args W fun e W' => ∃ v, e = .returned v ∧ Rows.rowsLaterSpec.post enc Tryz.prog Tryz.f4 false true false false W args v W' := by
  have hW' := hW
  obtain ⟨p, q, hA0, hV, rfl, hfz, hnd⟩ := hW
  have hA : DataW.TrodAll enc Tryz.prog W 0 (fun _ => true) true Tryz.f4.params.toList args.toList ds p := hA0
  rw [Tryz.params4] at hA hval
  obtain ⟨v0, vs0, d0, ds0, p0, q0, hargs, rfl, rfl, h0, r0⟩ := trodAll_cons hA
  obtain ⟨v1, vs1, d1, ds1, p1, q1, rfl, rfl, rfl, h1, r1⟩ := trodAll_cons r0
  obtain ⟨v2, vs2, d2, ds2, p2, q2, rfl, rfl, rfl, h2, r2⟩ := trodAll_cons r1
  obtain ⟨rfl, rfl, rfl⟩ := trodAll_nil r2
  obtain rfl : args = #[v0, v1, v2] := by cases args; simp_all
  obtain ⟨A0, c0, l0, rfl, hm0, ro0, hv0⟩ := open_acts (hval 0 46 v0 rfl rfl) h0 (weights_at hwt (j := 0) rfl rfl)
  obtain ⟨a1, rfl, rfl, rfl, m1⟩ := open_string Tryz.underlying9 (hval 1 9 v1 rfl rfl) h1
  obtain ⟨a2, b2, rfl, m2, mb2⟩ := open_sp Tryz.underlying48 Tryz.underlying9 Tryz.underlying9 (by kernel_rfl) (by kernel_rfl) rfl rfl (by kernel_rfl) (hval 2 48 v2 rfl rfl) h2
  obtain ⟨rfl, rfl⟩ := trodVars_none hV
  refine (law_calls (args := [.slice A0 l0.length c0, str a1.data.toList, .agg [str a2, str b2].toArray]) (RwK.RowsLater_ct l0 A0 c0 a1.data.toList a2 b2 _ (maxLen_in hsh) hm0 ro0 hv0)).mono fun e W' ⟨he, hb⟩ => ?_
  exact ⟨_, he, law_post laidOut (by kernel_rfl) (by kernel_rfl) Tryz.underlying4 rfl hW' rfl hb⟩

def ranges : List Nat := [128, 191, 160, 191, 128, 159, 144, 191, 128, 143, 0, 0, 0, 0, 0, 0, 0, 0, 0, 0, 0, 0, 0, 0, 0, 0, 0, 0, 0, 0, 0, 0]
def u8cells (l : List Nat) : Array Value := (l.map fun n => Value.int .u8 ((n : Nat) : Int)).toArray
def putc (cs : Array Value) : Obj → Obj
  | .cells _ t frozen => .cells cs t frozen
  | o => o
/-- A world for the witness: the settled one, both tables laid. -/
noncomputable def laidWorld (os : Os) : World :=
  { World.holding Tryz.prog os ⟨#[], #[], []⟩ with heap := ((World.holding Tryz.prog os ⟨#[], #[], []⟩).heap.modify 1 (putc (u8cells Go.Pinned.utf8FirstZ))).modify 2 (putc (u8cells ranges)) }
theorem laid_met (os : Os) : laidMet Tryz.prog Rows.rowsLaterRow.laid ((laidWorld os).forCall (fun _ _ => 0) ⟨#[], #[.slice none 0 0, .string ⟨#[]⟩, .agg #[.string ⟨#[]⟩, .string ⟨#[]⟩]], []⟩).memory :=
  laidMet_of_run' 8 (by kernel_rfl) (by kernel_rfl)
theorem reads (os : Os) {H : Type} (enc : TypeId × Value → H) : ∃ places, DataW.whole enc Tryz.prog ((laidWorld os).forCall (fun _ _ => 0) ⟨#[], #[.slice none 0 0, .string ⟨#[]⟩, .agg #[.string ⟨#[]⟩, .string ⟨#[]⟩]], []⟩).memory Tryz.f4.params.toList Rows.rowsLaterSpec.vars false #[.slice none 0 0, .string ⟨#[]⟩, .agg #[.string ⟨#[]⟩, .string ⟨#[]⟩]].toList 8 = some ([.nil, .lit (.string []), .agg [.lit (.string []), .lit (.string [])]], [], places) :=
  ⟨[], by kernel_rfl⟩

set_option maxRecDepth 100000 in
theorem lifted (os : Os) (started : os.Started) (H : Type) (enc : TypeId × Value → H) (F : Stop.Interp) :
    ReturnsInHanded {} Tryz.checked os 4 .any ((OpenSpec.ofChange Rows.rowsLaterSpec).preRow enc Tryz.prog Tryz.f4 Rows.rowsLaterRow.domain false Rows.rowsLaterRow.laid) (((OpenSpec.ofChange Rows.rowsLaterSpec).at F).post enc Tryz.prog Tryz.f4 false true false false) := by
  obtain ⟨places, hx⟩ := reads os enc
  refine returnsInHanded_of_row (C := Tryz.checked) (s := OpenSpec.ofChange Rows.rowsLaterSpec) own started (by kernel_rfl) Tryz.func4
    (witness_row_at (enc := enc) (C := Tryz.checked) false (laidWorld os) #[.slice none 0 0, .string ⟨#[]⟩, .agg #[.string ⟨#[]⟩, .string ⟨#[]⟩]] rfl (by kernel_rfl) (by kernel_rfl) (by kernel_rfl)
      (OpenSpec.preRow_of_cond 8 hx (by kernel_rfl) (fun k hk => by cases hk) (by kernel_rfl) (laid_met os))) ?_
  intro W base args ds gs before hval hW _ _ hwt hL hsh _
  exact contract H enc W base args ds gs before hval hW _ hwt hsh

theorem bare : Rows.RowsLaterSaid :=
  OpenClaim.holds_of_cond 4 Tryz.f4 rfl rfl rfl rfl rfl rfl rfl ⟨rfl, rfl, rfl, rfl, rfl⟩ rfl rfl rfl rfl rfl (by kernel_rfl) Tryz.func4 (by kernel_rfl)
    (of_decide_eq_true (by kernel_rfl)) (by unfold Func.isWrapper; first | (rw [if_pos (by decide +kernel)]; kernel_rfl) | (rw [if_neg (by decide +kernel)]; exact ⟨rfl, rfl⟩))
    (fun os started H enc _ F => by rw [OpenClaim.pre_eq_preRow]; exact lifted os started H enc F)

/-- No parameter wants a stand-in; the program's own looks are off. -/
theorem plain (f : FuncId) (fn : Func) (hf : Tryz.pinned.checked.prog.funcNamed "parchment/parchmentlaw14.RowsLater" = some f) (hfn : Tryz.pinned.checked.prog.funcs[f]? = some fn) :
    false = Tryz.pinned.checked.prog.looks [] ∧ ∀ (j : Nat) t, fn.params[j]? = some t → Tryz.pinned.checked.prog.wantsStandIn t = false := by
  obtain rfl : f = 4 := Option.some.inj ((show Tryz.prog.funcNamed "parchment/parchmentlaw14.RowsLater" = some 4 by kernel_rfl).symm.trans hf) |>.symm
  obtain rfl : fn = Tryz.f4 := (Option.some.inj (Tryz.func4.symm.trans hfn)).symm
  refine ⟨by kernel_rfl, fun j t ht => ?_⟩
  rw [Tryz.params4] at ht
  have hm := Array.mem_of_getElem? ht
  simp only [List.mem_toArray, List.mem_cons, List.not_mem_nil, or_false] at hm
  rcases hm with rfl | rfl | rfl
  all_goals exact (show Tryz.prog.wantsStandIn _ = false by kernel_rfl)

theorem said : Rows.RowsLaterCardSaid :=
  Claim7.holds_tied_plain_at .later [] _ _ _ _ bare (fun _ h => by cases h) (by kernel_rfl) (fun _ h => by cases h) rowsLater_row_tie rfl ⟨rfl, rfl⟩ (by kernel_rfl) rfl plain (by kernel_rfl)
end Go.Proofs.YtdidpocakipinaaGreatDoor.RowsLaterLaw
#print axioms Go.Proofs.YtdidpocakipinaaGreatDoor.RowsLaterLaw.said
