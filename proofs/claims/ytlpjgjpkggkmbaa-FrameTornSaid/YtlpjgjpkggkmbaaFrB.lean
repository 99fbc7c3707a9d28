/-
  The walk of the law of torn frames.
-/
import Derived.Test.YtlpjgjpkggkmbaaProg
import Derived.Test.YtlpjgjpkggkmbaaSlj
import Derived.Test.YtlpjgjpkggkmbaaFrA
import Derived.Test.YtlpjgjpkggkmbaaSlk
namespace Go.Proofs.Ytlpjgjpkggkmbaa
open Go.SL Go.RowKit
set_option linter.unusedVariables false
set_option linter.unusedSimpArgs false
set_option maxRecDepth 100000
open Fr1 Fr2 Fr3 Fr4 Fr5 Fr6 Fr7 Fr8 FrA
namespace FrB
theorem sz3 : (Try.prog.info? 3).map (·.size) = some 1 := by kernel_rfl
theorem sz9 : (Try.prog.info? 9).map (·.size) = some 1 := by kernel_rfl
theorem sz43 : (Try.prog.info? 43).map (·.size) = some 3 := by kernel_rfl
theorem ti3 : TI Try.prog 3 [.int .i64 0] 1 8 := TI.of (by kernel_rfl) rfl rfl
theorem ti5 : TI Try.prog 5 [.int .u8 0] 1 1 := TI.of (by kernel_rfl) rfl rfl
theorem fo43_2 : FO Try.prog 43 2 2 1 false := FO.of Try.underlying43 rfl rfl (by kernel_rfl) Try.underlying4 rfl rfl

theorem get_map {xs : List (List UInt8)} {i : Nat} (h : i < xs.length) : (xs.map str)[i]? = some (str (xs.getD i [])) := by
  simp [List.getD, h]
def ends (fs : List (List UInt8)) : List Value := (List.range fs.length).map fun i => i64 ((cat ((fs.take (i + 1)).map fr)).length : Nat)
theorem ends_snoc (fs : List (List UInt8)) (x : List UInt8) : ends (fs ++ [x]) = ends fs ++ [i64 ((cat (fs.map fr)).length + (fr x).tx.length : Nat)] := by
  unfold ends
  rw [List.length_append, List.length_singleton, List.range_succ, List.map_append]
  congr 1
  · apply List.map_congr_left
    intro i hi
    have : i < fs.length := List.mem_range.1 hi
    rw [List.take_append_of_le_length (by omega)]
  · simp only [List.map_cons, List.map_nil]
    rw [List.take_of_length_le (by simp), List.map_append, cat_app]
    simp
theorem ends_get {fs : List (List UInt8)} {w : Nat} (h : w < fs.length) : (ends fs)[w]? = some (i64 ((cat ((fs.take (w + 1)).map fr)).length : Nat)) := by
  unfold ends
  simp [h]
theorem tm1 (d : Int) (L : Nat) (h : 0 < L) : ∃ t : Int, d.tmod (L : Nat) = t ∧ -(L : Int) < t ∧ t < L :=
  ⟨_, rfl, Int.lt_tmod_of_pos _ (by omega), Int.tmod_lt_of_pos _ (by omega)⟩
theorem tm2 (e : Int) (L : Nat) (h : 0 < L) (he : 0 ≤ e) : ∃ N : Nat, e.tmod (L : Nat) = ((N : Nat) : Int) ∧ N < L := by
  obtain ⟨t, h1, h2, h3⟩ := tm1 e L h
  have h4 : 0 ≤ t := by rw [← h1]; exact Int.tmod_nonneg _ he
  exact ⟨t.toNat, by rw [h1]; omega, by omega⟩
theorem RefFr_ct (l : List UInt8) (B : Frag) (hl : l.length ≤ 300) : CtP Try.prog 12 [str l] B (str (fr l).tx) := by
  have := RefFrame_ct l B (by omega)
  rw [refFrame_eq] at this
  exact this
theorem cat_take_len {fs : List (List UInt8)} (w : Nat) : (cat ((fs.take w).map fr)).length ≤ (cat (fs.map fr)).length := by
  conv => rhs; rw [← List.take_append_drop w fs, List.map_append, cat_app, List.length_append]
  omega
theorem Torn1_ct {fs : List (List UInt8)} (h : ∀ x ∈ fs, x.length ≤ 300) {w N : Nat} (hw : w ≤ fs.length) (h1 : (cat ((fs.take w).map fr)).length ≤ N)
    (h2 : w < fs.length → N < (cat ((fs.take (w + 1)).map fr)).length) (hN : N ≤ (cat (fs.map fr)).length) (hL : (cat (fs.map fr)).length ≤ 2600) (B : Frag) :
    CtB Try.prog 15 [str ((cat (fs.map fr)).take N)] B (fun v _ => ∃ A c, v = .tuple #[.slice A w c, i64 ((cat ((fs.take w).map fr)).length : Nat)]) :=
  (Scan_ct _ B (by simp; omega)).mono fun v B' ⟨A, c, e, _, _⟩ => by
    have hx : ∀ x ∈ fs, x.length ≤ 65536 := fun x hx => Nat.le_trans (h x hx) (by decide)
    rw [torn1 hx hw h1 h2 hN, fms_len, List.length_map, List.length_take, Nat.min_eq_left hw] at e
    refine ⟨A, c, ?_⟩
    rw [e]
    congr 4
    by_cases h0 : fs.take w = []
    · rw [h0]; rfl
    · rw [fms_end (fun c hc => by obtain ⟨x, hx', rfl⟩ := List.mem_map.1 hc; exact fr_ok (hx x (List.mem_of_mem_take hx'))) (by simpa using h0)]
      simp
theorem Torn2_ct {fs : List (List UInt8)} {k : Nat} {b : UInt8} (hL : (cat (fs.map fr)).length ≤ 2600) (hk : k < (cat (fs.map fr)).length) (B : Frag) :
    CtB Try.prog 15 [str (((cat (fs.map fr)).take k ++ [b]) ++ (cat (fs.map fr)).drop (k + 1))] B (fun v B' => ∃ A c, v = .tuple #[.slice A (scanL (fl (cat (fs.map fr)) k b)).length c, i64 (endL (scanL (fl (cat (fs.map fr)) k b)))] ∧ RoS B' 3 A (scanL (fl (cat (fs.map fr)) k b)).length (flatF (scanL (fl (cat (fs.map fr)) k b)))) := by
  have e : ((cat (fs.map fr)).take k ++ [b]) ++ (cat (fs.map fr)).drop (k + 1) = fl (cat (fs.map fr)) k b := by unfold fl; simp
  rw [e]
  exact (Scan_ct _ B (by rw [fl_len hk]; omega)).mono fun v B' ⟨A, c, e, h, _⟩ => ⟨A, c, e, h⟩
def turn1 (b : UInt8) : UInt8 := toB (((BitVec.ofInt 8 (b.toNat : Nat) ^^^ BitVec.ofInt 8 1).toNat : Nat) : Int)
theorem turn1_ne (b : UInt8) : turn1 b ≠ b := by
  intro e
  have h1 := congrArg UInt8.toNat e
  unfold turn1 at h1
  rw [toB_nat] at h1
  have hb := b.toNat_lt
  have hx := (BitVec.ofInt 8 (b.toNat : Nat) ^^^ BitVec.ofInt 8 1).isLt
  have h2 : (BitVec.ofInt 8 (b.toNat : Nat) ^^^ BitVec.ofInt 8 1) = BitVec.ofInt 8 (b.toNat : Nat) := by
    apply BitVec.eq_of_toNat_eq
    rw [show (BitVec.ofInt 8 ((b.toNat : Nat) : Int)).toNat = b.toNat by simp]
    omega
  have h3 := congrArg (BitVec.ofInt 8 (b.toNat : Nat) ^^^ ·) h2
  simp only [← BitVec.xor_assoc, BitVec.xor_self, BitVec.zero_xor] at h3
  exact absurd h3 (by decide)
theorem flat_get {ys : List Fm} {i : Nat} (h : i < ys.length) : (flatF ys)[i * 3 + 2]? = some (.bool (ys[i]).good) := by
  have e : flatF ys = flatF (ys.take i) ++ ([i64 ys[i].pos, str ys[i].body, .bool ys[i].good] ++ flatF (ys.drop (i + 1))) := by
    conv => lhs; rw [← List.take_append_drop i ys, List.drop_eq_getElem_cons h]
    unfold flatF
    rw [List.flatMap_append, List.flatMap_cons]
  have hl := flatF_len (ys.take i)
  rw [List.length_take, Nat.min_eq_left (by omega)] at hl
  rw [e, List.getElem?_append_right (by omega), hl]
  simp
def gds (ys : List Fm) (i : Nat) : Nat := ((ys.take i).filter (·.good)).length
theorem gds_succ {ys : List Fm} {i : Nat} (h : i < ys.length) : gds ys (i + 1) = gds ys i + if (ys[i]).good = true then 1 else 0 := by
  unfold gds
  rw [List.take_succ_eq_append_getElem h, List.filter_append, List.length_append]
  congr 1
  cases hg : (ys[i]).good <;> simp [hg]
theorem gds_le (ys : List Fm) (i : Nat) : gds ys i ≤ ys.length := by
  unfold gds
  have := List.length_filter_le (fun f : Fm => f.good) (ys.take i)
  simp at this ⊢; omega

set_option maxHeartbeats 1000000 in
theorem FrameTorn_ct (A : Option Addr) (n c : Nat) (xs : List (List UInt8)) (d1 d2 : Int) (B : Frag) (hro : RoE B A n (xs.map str)) : CtB Try.prog 5 [.slice A n c, i64 d1, i64 d2] B (fun v _ => v = .bool true) := by
  have hnx : xs.length = n := by simpa using hro.1
  refine CtB.of_body Try.func5 rfl (nt := 158) rfl (by kernel_rfl) rfl ?_
  intro N0 w0 R
  refine Cx.seq (fun K1 k1 => ?_)
  refine Cx.region ?_
  refine Lx.y (asg rfl) rfl ?_
  refine Lx.nil ?_
  refine Xx.tn (k1 _ _ _ _ ?_)
  refine Cx.seq (fun K2 k2 => ?_)
  refine Cx.region ?_
  refine Lx.bsl (bsl1 Try.underlying46 ti3 rfl rfl rfl (by decide)) rfl (fun be => ?_)
  refine Lx.y (asg rfl) rfl ?_
  refine Lx.y (asg rfl) rfl ?_
  refine Xx.toS be 1 0 0 rfl (by omega) rfl ?_
  refine Lx.nil ?_
  refine Xx.tn (k2 _ _ _ _ ?_)
  refine Cx.cutK (ds' := []) (Sub.cons (s := 0) rfl (Sub.cons (s := 1) rfl (Sub.cons (s := 2) rfl (Sub.cons (s := 6) rfl (Sub.cons (s := 19) rfl (Sub.nil _)))))) (fun ρ' B' H' => ∃ (fs : List (List UInt8)) (A2 : Option Addr) (c2 : Nat), (∀ x ∈ fs, x.length ≤ 300) ∧ fs.length ≤ 8 ∧ (cat (fs.map fr)).length ≤ 2600 ∧ ρ' = [(7, str (cat (fs.map fr))), (8, .slice A2 fs.length c2)] ∧ B.le B' ∧ RoS B' 1 A2 fs.length (ends fs) ∧ R = H') ?_ ?_
  · skip
    refine Cx.seq (fun K3 k3 => ?_)
    refine Cx.region ?_
    refine Lx.y (asg rfl) rfl ?_
    refine Lx.nil ?_
    refine Xx.tn (k3 _ _ _ _ ?_)
    refine Cx.block ?_
    refine Cx.loopK (Sub.cons (s := 0) rfl (Sub.cons (s := 1) rfl (Sub.cons (s := 2) rfl (Sub.cons (s := 6) rfl (Sub.cons (s := 19) rfl (Sub.nil _)))))) (fun m ρ' B' H' => ∃ (i : Nat) (fs : List (List UInt8)) (A2 : Option Addr) (c2 : Nat), (i ≤ n ∧ i ≤ 8 ∧ (∀ x ∈ fs, x.length ≤ 300) ∧ (cat (fs.map fr)).length ≤ 312 * i ∧ fs.length = i) ∧ m = 8 - i ∧ ρ' = [(7, str (cat (fs.map fr))), (8, .slice A2 fs.length c2), (9, i64 i)] ∧ B = B' ∧ sbuf 3 1 A2 fs.length c2 (ends fs) * R = H') ⟨0, [], _, _, ⟨by omega, by omega, fun _ h => (by cases h), by simp, rfl⟩, rfl, rfl, rfl, rfl⟩ (Sub.cons (s := 7) rfl (Sub.cons (s := 8) rfl (Sub.cons (s := 9) rfl (Sub.cons (s := 0) rfl (Sub.cons (s := 1) rfl (Sub.cons (s := 2) rfl (Sub.cons (s := 6) rfl (Sub.cons (s := 19) rfl (Sub.nil _))))))))) ?_
    rintro m ρ' B' H' ⟨i, fs, A2, c2, ⟨hi, hi8, hf3, hfl0, hfi⟩, rfl, rfl, rfl, rfl⟩
    refine Cx.seq (fun K4 k4 => ?_)
    refine Cx.seq (fun K5 k5 => ?_)
    refine Cx.region ?_
    refine Lx.y (mv rfl) rfl ?_
    refine Lx.y (mv rfl) rfl ?_
    refine Lx.y (lenV (ty' := 0) Try.underlying27 rfl) rfl ?_
    refine Lx.y (lss rfl rfl) rfl ?_
    refine Lx.y (mv rfl) rfl ?_
    refine Xx.ifD (t := 24) rfl (fun h6 => ?_) (fun h6 => ?_)
    · skip
      refine Lx.gT rfl rfl rfl ?_
      refine Lx.y (mv rfl) rfl ?_
      refine Lx.gT rfl rfl rfl ?_
      refine Lx.y (lss rfl rfl) rfl ?_
      refine Lx.y (pickT rfl rfl) rfl ?_
      refine Lx.nil ?_
      refine Xx.tn (k5 _ _ _ _ ?_)
      refine Cx.condD rfl (fun h7 => ?_) (fun h7 => ?_)
      · skip
        refine Cx.skip ?_
        refine Xx.tn (k4 _ _ _ _ ?_)
        refine Cx.seq (fun K8 k8 => ?_)
        refine Cx.block ?_
        refine Cx.seq (fun K9 k9 => ?_)
        obtain ⟨bq, oq, cq, eq, fq, rfl, hBq, hcq⟩ := hro.at1 (k := i) (by omega)
        rw [get_map (by omega)] at hcq
        generalize hg : xs.getD i [] = x0 at hcq
        have hfl := fewL_len x0
        have hml : (fr (fewL x0)).tx.length = 12 + (fewL x0).length := by simp [fr]
        refine Cx.region ?_
        refine Lx.y (mv rfl) rfl ?_
        refine Lx.y (mv rfl) rfl ?_
        refine Lx.y (mv rfl) rfl ?_
        refine Lx.y (ia Try.underlying27 sz9 rfl rfl (by first | exact Int.toNat_natCast _ | rfl) (by omega) (by omega)) rfl ?_
        refine Lx.y (ldB Try.underlying9 rfl rfl hBq hcq) rfl ?_
        refine Lx.cp rfl rfl rfl (few_ct _ _) rfl ?_
        refine Lx.cp rfl rfl rfl (RefFr_ct _ _ (fewL_len _)) rfl ?_
        refine Lx.y (catS rfl rfl (by first | omega | (simp <;> omega))) rfl ?_
        refine Lx.y (asg rfl) rfl ?_
        refine Lx.nil ?_
        refine Xx.tn (k9 _ _ _ _ ?_)
        refine Cx.region ?_
        refine Lx.y (mv rfl) rfl ?_
        refine Lx.y (mv rfl) rfl ?_
        refine Lx.y (lenS Try.underlying9 rfl) rfl ?_
        refine Lx.bsl (bsl1 Try.underlying46 ti3 rfl rfl rfl (by decide)) rfl (fun b41 => ?_)
        refine Lx.o (appR Try.underlying46 Try.underlying46 ti3 rfl rfl rfl rfl rfl (by omega) (by omega)) rfl (fun v B' H' hΦ hB => ?_)
        obtain ⟨A3, c3, rfl, hA3, hl3, hc3, rfl, rfl⟩ := hΦ
        refine Lx.y (asg rfl) rfl ?_
        refine Lx.nil ?_
        refine Xx.bn ?_
        refine Xx.tn (k8 _ _ _ _ ?_)
        refine Cx.region ?_
        refine Lx.y (mv rfl) rfl ?_
        refine Lx.y (add rfl rfl (by first | exact wrap64 (by omega) (by omega) | rfl)) rfl ?_
        refine Lx.y (asg rfl) rfl ?_
        refine Lx.nil ?_
        refine Xx.dropB b41 ?_
        refine Xx.perm (H' := sbuf 3 1 A3 (fs ++ [fewL x0]).length c3 (ends (fs ++ [fewL x0])) * R) ?_ (by rw [ends_snoc, List.length_append]; simp)
        exact Xx.againK ⟨i + 1, fs ++ [fewL x0], A3, c3, ⟨by omega, by omega, (fun x hx => by rcases List.mem_append.1 hx with h | h; exact hf3 x h; rw [List.mem_singleton.1 h]; exact hfl), (by simp only [List.map_append, cat_app, List.length_append, List.map_cons, List.map_nil, cat_cons, cat_nil, List.append_nil]; omega), (by simp [hfi])⟩, rfl, rfl, rfl, rfl⟩ (by omega) (Sub.consE (s := 7) rfl (by simp) (Sub.consE (s := 8) rfl (by simp) (Sub.cons (s := 9) rfl (Sub.cons (s := 0) rfl (Sub.cons (s := 1) rfl (Sub.cons (s := 2) rfl (Sub.cons (s := 6) rfl (Sub.cons (s := 19) rfl (Sub.nil _)))))))))
      · skip
        refine Cx.exit ?_
        refine Xx.te ?_
        refine Xx.te ?_
        refine Xx.bh ?_
        refine Xx.freezeT A2 fun B2 hB2 hR2 hn2 _ => ?_
        exact Xx.mkK (⟨fs, A2, c2, hf3, by omega, by omega, rfl, hB2, hR2, rfl⟩) (Sub.cons (s := 7) rfl (Sub.cons (s := 8) rfl (Sub.cons (s := 0) rfl (Sub.cons (s := 1) rfl (Sub.cons (s := 2) rfl (Sub.cons (s := 6) rfl (Sub.cons (s := 19) rfl (Sub.nil _))))))))
    · skip
      refine Lx.gF rfl rfl rfl rfl ?_
      refine Lx.gF rfl rfl rfl rfl ?_
      refine Lx.y (pickF rfl rfl) rfl ?_
      refine Lx.nil ?_
      refine Xx.tn (k5 _ _ _ _ ?_)
      refine Cx.condF rfl ?_
      refine Cx.exit ?_
      refine Xx.te ?_
      refine Xx.te ?_
      refine Xx.bh ?_
      refine Xx.freezeT A2 fun B2 hB2 hR2 hn2 _ => ?_
      exact Xx.mkK (⟨fs, A2, c2, hf3, by omega, by omega, rfl, hB2, hR2, rfl⟩) (Sub.cons (s := 7) rfl (Sub.cons (s := 8) rfl (Sub.cons (s := 0) rfl (Sub.cons (s := 1) rfl (Sub.cons (s := 2) rfl (Sub.cons (s := 6) rfl (Sub.cons (s := 19) rfl (Sub.nil _))))))))
  · rintro ρ' B' H' ⟨fs, A2, c2, hf3, hf8, hL, rfl, hBc, hR, rfl⟩
    obtain ⟨Bc, hren⟩ : ∃ Bz, Bz = B' := ⟨_, rfl⟩
    subst hren
    refine Cx.seq (fun K10 k10 => ?_)
    refine Cx.region ?_
    refine Lx.y (asg rfl) rfl ?_
    refine Lx.nil ?_
    refine Xx.tn (k10 _ _ _ _ ?_)
    refine Cx.cutK (ds' := []) (Sub.cons (s := 0) rfl (Sub.cons (s := 1) rfl (Sub.cons (s := 2) rfl (Sub.cons (s := 6) rfl (Sub.cons (s := 7) rfl (Sub.cons (s := 8) rfl (Sub.cons (s := 19) rfl (Sub.nil _)))))))) (fun ρ' B' H' => ∃ N : Nat, N ≤ (cat (fs.map fr)).length ∧ ρ' = [(10, i64 N)] ∧ Bc = B' ∧ R = H') ?_ ?_
    · skip
      refine Cx.seq (fun K11 k11 => ?_)
      refine Cx.region ?_
      refine Lx.y (mv rfl) rfl ?_
      refine Lx.y (lenS Try.underlying9 rfl) rfl ?_
      refine Lx.y (gtr rfl rfl) rfl ?_
      refine Lx.nil ?_
      refine Xx.tn (k11 _ _ _ _ ?_)
      refine Cx.condD rfl (fun h12 => ?_) (fun h12 => ?_)
      · skip
        obtain ⟨t, ht, ht1, ht2⟩ := tm1 d1 ((cat (fs.map fr)).length + 1) (by omega)
        obtain ⟨N, hN, hN2⟩ := tm2 (t + ((cat (fs.map fr)).length : Nat) + 1) ((cat (fs.map fr)).length + 1) (by omega) (by omega)
        refine Cx.region ?_
        refine Lx.y (mv rfl) rfl ?_
        refine Lx.y (mv rfl) rfl ?_
        refine Lx.y (lenS Try.underlying9 rfl) rfl ?_
        refine Lx.y (add rfl rfl (by first | exact wrap64 (by omega) (by omega) | rfl)) rfl ?_
        refine Lx.y (rem rfl rfl (by omega) ht) rfl ?_
        refine Lx.y (mv rfl) rfl ?_
        refine Lx.y (lenS Try.underlying9 rfl) rfl ?_
        refine Lx.y (add rfl rfl (by first | exact wrap64 (by omega) (by omega) | rfl)) rfl ?_
        refine Lx.y (add rfl rfl (by first | exact wrap64 (by omega) (by omega) | rfl)) rfl ?_
        refine Lx.y (mv rfl) rfl ?_
        refine Lx.y (lenS Try.underlying9 rfl) rfl ?_
        refine Lx.y (add rfl rfl (by first | exact wrap64 (by omega) (by omega) | rfl)) rfl ?_
        refine Lx.y (rem rfl rfl (by omega) hN) rfl ?_
        refine Lx.y (asg rfl) rfl ?_
        refine Lx.nil ?_
        exact Xx.mkK (⟨N, by omega, rfl, rfl, rfl⟩) (Sub.cons (s := 10) rfl (Sub.cons (s := 0) rfl (Sub.cons (s := 1) rfl (Sub.cons (s := 2) rfl (Sub.cons (s := 6) rfl (Sub.cons (s := 7) rfl (Sub.cons (s := 8) rfl (Sub.cons (s := 19) rfl (Sub.nil _)))))))))
      · skip
        refine Cx.skip ?_
        exact Xx.mkK (⟨0, by omega, rfl, rfl, rfl⟩) (Sub.cons (s := 10) rfl (Sub.cons (s := 0) rfl (Sub.cons (s := 1) rfl (Sub.cons (s := 2) rfl (Sub.cons (s := 6) rfl (Sub.cons (s := 7) rfl (Sub.cons (s := 8) rfl (Sub.cons (s := 19) rfl (Sub.nil _)))))))))
    · rintro ρ' B' H' ⟨N, hN, rfl, rfl, rfl⟩
      refine Cx.seq (fun K13 k13 => ?_)
      refine Cx.region ?_
      refine Lx.y (asg rfl) rfl ?_
      refine Lx.nil ?_
      refine Xx.tn (k13 _ _ _ _ ?_)
      refine Cx.cutK (ds' := []) (Sub.cons (s := 0) rfl (Sub.cons (s := 1) rfl (Sub.cons (s := 2) rfl (Sub.cons (s := 6) rfl (Sub.cons (s := 7) rfl (Sub.cons (s := 8) rfl (Sub.cons (s := 10) rfl (Sub.cons (s := 19) rfl (Sub.nil _))))))))) (fun ρ' B' H' => ∃ w : Nat, w ≤ fs.length ∧ (cat ((fs.take w).map fr)).length ≤ N ∧ (w < fs.length → N < (cat ((fs.take (w + 1)).map fr)).length) ∧ ρ' = [(11, i64 w)] ∧ Bc = B' ∧ R = H') ?_ ?_
      · skip
        refine Cx.block ?_
        refine Cx.loopK (Sub.cons (s := 0) rfl (Sub.cons (s := 1) rfl (Sub.cons (s := 2) rfl (Sub.cons (s := 6) rfl (Sub.cons (s := 7) rfl (Sub.cons (s := 8) rfl (Sub.cons (s := 10) rfl (Sub.cons (s := 19) rfl (Sub.nil _))))))))) (fun m ρ' B' H' => ∃ (w : Nat), (w ≤ fs.length ∧ (cat ((fs.take w).map fr)).length ≤ N) ∧ m = fs.length - w ∧ ρ' = [(11, i64 w)] ∧ Bc = B' ∧ R = H') ⟨0, ⟨by omega, by simp⟩, rfl, rfl, rfl, rfl⟩ (Sub.cons (s := 11) rfl (Sub.cons (s := 0) rfl (Sub.cons (s := 1) rfl (Sub.cons (s := 2) rfl (Sub.cons (s := 6) rfl (Sub.cons (s := 7) rfl (Sub.cons (s := 8) rfl (Sub.cons (s := 10) rfl (Sub.cons (s := 19) rfl (Sub.nil _)))))))))) ?_
        rintro m ρ' B' H' ⟨w, ⟨hw, hw1⟩, rfl, rfl, rfl, rfl⟩
        refine Cx.seq (fun K14 k14 => ?_)
        refine Cx.seq (fun K15 k15 => ?_)
        refine Cx.region ?_
        refine Lx.y (mv rfl) rfl ?_
        refine Lx.y (mv rfl) rfl ?_
        refine Lx.y (lenV (ty' := 0) Try.underlying46 rfl) rfl ?_
        refine Lx.y (lss rfl rfl) rfl ?_
        refine Lx.y (mv rfl) rfl ?_
        refine Xx.ifD (t := 63) rfl (fun h16 => ?_) (fun h16 => ?_)
        · skip
          obtain ⟨bq, oq, cq, eq, fq, rfl, hBq, hcq⟩ := hR.at1 (k := w) (by omega)
          rw [ends_get (by omega)] at hcq
          refine Lx.gT rfl rfl rfl ?_
          refine Lx.y (mv rfl) rfl ?_
          refine Lx.gT rfl rfl rfl ?_
          refine Lx.y (mv rfl) rfl ?_
          refine Lx.gT rfl rfl rfl ?_
          refine Lx.y (ia Try.underlying46 sz3 rfl rfl (by first | exact Int.toNat_natCast _ | rfl) (by omega) (by omega)) rfl ?_
          refine Lx.gT rfl rfl rfl ?_
          refine Lx.y (ldB Try.underlying3 rfl rfl hBq hcq) rfl ?_
          refine Lx.gT rfl rfl rfl ?_
          refine Lx.y (mv rfl) rfl ?_
          refine Lx.gT rfl rfl rfl ?_
          refine Lx.y (leq rfl rfl) rfl ?_
          refine Lx.y (pickT rfl rfl) rfl ?_
          refine Lx.nil ?_
          refine Xx.tn (k15 _ _ _ _ ?_)
          refine Cx.condD rfl (fun h17 => ?_) (fun h17 => ?_)
          · skip
            refine Cx.skip ?_
            refine Xx.tn (k14 _ _ _ _ ?_)
            refine Cx.block ?_
            refine Cx.region ?_
            refine Lx.y (mv rfl) rfl ?_
            refine Lx.y (add rfl rfl (by first | exact wrap64 (by omega) (by omega) | rfl)) rfl ?_
            refine Lx.y (asg rfl) rfl ?_
            refine Lx.nil ?_
            refine Xx.bn ?_
            exact Xx.againK ⟨w + 1, ⟨by omega, by omega⟩, rfl, rfl, rfl, rfl⟩ (by omega) (Sub.cons (s := 11) rfl (Sub.cons (s := 0) rfl (Sub.cons (s := 1) rfl (Sub.cons (s := 2) rfl (Sub.cons (s := 6) rfl (Sub.cons (s := 7) rfl (Sub.cons (s := 8) rfl (Sub.cons (s := 10) rfl (Sub.cons (s := 19) rfl (Sub.nil _))))))))))
          · skip
            refine Cx.exit ?_
            refine Xx.te ?_
            refine Xx.te ?_
            refine Xx.bh ?_
            exact Xx.mkK (⟨w, hw, hw1, fun _ => by omega, rfl, rfl, rfl⟩) (Sub.cons (s := 11) rfl (Sub.cons (s := 0) rfl (Sub.cons (s := 1) rfl (Sub.cons (s := 2) rfl (Sub.cons (s := 6) rfl (Sub.cons (s := 7) rfl (Sub.cons (s := 8) rfl (Sub.cons (s := 10) rfl (Sub.cons (s := 19) rfl (Sub.nil _))))))))))
        · skip
          refine Lx.gF rfl rfl rfl rfl ?_
          refine Lx.gF rfl rfl rfl rfl ?_
          refine Lx.gF rfl rfl rfl rfl ?_
          refine Lx.gF rfl rfl rfl rfl ?_
          refine Lx.gF rfl rfl rfl rfl ?_
          refine Lx.gF rfl rfl rfl rfl ?_
          refine Lx.y (pickF rfl rfl) rfl ?_
          refine Lx.nil ?_
          refine Xx.tn (k15 _ _ _ _ ?_)
          refine Cx.condF rfl ?_
          refine Cx.exit ?_
          refine Xx.te ?_
          refine Xx.te ?_
          refine Xx.bh ?_
          exact Xx.mkK (⟨w, hw, hw1, fun _ => by omega, rfl, rfl, rfl⟩) (Sub.cons (s := 11) rfl (Sub.cons (s := 0) rfl (Sub.cons (s := 1) rfl (Sub.cons (s := 2) rfl (Sub.cons (s := 6) rfl (Sub.cons (s := 7) rfl (Sub.cons (s := 8) rfl (Sub.cons (s := 10) rfl (Sub.cons (s := 19) rfl (Sub.nil _))))))))))
      · rintro ρ' B' H' ⟨w, hw, hw1, hw2, rfl, rfl, rfl⟩
        refine Cx.seq (fun K18 k18 => ?_)
        refine Cx.region ?_
        refine Lx.y (mv rfl) rfl ?_
        refine Lx.y (mv rfl) rfl ?_
        refine Lx.y (sl2S Try.underlying9 rfl rfl (by first | exact Int.toNat_natCast _ | rfl) (by omega) (by omega)) rfl ?_
        refine Lx.cb rfl rfl rfl (Torn1_ct hf3 hw hw1 hw2 hN hL _) rfl ?_
        rintro v B3 ⟨A3, c3, rfl⟩ hB3
        refine Lx.y (mv rfl) rfl ?_
        refine Lx.y (ext rfl rfl) rfl ?_
        refine Lx.y (ext rfl rfl) rfl ?_
        refine Lx.y (asg rfl) rfl ?_
        refine Lx.y (asg rfl) rfl ?_
        refine Lx.nil ?_
        refine Xx.tn (k18 _ _ _ _ ?_)
        refine Cx.cutK (ds' := []) (Sub.cons (s := 0) rfl (Sub.cons (s := 1) rfl (Sub.cons (s := 2) rfl (Sub.cons (s := 7) rfl (Sub.cons (s := 8) rfl (Sub.cons (s := 10) rfl (Sub.cons (s := 11) rfl (Sub.cons (s := 12) rfl (Sub.cons (s := 13) rfl (Sub.cons (s := 19) rfl (Sub.cons (s := 73) rfl (Sub.cons (s := 74) rfl (Sub.cons (s := 75) rfl (Sub.cons (s := 76) rfl (Sub.cons (s := 77) rfl (Sub.cons (s := 78) rfl (Sub.cons (s := 79) rfl (Sub.nil _)))))))))))))))))) (fun ρ' B' H' => ρ' = [] ∧ B3.le B' ∧ R = H') ?_ ?_
        · skip
          refine Cx.seq (fun K20 k20 => ?_)
          refine Cx.region ?_
          refine Lx.cb rfl rfl rfl (awake_ct _) rfl ?_
          rintro v B4 rfl hB4
          refine Lx.y (not' rfl) rfl ?_
          refine Lx.y (mv rfl) rfl ?_
          refine Xx.ifB (t := 82) rfl (fun h22 => ?_) (fun h22 => ?_)
          · skip
            cases h22
          · skip
            refine Lx.gT rfl rfl rfl ?_
            refine Lx.y (mv rfl) rfl ?_
            refine Lx.gT rfl rfl rfl ?_
            refine Lx.y (lenV (ty' := 0) Try.underlying36 rfl) rfl ?_
            refine Lx.gT rfl rfl rfl ?_
            refine Lx.y (mv rfl) rfl ?_
            refine Lx.gT rfl rfl rfl ?_
            refine Lx.y (neI rfl rfl) rfl ?_
            refine Lx.y (pickF rfl rfl) rfl ?_
            refine Lx.y (mv rfl) rfl ?_
            refine Xx.ifN (t := 88) rfl (fun h23 => ?_) (fun h23 => ?_)
            · skip
              exact absurd rfl h23
            · skip
              refine Lx.gT rfl rfl rfl ?_
              refine Lx.y (mv rfl) rfl ?_
              refine Lx.gT rfl rfl rfl ?_
              refine Lx.y (gtr rfl rfl) rfl ?_
              refine Lx.gT rfl rfl rfl ?_
              refine Lx.y (mv rfl) rfl ?_
              refine Xx.ifD (t := 91) rfl (fun h24 => ?_) (fun h24 => ?_)
              · skip
                have hcl := cat_take_len (fs := fs) w
                obtain ⟨w, rfl⟩ : ∃ k, w = k + 1 := ⟨w - 1, by omega⟩
                obtain ⟨bq, oq, cq, eq, fq, rfl, hBq, hcq⟩ := hR.at1 (k := w) (by omega)
                rw [ends_get (by omega)] at hcq
                refine Lx.gT rfl rfl rfl ?_
                refine Lx.y (mv rfl) rfl ?_
                refine Lx.gT rfl rfl rfl ?_
                refine Lx.y (mv rfl) rfl ?_
                refine Lx.gT rfl rfl rfl ?_
                refine Lx.y (mv rfl) rfl ?_
                refine Lx.gT rfl rfl rfl ?_
                refine Lx.y (sub rfl rfl (show IntKind.i64.wrap _ = ((w : Nat) : Int) by rw [wrap64 (by omega) (by omega)]; omega)) rfl ?_
                refine Lx.gT rfl rfl rfl ?_
                refine Lx.y (ia Try.underlying46 sz3 rfl rfl (by first | exact Int.toNat_natCast _ | rfl) (by omega) (by omega)) rfl ?_
                refine Lx.gT rfl rfl rfl ?_
                refine Lx.y (ldB Try.underlying3 rfl rfl (hB4 _ _ (hB3 _ _ hBq)) hcq) rfl ?_
                refine Lx.gT rfl rfl rfl ?_
                refine Lx.y (neI rfl rfl) rfl ?_
                refine Lx.gT rfl rfl rfl ?_
                refine Lx.y (pickT rfl rfl) rfl ?_
                refine Lx.y (pickF rfl rfl) rfl ?_
                refine Lx.y (mv rfl) rfl ?_
                refine Xx.ifN (t := 101) rfl (fun h25 => ?_) (fun h25 => ?_)
                · skip
                  exact absurd rfl h25
                · skip
                  refine Lx.gT rfl rfl rfl ?_
                  refine Lx.y (mv rfl) rfl ?_
                  refine Lx.gT rfl rfl rfl ?_
                  refine Lx.y (eqI rfl rfl) rfl ?_
                  refine Lx.gT rfl rfl rfl ?_
                  refine Lx.y (mv rfl) rfl ?_
                  refine Xx.ifD (t := 104) rfl (fun h26 => ?_) (fun h26 => ?_)
                  · skip
                    have h0 := h26
                    refine Lx.gT rfl rfl rfl ?_
                    refine Lx.y (mv rfl) rfl ?_
                    refine Lx.gT rfl rfl rfl ?_
                    refine Lx.y (neI rfl rfl) rfl ?_
                    refine Lx.gT rfl rfl rfl ?_
                    refine Lx.y (pickT rfl rfl) rfl ?_
                    refine Lx.y (pickF rfl rfl) rfl ?_
                    refine Lx.nil ?_
                    refine Xx.tn (k20 _ _ _ _ ?_)
                    refine Cx.condN rfl (fun h27 => ?_) (fun h27 => ?_)
                    · skip
                      first | (exfalso; omega) | (exact absurd (by simp) h27)
                    · skip
                      refine Cx.skip ?_
                      exact Xx.mkK (⟨rfl, hB4, rfl⟩) (Sub.cons (s := 0) rfl (Sub.cons (s := 1) rfl (Sub.cons (s := 2) rfl (Sub.cons (s := 7) rfl (Sub.cons (s := 8) rfl (Sub.cons (s := 10) rfl (Sub.cons (s := 11) rfl (Sub.cons (s := 12) rfl (Sub.cons (s := 13) rfl (Sub.cons (s := 19) rfl (Sub.cons (s := 73) rfl (Sub.cons (s := 74) rfl (Sub.cons (s := 75) rfl (Sub.cons (s := 76) rfl (Sub.cons (s := 77) rfl (Sub.cons (s := 78) rfl (Sub.cons (s := 79) rfl (Sub.nil _))))))))))))))))))
                  · skip
                    refine Lx.gF rfl rfl rfl rfl ?_
                    refine Lx.gF rfl rfl rfl rfl ?_
                    refine Lx.gT rfl rfl rfl ?_
                    refine Lx.y (pickF rfl rfl) rfl ?_
                    refine Lx.y (pickF rfl rfl) rfl ?_
                    refine Lx.nil ?_
                    refine Xx.tn (k20 _ _ _ _ ?_)
                    refine Cx.condF rfl ?_
                    refine Cx.skip ?_
                    exact Xx.mkK (⟨rfl, hB4, rfl⟩) (Sub.cons (s := 0) rfl (Sub.cons (s := 1) rfl (Sub.cons (s := 2) rfl (Sub.cons (s := 7) rfl (Sub.cons (s := 8) rfl (Sub.cons (s := 10) rfl (Sub.cons (s := 11) rfl (Sub.cons (s := 12) rfl (Sub.cons (s := 13) rfl (Sub.cons (s := 19) rfl (Sub.cons (s := 73) rfl (Sub.cons (s := 74) rfl (Sub.cons (s := 75) rfl (Sub.cons (s := 76) rfl (Sub.cons (s := 77) rfl (Sub.cons (s := 78) rfl (Sub.cons (s := 79) rfl (Sub.nil _))))))))))))))))))
              · skip
                obtain rfl : w = 0 := by omega
                refine Lx.gF rfl rfl rfl rfl ?_
                refine Lx.gF rfl rfl rfl rfl ?_
                refine Lx.gF rfl rfl rfl rfl ?_
                refine Lx.gF rfl rfl rfl rfl ?_
                refine Lx.gF rfl rfl rfl rfl ?_
                refine Lx.gF rfl rfl rfl rfl ?_
                refine Lx.gF rfl rfl rfl rfl ?_
                refine Lx.gT rfl rfl rfl ?_
                refine Lx.y (pickF rfl rfl) rfl ?_
                refine Lx.y (pickF rfl rfl) rfl ?_
                refine Lx.y (mv rfl) rfl ?_
                refine Lx.gT rfl rfl rfl ?_
                refine Lx.y (mv rfl) rfl ?_
                refine Lx.gT rfl rfl rfl ?_
                refine Lx.y (eqI rfl rfl) rfl ?_
                refine Lx.gT rfl rfl rfl ?_
                refine Lx.y (mv rfl) rfl ?_
                refine Xx.ifD (t := 104) rfl (fun h28 => ?_) (fun h28 => ?_)
                · skip
                  have h0 := h28
                  refine Lx.gT rfl rfl rfl ?_
                  refine Lx.y (mv rfl) rfl ?_
                  refine Lx.gT rfl rfl rfl ?_
                  refine Lx.y (neI rfl rfl) rfl ?_
                  refine Lx.gT rfl rfl rfl ?_
                  refine Lx.y (pickT rfl rfl) rfl ?_
                  refine Lx.y (pickF rfl rfl) rfl ?_
                  refine Lx.nil ?_
                  refine Xx.tn (k20 _ _ _ _ ?_)
                  refine Cx.condN rfl (fun h29 => ?_) (fun h29 => ?_)
                  · skip
                    first | (exfalso; omega) | (exact absurd (by simp) h29)
                  · skip
                    refine Cx.skip ?_
                    exact Xx.mkK (⟨rfl, hB4, rfl⟩) (Sub.cons (s := 0) rfl (Sub.cons (s := 1) rfl (Sub.cons (s := 2) rfl (Sub.cons (s := 7) rfl (Sub.cons (s := 8) rfl (Sub.cons (s := 10) rfl (Sub.cons (s := 11) rfl (Sub.cons (s := 12) rfl (Sub.cons (s := 13) rfl (Sub.cons (s := 19) rfl (Sub.cons (s := 73) rfl (Sub.cons (s := 74) rfl (Sub.cons (s := 75) rfl (Sub.cons (s := 76) rfl (Sub.cons (s := 77) rfl (Sub.cons (s := 78) rfl (Sub.cons (s := 79) rfl (Sub.nil _))))))))))))))))))
                · skip
                  refine Lx.gF rfl rfl rfl rfl ?_
                  refine Lx.gF rfl rfl rfl rfl ?_
                  refine Lx.gT rfl rfl rfl ?_
                  refine Lx.y (pickF rfl rfl) rfl ?_
                  refine Lx.y (pickF rfl rfl) rfl ?_
                  refine Lx.nil ?_
                  refine Xx.tn (k20 _ _ _ _ ?_)
                  refine Cx.condF rfl ?_
                  refine Cx.skip ?_
                  exact Xx.mkK (⟨rfl, hB4, rfl⟩) (Sub.cons (s := 0) rfl (Sub.cons (s := 1) rfl (Sub.cons (s := 2) rfl (Sub.cons (s := 7) rfl (Sub.cons (s := 8) rfl (Sub.cons (s := 10) rfl (Sub.cons (s := 11) rfl (Sub.cons (s := 12) rfl (Sub.cons (s := 13) rfl (Sub.cons (s := 19) rfl (Sub.cons (s := 73) rfl (Sub.cons (s := 74) rfl (Sub.cons (s := 75) rfl (Sub.cons (s := 76) rfl (Sub.cons (s := 77) rfl (Sub.cons (s := 78) rfl (Sub.cons (s := 79) rfl (Sub.nil _))))))))))))))))))
        · rintro ρ' B' H' ⟨rfl, hB4, rfl⟩
          obtain ⟨Bd, hren⟩ : ∃ Bz, Bz = B' := ⟨_, rfl⟩
          subst hren
          refine Cx.seq (fun K30 k30 => ?_)
          refine Cx.seq (fun K31 k31 => ?_)
          refine Cx.region ?_
          refine Lx.y (mv rfl) rfl ?_
          refine Lx.y (lenS Try.underlying9 rfl) rfl ?_
          refine Lx.y (eqI rfl rfl) rfl ?_
          refine Lx.nil ?_
          refine Xx.tn (k31 _ _ _ _ ?_)
          refine Cx.condD rfl (fun h32 => ?_) (fun h32 => ?_)
          · skip
            refine Cx.seq (fun K33 k33 => ?_)
            refine Cx.region ?_
            refine Lx.y (asg rfl) rfl ?_
            refine Lx.nil ?_
            refine Xx.tn (k33 _ _ _ _ ?_)
            refine Cx.ret ?_
            refine Xx.tr ?_
            exact Xx.rB1 rfl rfl rfl (Frag.le_trans hBc (Frag.le_trans hB3 hB4)) rfl
          · skip
            refine Cx.skip ?_
            refine Xx.tn (k30 _ _ _ _ ?_)
            refine Cx.seq (fun K34 k34 => ?_)
            obtain ⟨t, ht, ht1, ht2⟩ := tm1 d2 (cat (fs.map fr)).length (by omega)
            obtain ⟨k, hk, hk2⟩ := tm2 (t + ((cat (fs.map fr)).length : Nat)) (cat (fs.map fr)).length (by omega) (by omega)
            refine Cx.region ?_
            refine Lx.y (mv rfl) rfl ?_
            refine Lx.y (mv rfl) rfl ?_
            refine Lx.y (lenS Try.underlying9 rfl) rfl ?_
            refine Lx.y (rem rfl rfl (by omega) ht) rfl ?_
            refine Lx.y (mv rfl) rfl ?_
            refine Lx.y (lenS Try.underlying9 rfl) rfl ?_
            refine Lx.y (add rfl rfl (by first | exact wrap64 (by omega) (by omega) | rfl)) rfl ?_
            refine Lx.y (mv rfl) rfl ?_
            refine Lx.y (lenS Try.underlying9 rfl) rfl ?_
            refine Lx.y (rem rfl rfl (by omega) hk) rfl ?_
            refine Lx.y (asg rfl) rfl ?_
            refine Lx.nil ?_
            refine Xx.tn (k34 _ _ _ _ ?_)
            refine Cx.seq (fun K35 k35 => ?_)
            refine Cx.drawn (by kernel_rfl) ?_
            refine Dx.p (i := 0) rfl (by kernel_rfl) (mv rfl) rfl ?_
            refine Dx.p (i := 1) rfl (by kernel_rfl) (mv rfl) rfl ?_
            refine Dx.p (i := 2) rfl (by kernel_rfl) (sl2S Try.underlying9 rfl rfl (by first | exact Int.toNat_natCast _ | rfl) (by omega) (by omega)) rfl ?_
            refine Dx.p (i := 3) rfl (by kernel_rfl) (mv rfl) rfl ?_
            refine Dx.p (i := 4) rfl (by kernel_rfl) (mv rfl) rfl ?_
            refine Dx.p (i := 5) rfl (by kernel_rfl) (ixS Try.underlying9 rfl rfl (by first | exact Int.toNat_natCast _ | rfl) (by omega) (by omega)) rfl ?_
            refine Dx.p (i := 6) rfl (by kernel_rfl) (bxor rfl rfl (show bXor .u8 _ _ = ((turn1 _).toNat : Nat) from wrap_u8 _)) rfl ?_
            refine Dx.p (i := 10) rfl (by kernel_rfl) (mv rfl) rfl ?_
            refine Dx.p (i := 11) rfl (by kernel_rfl) (mv rfl) rfl ?_
            refine Dx.p (i := 12) rfl (by kernel_rfl) (add rfl rfl (by first | exact wrap64 (by omega) (by omega) | rfl)) rfl ?_
            refine Dx.p (i := 13) rfl (by kernel_rfl) (sl1S Try.underlying9 rfl rfl (by first | exact Int.toNat_natCast _ | rfl) (by omega) (by omega)) rfl ?_
            refine Dx.one (i := 7) (by kernel_rfl) ?_
            refine Dstep.o (i := 7) rfl (bsl1 Try.underlying32 ti5 rfl rfl rfl (by decide)) rfl (fun v B' H' hΦ hB => ?_)
            obtain ⟨b130, rfl, rfl, rfl⟩ := hΦ; clear hB
            refine ⟨JOk.top, ?_⟩
            refine Dx.r (i := 8) rfl (by kernel_rfl) (b2sR Try.underlying32 Try.underlying5 Try.underlying9 rfl (u8s_cons u8s_nil) rfl) rfl ?_
            refine Dx.p (i := 9) rfl (by kernel_rfl) (catS rfl rfl (by first | omega | (simp <;> omega))) rfl ?_
            refine Dx.p (i := 14) rfl (by kernel_rfl) (catS rfl rfl (by first | omega | (simp <;> omega))) rfl ?_
            refine Dx.one (i := 15) (by kernel_rfl) ?_
            refine Dstep.o (i := 15) rfl (Ox.cb rfl rfl rfl (Torn2_ct hL hk2 _)) rfl (fun v B' H' hΦ hB => ?_)
            obtain ⟨rfl, hΦ⟩ := hΦ
            obtain ⟨A4, c4, rfl, hR4⟩ := hΦ
            obtain ⟨Be, hren⟩ : ∃ Bz, Bz = B' := ⟨_, rfl⟩
            subst hren
            refine ⟨JOk.yes (JOk.top) (b2sR Try.underlying32 Try.underlying5 Try.underlying9 rfl (u8s_cons u8s_nil) rfl), ?_⟩
            refine Dx.p (i := 16) rfl (by kernel_rfl) (mv rfl) rfl ?_
            refine Dx.p (i := 17) rfl (by kernel_rfl) (ext rfl rfl) rfl ?_
            refine Dx.p (i := 18) rfl (by kernel_rfl) (ext rfl rfl) rfl ?_
            refine Dx.p (i := 19) rfl (by kernel_rfl) (asg rfl) rfl ?_
            refine Dx.p (i := 20) rfl (by kernel_rfl) (asg rfl) rfl ?_
            refine Dx.done (by kernel_rfl) ?_
            refine Xx.tn (k35 _ _ _ _ ?_)
            refine Cx.seq (fun K36 k36 => ?_)
            refine Xx.dropB b130 ?_
            have hBe := hB
            have hgood := torn2 (fun x hx => Nat.le_trans (hf3 x hx) (by decide)) hk2 (turn1_ne _)
            generalize hys : scanL (fl (cat (fs.map fr)) k (turn1 ((cat (fs.map fr)).getD k 0))) = ys at *
            have hyl0 : ys.length ≤ 2600 := by rw [← hys]; have h1 := scanF_len (fl (cat (fs.map fr)) k (turn1 ((cat (fs.map fr)).getD k 0))) ((fl (cat (fs.map fr)) k (turn1 ((cat (fs.map fr)).getD k 0))).length + 1) 0 (by omega); have h2 := fl_len (b := turn1 ((cat (fs.map fr)).getD k 0)) hk2; unfold scanL; omega
            have hgl : gds ys ys.length = (ys.filter (·.good)).length := by unfold gds; rw [List.take_length]
            refine Cx.region ?_
            refine Lx.y (asg rfl) rfl ?_
            refine Lx.nil ?_
            refine Xx.tn (k36 _ _ _ _ ?_)
            refine Cx.seq (fun K37 k37 => ?_)
            refine Cx.seq (fun K38 k38 => ?_)
            refine Cx.region ?_
            refine Lx.y (asg rfl) rfl ?_
            refine Lx.nil ?_
            refine Xx.tn (k38 _ _ _ _ ?_)
            refine Cx.block ?_
            refine Cx.loopK (Sub.cons (s := 0) rfl (Sub.cons (s := 1) rfl (Sub.cons (s := 2) rfl (Sub.cons (s := 7) rfl (Sub.cons (s := 8) rfl (Sub.cons (s := 10) rfl (Sub.cons (s := 11) rfl (Sub.cons (s := 12) rfl (Sub.cons (s := 13) rfl (Sub.cons (s := 14) rfl (Sub.cons (s := 15) rfl (Sub.cons (s := 19) rfl (Sub.cons (s := 73) rfl (Sub.cons (s := 74) rfl (Sub.cons (s := 75) rfl (Sub.cons (s := 76) rfl (Sub.cons (s := 77) rfl (Sub.cons (s := 78) rfl (Sub.cons (s := 79) rfl (Sub.cons (s := 109) rfl (Sub.cons (s := 110) rfl (Sub.cons (s := 111) rfl (Sub.cons (s := 112) rfl (Sub.cons (s := 113) rfl (Sub.cons (s := 114) rfl (Sub.cons (s := 115) rfl (Sub.cons (s := 116) rfl (Sub.cons (s := 117) rfl (Sub.cons (s := 118) rfl (Sub.cons (s := 119) rfl (Sub.cons (s := 120) rfl (Sub.cons (s := 121) rfl (Sub.cons (s := 122) rfl (Sub.cons (s := 123) rfl (Sub.cons (s := 124) rfl (Sub.cons (s := 125) rfl (Sub.cons (s := 126) rfl (Sub.cons (s := 127) rfl (Sub.cons (s := 128) rfl (Sub.cons (s := 129) rfl (Sub.cons (s := 130) rfl (Sub.cons (s := 131) rfl (Sub.cons (s := 132) rfl (Sub.cons (s := 133) rfl (Sub.cons (s := 134) rfl (Sub.cons (s := 135) rfl (Sub.cons (s := 136) rfl (Sub.cons (s := 137) rfl (Sub.cons (s := 138) rfl (Sub.cons (s := 139) rfl (Sub.cons (s := 140) rfl (Sub.nil _)))))))))))))))))))))))))))))))))))))))))))))))))))) (fun m ρ' B' H' => ∃ (i : Nat), (i ≤ ys.length) ∧ m = ys.length - i ∧ ρ' = [(17, i64 (gds ys i)), (18, i64 i)] ∧ Be = B' ∧ R = H') ⟨0, Nat.zero_le _, rfl, rfl, rfl, rfl⟩ (Sub.cons (s := 17) rfl (Sub.cons (s := 18) rfl (Sub.cons (s := 0) rfl (Sub.cons (s := 1) rfl (Sub.cons (s := 2) rfl (Sub.cons (s := 7) rfl (Sub.cons (s := 8) rfl (Sub.cons (s := 10) rfl (Sub.cons (s := 11) rfl (Sub.cons (s := 12) rfl (Sub.cons (s := 13) rfl (Sub.cons (s := 14) rfl (Sub.cons (s := 15) rfl (Sub.cons (s := 19) rfl (Sub.cons (s := 73) rfl (Sub.cons (s := 74) rfl (Sub.cons (s := 75) rfl (Sub.cons (s := 76) rfl (Sub.cons (s := 77) rfl (Sub.cons (s := 78) rfl (Sub.cons (s := 79) rfl (Sub.cons (s := 109) rfl (Sub.cons (s := 110) rfl (Sub.cons (s := 111) rfl (Sub.cons (s := 112) rfl (Sub.cons (s := 113) rfl (Sub.cons (s := 114) rfl (Sub.cons (s := 115) rfl (Sub.cons (s := 116) rfl (Sub.cons (s := 117) rfl (Sub.cons (s := 118) rfl (Sub.cons (s := 119) rfl (Sub.cons (s := 120) rfl (Sub.cons (s := 121) rfl (Sub.cons (s := 122) rfl (Sub.cons (s := 123) rfl (Sub.cons (s := 124) rfl (Sub.cons (s := 125) rfl (Sub.cons (s := 126) rfl (Sub.cons (s := 127) rfl (Sub.cons (s := 128) rfl (Sub.cons (s := 129) rfl (Sub.cons (s := 130) rfl (Sub.cons (s := 131) rfl (Sub.cons (s := 132) rfl (Sub.cons (s := 133) rfl (Sub.cons (s := 134) rfl (Sub.cons (s := 135) rfl (Sub.cons (s := 136) rfl (Sub.cons (s := 137) rfl (Sub.cons (s := 138) rfl (Sub.cons (s := 139) rfl (Sub.cons (s := 140) rfl (Sub.nil _)))))))))))))))))))))))))))))))))))))))))))))))))))))) ?_
            rintro m ρ' B' H' ⟨i, hi, rfl, rfl, rfl, rfl⟩
            have hgi := gds_le ys i
            have hyl : ys.length ≤ 2600 := hyl0
            refine Cx.seq (fun K39 k39 => ?_)
            refine Cx.seq (fun K40 k40 => ?_)
            refine Cx.region ?_
            refine Lx.y (mv rfl) rfl ?_
            refine Lx.y (mv rfl) rfl ?_
            refine Lx.y (lenV (ty' := 0) Try.underlying36 rfl) rfl ?_
            refine Lx.y (lss rfl rfl) rfl ?_
            refine Lx.nil ?_
            refine Xx.tn (k40 _ _ _ _ ?_)
            refine Cx.condD rfl (fun h41 => ?_) (fun h41 => ?_)
            · skip
              refine Cx.skip ?_
              refine Xx.tn (k39 _ _ _ _ ?_)
              refine Cx.seq (fun K42 k42 => ?_)
              refine Cx.block ?_
              refine Cx.seq (fun K43 k43 => ?_)
              obtain ⟨bq, oq, cq, eq, fq, rfl, hBq, hcq⟩ := hR4.at (k := i) (by omega)
              have hil : i < ys.length := by omega
              have hg2 : cq[oq + i * 3 + 2]? = some (.bool (ys[i]).good) := by
                have := congrArg (·[2]?) hcq
                simpa [List.getElem?_take, List.getElem?_drop, flat_get hil] using this
              refine Cx.region ?_
              refine Lx.y (mv rfl) rfl ?_
              refine Lx.y (mv rfl) rfl ?_
              refine Lx.y (ia Try.underlying36 sz43 rfl rfl (by first | exact Int.toNat_natCast _ | rfl) (by omega) (by omega)) rfl ?_
              refine Lx.y (fa' fo43_2 rfl) rfl ?_
              refine Lx.y (ldB Try.underlying4 rfl rfl hBq hg2) rfl ?_
              refine Lx.nil ?_
              refine Xx.tn (k43 _ _ _ _ ?_)
              refine Cx.condB rfl (fun h44 => ?_) (fun h44 => ?_)
              · skip
                have hgd : (ys[i]).good = true := h44
                refine Cx.region ?_
                refine Lx.y (mv rfl) rfl ?_
                refine Lx.y (add rfl rfl (by first | exact wrap64 (by omega) (by omega) | rfl)) rfl ?_
                refine Lx.y (asg rfl) rfl ?_
                refine Lx.nil ?_
                refine Xx.bn ?_
                refine Xx.tn (k42 _ _ _ _ ?_)
                refine Cx.region ?_
                refine Lx.y (mv rfl) rfl ?_
                refine Lx.y (add rfl rfl (by first | exact wrap64 (by omega) (by omega) | rfl)) rfl ?_
                refine Lx.y (asg rfl) rfl ?_
                refine Lx.nil ?_
                exact Xx.againK ⟨i + 1, by omega, rfl, rfl, rfl, rfl⟩ (by omega) (Sub.consE (s := 17) rfl (by rw [gds_succ hil, if_pos hgd]; rfl) (Sub.cons (s := 18) rfl (Sub.cons (s := 0) rfl (Sub.cons (s := 1) rfl (Sub.cons (s := 2) rfl (Sub.cons (s := 7) rfl (Sub.cons (s := 8) rfl (Sub.cons (s := 10) rfl (Sub.cons (s := 11) rfl (Sub.cons (s := 12) rfl (Sub.cons (s := 13) rfl (Sub.cons (s := 14) rfl (Sub.cons (s := 15) rfl (Sub.cons (s := 19) rfl (Sub.cons (s := 73) rfl (Sub.cons (s := 74) rfl (Sub.cons (s := 75) rfl (Sub.cons (s := 76) rfl (Sub.cons (s := 77) rfl (Sub.cons (s := 78) rfl (Sub.cons (s := 79) rfl (Sub.cons (s := 109) rfl (Sub.cons (s := 110) rfl (Sub.cons (s := 111) rfl (Sub.cons (s := 112) rfl (Sub.cons (s := 113) rfl (Sub.cons (s := 114) rfl (Sub.cons (s := 115) rfl (Sub.cons (s := 116) rfl (Sub.cons (s := 117) rfl (Sub.cons (s := 118) rfl (Sub.cons (s := 119) rfl (Sub.cons (s := 120) rfl (Sub.cons (s := 121) rfl (Sub.cons (s := 122) rfl (Sub.cons (s := 123) rfl (Sub.cons (s := 124) rfl (Sub.cons (s := 125) rfl (Sub.cons (s := 126) rfl (Sub.cons (s := 127) rfl (Sub.cons (s := 128) rfl (Sub.cons (s := 129) rfl (Sub.cons (s := 130) rfl (Sub.cons (s := 131) rfl (Sub.cons (s := 132) rfl (Sub.cons (s := 133) rfl (Sub.cons (s := 134) rfl (Sub.cons (s := 135) rfl (Sub.cons (s := 136) rfl (Sub.cons (s := 137) rfl (Sub.cons (s := 138) rfl (Sub.cons (s := 139) rfl (Sub.cons (s := 140) rfl (Sub.nil _))))))))))))))))))))))))))))))))))))))))))))))))))))))
              · skip
                have hgd : ¬ (ys[i]).good = true := by simpa using h44
                refine Cx.skip ?_
                refine Xx.bn ?_
                refine Xx.tn (k42 _ _ _ _ ?_)
                refine Cx.region ?_
                refine Lx.y (mv rfl) rfl ?_
                refine Lx.y (add rfl rfl (by first | exact wrap64 (by omega) (by omega) | rfl)) rfl ?_
                refine Lx.y (asg rfl) rfl ?_
                refine Lx.nil ?_
                exact Xx.againK ⟨i + 1, by omega, rfl, rfl, rfl, rfl⟩ (by omega) (Sub.consE (s := 17) rfl (by rw [gds_succ hil, if_neg hgd, Nat.add_zero]) (Sub.cons (s := 18) rfl (Sub.cons (s := 0) rfl (Sub.cons (s := 1) rfl (Sub.cons (s := 2) rfl (Sub.cons (s := 7) rfl (Sub.cons (s := 8) rfl (Sub.cons (s := 10) rfl (Sub.cons (s := 11) rfl (Sub.cons (s := 12) rfl (Sub.cons (s := 13) rfl (Sub.cons (s := 14) rfl (Sub.cons (s := 15) rfl (Sub.cons (s := 19) rfl (Sub.cons (s := 73) rfl (Sub.cons (s := 74) rfl (Sub.cons (s := 75) rfl (Sub.cons (s := 76) rfl (Sub.cons (s := 77) rfl (Sub.cons (s := 78) rfl (Sub.cons (s := 79) rfl (Sub.cons (s := 109) rfl (Sub.cons (s := 110) rfl (Sub.cons (s := 111) rfl (Sub.cons (s := 112) rfl (Sub.cons (s := 113) rfl (Sub.cons (s := 114) rfl (Sub.cons (s := 115) rfl (Sub.cons (s := 116) rfl (Sub.cons (s := 117) rfl (Sub.cons (s := 118) rfl (Sub.cons (s := 119) rfl (Sub.cons (s := 120) rfl (Sub.cons (s := 121) rfl (Sub.cons (s := 122) rfl (Sub.cons (s := 123) rfl (Sub.cons (s := 124) rfl (Sub.cons (s := 125) rfl (Sub.cons (s := 126) rfl (Sub.cons (s := 127) rfl (Sub.cons (s := 128) rfl (Sub.cons (s := 129) rfl (Sub.cons (s := 130) rfl (Sub.cons (s := 131) rfl (Sub.cons (s := 132) rfl (Sub.cons (s := 133) rfl (Sub.cons (s := 134) rfl (Sub.cons (s := 135) rfl (Sub.cons (s := 136) rfl (Sub.cons (s := 137) rfl (Sub.cons (s := 138) rfl (Sub.cons (s := 139) rfl (Sub.cons (s := 140) rfl (Sub.nil _))))))))))))))))))))))))))))))))))))))))))))))))))))))
            · skip
              obtain rfl : i = ys.length := by omega
              refine Cx.exit ?_
              refine Xx.te ?_
              refine Xx.te ?_
              refine Xx.bh ?_
              refine Xx.tn (k37 _ _ _ _ ?_)
              refine Cx.seq (fun K45 k45 => ?_)
              refine Cx.region ?_
              refine Lx.y (mv rfl) rfl ?_
              refine Lx.y (mv rfl) rfl ?_
              refine Lx.y (lenV (ty' := 0) Try.underlying46 rfl) rfl ?_
              refine Lx.y (lss rfl rfl) rfl ?_
              refine Lx.y (asg rfl) rfl ?_
              refine Lx.nil ?_
              refine Xx.tn (k45 _ _ _ _ ?_)
              refine Cx.ret ?_
              exact Xx.rB1 rfl rfl (congrArg Value.bool (decide_eq_true (by rw [hgl]; omega))) (Frag.le_trans (Frag.le_trans hBc (Frag.le_trans hB3 hB4)) hBe) rfl
end FrB
end Go.Proofs.Ytlpjgjpkggkmbaa
