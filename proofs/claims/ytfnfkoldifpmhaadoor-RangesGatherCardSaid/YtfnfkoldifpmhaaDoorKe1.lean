/-
  Keys: numbers, whole numbers as keys, the least key above; what a span has.
-/
import Derived.Test.YtfnfkoldifpmhaaDoorProg
import Derived.Test.YtfnfkoldifpmhaaDoorSlj
import Derived.Test.YtfnfkoldifpmhaaDoorSlm
namespace Go.Proofs.YtfnfkoldifpmhaaDoor
open Go.SL Go.RowKit
set_option linter.unusedVariables false
set_option linter.unusedSimpArgs false
set_option maxRecDepth 100000
namespace Ke1
theorem sz3 : (Tryd.prog.info? 3).map (·.size) = some 1 := by kernel_rfl
theorem sz5 : (Tryd.prog.info? 5).map (·.size) = some 1 := by kernel_rfl
theorem sz26 : (Tryd.prog.info? 26).map (·.size) = some 6 := by kernel_rfl
theorem ti5 : TI Tryd.prog 5 [.int .u8 0] 1 1 := TI.of (by kernel_rfl) rfl rfl
theorem ti26 : TI Tryd.prog 26 [.int .i64 0, .bool false, .int .i64 0, str [], .slice none 0 0, .slice none 0 0] 6 88 := TI.of (by kernel_rfl) rfl rfl
theorem fo26_0 : FO Tryd.prog 26 0 0 1 false := FO.of Tryd.underlying26 rfl rfl (by kernel_rfl) Tryd.underlying3 rfl rfl
theorem fo26_2 : FO Tryd.prog 26 2 2 1 false := FO.of Tryd.underlying26 rfl rfl (by kernel_rfl) Tryd.underlying2 rfl rfl
theorem pl26 : PL Tryd.prog 26 [(0, 1), (1, 1), (2, 1), (3, 1), (4, 1), (5, 1)] := PL.of Tryd.underlying26 (by kernel_rfl)

theorem bless_nil (x : List UInt8) : bless x [] = false := by cases x <;> rfl
theorem bless_cons (a b : UInt8) (x y : List UInt8) : bless (a :: x) (b :: y) = (decide (a < b) || (a == b && bless x y)) := rfl
theorem bless_app (p a b : List UInt8) : bless (p ++ a) (p ++ b) = bless a b := by
  induction p with
  | nil => rfl
  | cons c p ih => simp only [List.cons_append, bless_cons, ih]; simp
theorem bless_diff {s t : List UInt8} (h : bless s t = true) : (∃ p x y a b, s = p ++ x :: a ∧ t = p ++ y :: b ∧ x < y) ∨ ∃ a, t = s ++ a := by
  induction s generalizing t with
  | nil => exact .inr ⟨t, rfl⟩
  | cons x s ih =>
    cases t with
    | nil => cases h
    | cons y t =>
      rw [bless_cons] at h
      by_cases hxy : x < y
      · exact .inl ⟨[], x, y, s, t, rfl, rfl, hxy⟩
      · simp [hxy] at h
        obtain ⟨rfl, h2⟩ := h
        rcases ih h2 with ⟨p, u, v, a, b, rfl, rfl, h3⟩ | ⟨a, rfl⟩
        · exact .inl ⟨x :: p, u, v, a, b, rfl, rfl, h3⟩
        · exact .inr ⟨a, rfl⟩
def nextP (l r : List UInt8) : Prop := ∃ j, j ≤ l.length ∧ (∀ k, j ≤ k → k < l.length → l.getD k 0 = 255) ∧ ((j = 0 ∧ r = []) ∨ (0 < j ∧ l.getD (j - 1) 0 ≠ 255 ∧ r = l.take (j - 1) ++ [toB ((l.getD (j - 1) 0).toNat + 1 : Int)]))
theorem toB_succ {x : UInt8} (h : x ≠ 255) : x < toB (x.toNat + 1 : Int) ∧ ∀ y, x < y → ¬ y < toB (x.toNat + 1 : Int) := by
  have hx := x.toNat_lt
  have hn : x.toNat ≠ 255 := fun e => h (UInt8.toNat_inj.1 e)
  have ht : (toB (x.toNat + 1 : Int)).toNat = x.toNat + 1 := by
    unfold toB
    simp
    omega
  refine ⟨UInt8.lt_iff_toNat_lt.2 (by rw [ht]; omega), fun y hy hc => ?_⟩
  have h1 := UInt8.lt_iff_toNat_lt.1 hy
  have h2 := UInt8.lt_iff_toNat_lt.1 hc
  rw [ht] at h2
  omega
theorem list_at {l : List UInt8} {k : Nat} (h : k < l.length) : l = l.take k ++ l.getD k 0 :: l.drop (k + 1) := by
  have : l.getD k 0 = l[k] := by simp [List.getD, h]
  rw [this, List.getElem_cons_drop, List.take_append_drop]
theorem next_above {s r : List UInt8} (h : nextP s r) (hr : r ≠ []) (t : List UInt8) : bless (s ++ t) r = true := by
  obtain ⟨j, hj, _, ⟨_, rfl⟩ | ⟨h0, hx, rfl⟩⟩ := h
  · exact absurd rfl hr
  · have e : s ++ t = s.take (j - 1) ++ (s.getD (j - 1) 0 :: (s.drop (j - 1 + 1) ++ t)) := by
      conv => lhs; rw [list_at (show j - 1 < s.length by omega)]
      simp only [List.append_assoc, List.cons_append]
    rw [e, bless_app, bless_cons]
    generalize s.getD (j - 1) 0 = x at *
    simp [(toB_succ hx).1]
theorem next_le {s t r : List UInt8} (h : nextP s r) (hl : bless s t = true) (hp : ¬ (s.length ≤ t.length ∧ t.take s.length = s)) : r ≠ [] ∧ bless t r = false := by
  rcases bless_diff hl with ⟨p, x, y, a, b, hs, ht, hxy⟩ | ⟨a, rfl⟩
  · have hx : s.getD p.length 0 = x := by rw [hs]; simp [List.getD]
    have hpl : p.length < s.length := by rw [hs]; simp
    obtain ⟨j, hj, hall, hc⟩ := h
    have hx255 : x ≠ 255 := fun e => by
      subst e
      have := UInt8.lt_iff_toNat_lt.1 hxy
      have := y.toNat_lt
      simp at *
      omega
    have hjp : p.length < j := by
      apply Classical.byContradiction
      intro hn
      exact hx255 (by rw [← hx]; exact hall _ (by omega) hpl)
    rcases hc with ⟨h0, _⟩ | ⟨h0, h1, rfl⟩
    · omega
    · refine ⟨by simp, ?_⟩
      by_cases hq : p.length = j - 1
      · have htk : s.take (j - 1) = p := by rw [← hq, hs]; simp
        rw [htk, ht, bless_app, bless_cons, bless_nil]
        rw [← hq, hx]
        simp
        exact (UInt8.not_lt.1 ((toB_succ hx255).2 y hxy))
      · have htk : s.take (j - 1) = p ++ x :: a.take (j - 1 - p.length - 1) := by
          rw [hs, List.take_append, List.take_of_length_le (by omega)]
          congr 1
          obtain ⟨m, hm⟩ : ∃ m, j - 1 - p.length = m + 1 := ⟨j - 1 - p.length - 1, by omega⟩
          rw [hm]; simp
        rw [htk, ht, List.append_assoc, bless_app, List.cons_append, bless_cons]
        have h2 : ¬ y < x := by
          have := UInt8.lt_iff_toNat_lt.1 hxy
          intro hc; have := UInt8.lt_iff_toNat_lt.1 hc; omega
        have h3 : y ≠ x := fun e => by rw [e] at hxy; exact absurd hxy (by have := UInt8.lt_irrefl x; exact this)
        simp [h2, h3]
  · exact absurd ⟨by simp, by simp⟩ hp
theorem next_a {r : List UInt8} (h : nextP [97] r) : r = [98] := by
  obtain ⟨j, hj, hall, ⟨h0, rfl⟩ | ⟨h0, h1, rfl⟩⟩ := h
  · have := hall 0 (by omega) (by decide)
    exact absurd this (by decide)
  · obtain rfl : j = 1 := by simp at hj; omega
    rfl
def numB (n : BitVec 64) (j : Nat) : UInt8 := toB ((n >>> (8 * (7 - j))).toNat : Nat)
def numL (n : BitVec 64) : List UInt8 := (List.range 8).map (numB n)
@[simp] theorem numL_len (n : BitVec 64) : (numL n).length = 8 := rfl
def numC (n : BitVec 64) (i : Nat) : List Value := (List.range 8).map fun j => if 8 ≤ i + j then .int .u8 ((numB n j).toNat : Nat) else .int .u8 0
theorem numC_len (n : BitVec 64) (i : Nat) : (numC n i).length = 8 := by simp [numC]
theorem numC_set (n : BitVec 64) {i : Nat} (h : i < 8) : (numC n i).set (0 + (7 - i) * 1) (.int .u8 ((toB ((n >>> (8 * i)).toNat : Nat)).toNat : Nat)) = numC n (i + 1) := by
  rcases (by omega : i = 0 ∨ i = 1 ∨ i = 2 ∨ i = 3 ∨ i = 4 ∨ i = 5 ∨ i = 6 ∨ i = 7) with rfl | rfl | rfl | rfl | rfl | rfl | rfl | rfl <;> rfl
theorem numC_8 (n : BitVec 64) : u8s (numL n) = numC n 8 := rfl
def valI (n : Int) : Value := .agg [i64 2, .bool false, i64 n, str [], .slice none 0 0, .slice none 0 0].toArray
def keyI (n : Int) : List UInt8 := [toB 2] ++ numL (BitVec.ofInt 64 n ^^^ 9223372036854775808#64)
def cells (l : List UInt8) (c : Nat) : List Value := u8s l ++ List.replicate (c - l.length) (Value.int .u8 0)
theorem cells_len {l : List UInt8} {c : Nat} (h : l.length ≤ c) : (cells l c).length = c := by simp [cells, u8s_len]; omega
theorem cells_get {l : List UInt8} {c k : Nat} (h : k < l.length) : (cells l c)[0 + k * 1]? = some (.int .u8 ((l.getD k 0).toNat : Nat)) := by
  unfold cells
  rw [List.getElem?_append_left (by rw [u8s_len]; omega)]
  simp [u8s, List.getD, h]
theorem cells_take {l : List UInt8} {c k : Nat} (h : k ≤ l.length) : (cells l c).take k = u8s (l.take k) := by
  unfold cells
  rw [List.take_append_of_le_length (by rw [u8s_len]; omega)]
  simp [u8s, List.map_take]
theorem cells_set {l : List UInt8} {c j : Nat} {y : UInt8} (h0 : 0 < j) (h : j ≤ l.length) :
    (((cells l c).set (0 + (j - 1) * 1) (.int .u8 (y.toNat : Nat))).drop 0).take (j * 1) = u8s (l.take (j - 1) ++ [y]) := by
  obtain ⟨k, rfl⟩ : ∃ k, j = k + 1 := ⟨j - 1, by omega⟩
  simp only [List.drop_zero, Nat.mul_one, Nat.zero_add, Nat.add_sub_cancel]
  rw [List.take_set, cells_take h, List.take_succ_eq_append_getElem (by omega)]
  unfold u8s
  rw [List.map_append, List.map_append, List.set_append_right _ _ (by simp; omega)]
  simp [Nat.min_eq_left (show k ≤ l.length by omega)]

set_option maxHeartbeats 1000000 in
theorem Number_ct (n : BitVec 64) (B : Frag) : CtP Tryd.prog 45 [u64 n] B (str (numL n)) := by
  refine CtB.of_body Tryd.func45 rfl (nt := 23) rfl (by kernel_rfl) rfl ?_
  intro N0 w0 R
  refine Cx.seq (fun K1 k1 => ?_)
  refine Cx.region ?_
  refine Lx.y (asg rfl) rfl ?_
  refine Lx.nil ?_
  refine Xx.tn (k1 _ _ _ _ ?_)
  refine Cx.seq (fun K2 k2 => ?_)
  refine Cx.region ?_
  refine Lx.o (mksO Tryd.underlying78 ti5 rfl rfl (by omega) (by omega) (by omega) (by omega)) rfl (fun v B' H' hΦ hB => ?_)
  obtain ⟨b, rfl, hBB, rfl⟩ := hΦ
  obtain rfl := hBB.symm
  clear hB
  refine Lx.y (asg rfl) rfl ?_
  refine Lx.nil ?_
  refine Xx.tn (k2 _ _ _ _ ?_)
  refine Cx.seq (fun K3 k3 => ?_)
  refine Cx.seq (fun K4 k4 => ?_)
  refine Cx.region ?_
  refine Lx.y (mv rfl) rfl ?_
  refine Lx.y (lenV (ty' := 0) Tryd.underlying78 rfl) rfl ?_
  refine Lx.y (mv rfl) rfl ?_
  refine Lx.nil ?_
  refine Xx.tn (k4 _ _ _ _ ?_)
  refine Cx.block ?_
  refine Cx.loopK (Sub.cons (s := 0) rfl (Sub.cons (s := 2) rfl (Sub.cons (s := 3) rfl (Sub.cons (s := 5) rfl (Sub.cons (s := 6) rfl (Sub.cons (s := 7) rfl (Sub.nil _))))))) (fun m ρ' B' H' => ∃ (i : Nat), (i ≤ 8) ∧ m = 8 - i ∧ ρ' = [(8, i64 i)] ∧ B = B' ∧ row b 5 (numC n i) * R = H') ⟨0, by omega, rfl, rfl, rfl, rfl⟩ (Sub.cons (s := 8) rfl (Sub.cons (s := 0) rfl (Sub.cons (s := 2) rfl (Sub.cons (s := 3) rfl (Sub.cons (s := 5) rfl (Sub.cons (s := 6) rfl (Sub.cons (s := 7) rfl (Sub.nil _)))))))) ?_
  rintro m ρ' B' H' ⟨i, hi, rfl, rfl, rfl, rfl⟩
  refine Cx.seq (fun K5 k5 => ?_)
  refine Cx.region ?_
  refine Lx.y (lss rfl rfl) rfl ?_
  refine Lx.nil ?_
  refine Xx.tn (k5 _ _ _ _ ?_)
  refine Cx.seq (fun K6 k6 => ?_)
  refine Cx.condD rfl (fun h7 => ?_) (fun h7 => ?_)
  · skip
    refine Cx.skip ?_
    refine Xx.tn (k6 _ _ _ _ ?_)
    refine Cx.seq (fun K8 k8 => ?_)
    refine Cx.block ?_
    refine Cx.seq (fun K9 k9 => ?_)
    refine Cx.region ?_
    refine Lx.y (mv rfl) rfl ?_
    refine Lx.y (asg rfl) rfl ?_
    refine Lx.nil ?_
    refine Xx.tn (k9 _ _ _ _ ?_)
    refine Cx.region ?_
    refine Lx.y (mv rfl) rfl ?_
    refine Lx.y (mv rfl) rfl ?_
    refine Lx.y (sub rfl rfl (show IntKind.i64.wrap _ = ((7 - i : Nat) : Int) by rw [wrap64 (by omega) (by omega)]; omega)) rfl ?_
    refine Lx.y (mv rfl) rfl ?_
    refine Lx.y (mv rfl) rfl ?_
    refine Lx.y (mul rfl rfl (by first | exact wrap64 (by omega) (by omega) | rfl)) rfl ?_
    refine Lx.y (shrW64 (c := 8 * i) rfl rfl (Nat.ble_eq_true_of_le (by omega))) rfl ?_
    refine Lx.y (cvI rfl Tryd.underlying80 Tryd.underlying5 (wrap_u8 _)) rfl ?_
    refine Lx.y (ia Tryd.underlying78 sz5 rfl rfl (by first | exact Int.toNat_natCast _ | rfl) (by omega) (by omega)) rfl ?_
    refine Lx.st (stO Tryd.underlying5 sz5 rfl rfl rfl (by rw [numC_len]; omega) ((frc_gen _ _).trans (congrArg some (numC_set n (by omega))))) ?_
    refine Lx.nil ?_
    refine Xx.bn ?_
    refine Xx.tn (k8 _ _ _ _ ?_)
    refine Cx.region ?_
    refine Lx.y (add rfl rfl (by first | exact wrap64 (by omega) (by omega) | rfl)) rfl ?_
    refine Lx.y (mv rfl) rfl ?_
    refine Lx.nil ?_
    exact Xx.againK ⟨i + 1, by omega, rfl, rfl, rfl, rfl⟩ (by omega) (Sub.cons (s := 8) rfl (Sub.cons (s := 0) rfl (Sub.cons (s := 2) rfl (Sub.cons (s := 3) rfl (Sub.cons (s := 5) rfl (Sub.cons (s := 6) rfl (Sub.cons (s := 7) rfl (Sub.nil _))))))))
  · skip
    obtain rfl : i = 8 := by omega
    refine Cx.exit ?_
    refine Xx.te ?_
    refine Xx.te ?_
    refine Xx.bh ?_
    refine Xx.tn (k3 _ _ _ _ ?_)
    refine Cx.seq (fun K10 k10 => ?_)
    refine Cx.region ?_
    refine Lx.y (mv rfl) rfl ?_
    refine Lx.y (b2sR Tryd.underlying78 Tryd.underlying5 Tryd.underlying9 rfl (numC_8 n) rfl) rfl ?_
    refine Lx.y (asg rfl) rfl ?_
    refine Lx.nil ?_
    refine Xx.tn (k10 _ _ _ _ ?_)
    refine Cx.ret ?_
    exact Xx.dropB b (Xx.rB1 rfl rfl ⟨rfl, rfl⟩ (Frag.le_refl _) rfl)

set_option maxHeartbeats 1000000 in
theorem Int_ct (n : Int) (B : Frag) : CtP Tryd.prog 9 [i64 n] B (valI n) := by
  refine CtB.of_body Tryd.func9 rfl (nt := 5) rfl (by kernel_rfl) rfl ?_
  intro N0 w0 R
  refine Cx.seq (fun K1 k1 => ?_)
  refine Cx.region ?_
  refine Lx.new (allocO ti26) rfl (fun b => ?_)
  refine Lx.nil ?_
  refine Xx.tn (k1 _ _ _ _ ?_)
  refine Cx.seq (fun K2 k2 => ?_)
  refine Cx.region ?_
  refine Lx.y (mv rfl) rfl ?_
  refine Lx.y (bld ti26 pl26 rfl rfl) rfl ?_
  refine Lx.st (stA (d := .bool) sz26 rfl rfl rfl rfl (by simp) rfl) ?_
  refine Lx.nil ?_
  refine Xx.tn (k2 _ _ _ _ ?_)
  refine Cx.ret ?_
  exact Xx.rBa rfl Tryd.underlying26 rfl sz26 rfl rfl ⟨rfl, rfl⟩ (Frag.le_refl _)

set_option maxHeartbeats 1000000 in
theorem OfInt_ct (n : Int) (B : Frag) : CtP Tryd.prog 26 [valI n] B (str (keyI n)) := by
  refine CtB.of_body Tryd.func26 rfl (nt := 72) rfl (by kernel_rfl) rfl ?_
  intro N0 w0 R
  refine Cx.seq (fun K1 k1 => ?_)
  refine Cx.region ?_
  refine Lx.new (boxA rfl) rfl (fun b2 => ?_)
  refine Lx.y (asg rfl) rfl ?_
  refine Lx.nil ?_
  refine Xx.tn (k1 _ _ _ _ ?_)
  refine Cx.seq (fun K3 k3 => ?_)
  refine Cx.region ?_
  refine Lx.y (fa' fo26_0 rfl) rfl ?_
  refine Lx.y (ld Tryd.underlying3 rfl rfl rfl) rfl ?_
  refine Lx.y (cvI rfl Tryd.underlying3 Tryd.underlying5 (wrap_u8 _)) rfl ?_
  refine Lx.bsl (bsl1 Tryd.underlying78 ti5 rfl rfl rfl (by decide)) rfl (fun b4 => ?_)
  refine Lx.y (b2sR Tryd.underlying78 Tryd.underlying5 Tryd.underlying9 rfl (u8s_cons u8s_nil) rfl) rfl ?_
  refine Lx.y (asg rfl) rfl ?_
  refine Lx.nil ?_
  refine Xx.tn (k3 _ _ _ _ ?_)
  refine Cx.seq (fun K5 k5 => ?_)
  refine Cx.seq (fun K6 k6 => ?_)
  refine Cx.region ?_
  refine Lx.y (fa' fo26_0 rfl) rfl ?_
  refine Lx.y (ld Tryd.underlying3 rfl rfl rfl) rfl ?_
  refine Lx.nil ?_
  refine Xx.tn (k6 _ _ _ _ ?_)
  refine Cx.block ?_
  refine Cx.seq (fun K7 k7 => ?_)
  refine Cx.region ?_
  refine Lx.y (eqI rfl rfl) rfl ?_
  refine Lx.y (asg rfl) rfl ?_
  refine Lx.nil ?_
  refine Xx.tn (k7 _ _ _ _ ?_)
  refine Cx.condD rfl (fun h8 => ?_) (fun h8 => ?_)
  · skip
    exact absurd h8 (by decide)
  · skip
    refine Cx.seq (fun K9 k9 => ?_)
    refine Cx.region ?_
    refine Lx.y (eqI rfl rfl) rfl ?_
    refine Lx.y (asg rfl) rfl ?_
    refine Lx.nil ?_
    refine Xx.tn (k9 _ _ _ _ ?_)
    refine Cx.condD rfl (fun h10 => ?_) (fun h10 => ?_)
    · skip
      refine Cx.seq (fun K11 k11 => ?_)
      refine Cx.region ?_
      refine Lx.y (mv rfl) rfl ?_
      refine Lx.y (fa' fo26_2 rfl) rfl ?_
      refine Lx.y (ld Tryd.underlying2 rfl rfl rfl) rfl ?_
      refine Lx.y (cvW64 rfl Tryd.underlying2 Tryd.underlying80) rfl ?_
      refine Lx.y (xorW64 (b := 9223372036854775808#64) rfl rfl) rfl ?_
      refine Lx.cp rfl rfl rfl (Number_ct _ _) rfl ?_
      refine Lx.y (catS rfl rfl (by first | omega | (simp <;> omega))) rfl ?_
      refine Lx.y (asg rfl) rfl ?_
      refine Lx.nil ?_
      refine Xx.tn (k11 _ _ _ _ ?_)
      refine Cx.ret ?_
      refine Xx.br ?_
      refine Xx.tr ?_
      exact Xx.dropB b4 (Xx.dropB b2 (Xx.rB1 rfl rfl ⟨rfl, rfl⟩ (Frag.le_refl _) rfl))
    · skip
      exact absurd rfl h10

set_option maxHeartbeats 1000000 in
theorem Next_ct (l : List UInt8) (B : Frag) (hl : l.length ≤ 1048576) : CtB Tryd.prog 27 [str l] B (fun v B' => B' = B ∧ ∃ r, v = str r ∧ nextP l r) := by
  refine CtB.of_body Tryd.func27 rfl (nt := 36) rfl (by kernel_rfl) rfl ?_
  intro N0 w0 R
  refine Cx.seq (fun K1 k1 => ?_)
  refine Cx.region ?_
  refine Lx.y (asg rfl) rfl ?_
  refine Lx.nil ?_
  refine Xx.tn (k1 _ _ _ _ ?_)
  refine Cx.seq (fun K2 k2 => ?_)
  refine Cx.region ?_
  refine Lx.y (mv rfl) rfl ?_
  refine Lx.o (s2bO Tryd.underlying9 Tryd.underlying78 Tryd.underlying5 rfl) rfl (fun v B' H' hΦ hB => ?_)
  obtain ⟨b, c, rfl, hc, hBB, rfl⟩ := hΦ
  obtain rfl := hBB.symm
  clear hB
  refine Lx.y (asg rfl) rfl ?_
  refine Lx.nil ?_
  refine Xx.tn (k2 _ _ _ _ ?_)
  refine Cx.cutK (ds' := []) (Sub.cons (s := 0) rfl (Sub.cons (s := 2) rfl (Sub.cons (s := 4) rfl (Sub.cons (s := 5) rfl (Sub.nil _))))) (fun ρ' B' H' => ∃ j : Nat, j ≤ l.length ∧ (∀ k, j ≤ k → k < l.length → l.getD k 0 = 255) ∧ (0 < j → l.getD (j - 1) 0 ≠ 255) ∧ ρ' = [(3, .slice (some ⟨b, 0, none⟩) j c)] ∧ B = B' ∧ blk b (.cells (cells l c).toArray 5 (c, c + 1)) * R = H') ?_ ?_
  · skip
    refine Cx.block ?_
    refine Cx.loopK (Sub.cons (s := 0) rfl (Sub.cons (s := 2) rfl (Sub.cons (s := 4) rfl (Sub.cons (s := 5) rfl (Sub.nil _))))) (fun m ρ' B' H' => ∃ (j : Nat), (j ≤ l.length ∧ (∀ k, j ≤ k → k < l.length → l.getD k 0 = 255)) ∧ m = 1 + j ∧ ρ' = [(3, .slice (some ⟨b, 0, none⟩) j c)] ∧ B = B' ∧ blk b (.cells (cells l c).toArray 5 (c, c + 1)) * R = H') ⟨l.length, ⟨by omega, fun k h1 h2 => absurd h2 (by omega)⟩, rfl, rfl, rfl, rfl⟩ (Sub.cons (s := 3) rfl (Sub.cons (s := 0) rfl (Sub.cons (s := 2) rfl (Sub.cons (s := 4) rfl (Sub.cons (s := 5) rfl (Sub.nil _)))))) ?_
    rintro m ρ' B' H' ⟨j, ⟨hj, hall⟩, rfl, rfl, rfl, rfl⟩
    refine Cx.seq (fun K3 k3 => ?_)
    refine Cx.seq (fun K4 k4 => ?_)
    refine Cx.region ?_
    refine Lx.y (mv rfl) rfl ?_
    refine Lx.y (lenV (ty' := 0) Tryd.underlying78 rfl) rfl ?_
    refine Lx.y (gtr rfl rfl) rfl ?_
    refine Lx.y (mv rfl) rfl ?_
    refine Xx.ifD (t := 9) rfl (fun h5 => ?_) (fun h5 => ?_)
    · skip
      refine Lx.gT rfl rfl rfl ?_
      refine Lx.y (mv rfl) rfl ?_
      refine Lx.gT rfl rfl rfl ?_
      refine Lx.y (mv rfl) rfl ?_
      refine Lx.gT rfl rfl rfl ?_
      refine Lx.y (lenV (ty' := 0) Tryd.underlying78 rfl) rfl ?_
      refine Lx.gT rfl rfl rfl ?_
      refine Lx.y (sub rfl rfl (show IntKind.i64.wrap _ = ((j - 1 : Nat) : Int) by rw [wrap64 (by omega) (by omega)]; omega)) rfl ?_
      refine Lx.gT rfl rfl rfl ?_
      refine Lx.y (ia Tryd.underlying78 sz5 rfl rfl (by first | exact Int.toNat_natCast _ | rfl) (by omega) (by omega)) rfl ?_
      refine Lx.gT rfl rfl rfl ?_
      refine Lx.y (ld Tryd.underlying5 rfl rfl (cells_get (by omega))) rfl ?_
      refine Lx.gT rfl rfl rfl ?_
      refine Lx.y (eqI rfl rfl) rfl ?_
      refine Lx.y (pickT rfl rfl) rfl ?_
      refine Lx.nil ?_
      refine Xx.tn (k4 _ _ _ _ ?_)
      refine Cx.condD rfl (fun h6 => ?_) (fun h6 => ?_)
      · skip
        have hff := h6
        refine Cx.skip ?_
        refine Xx.tn (k3 _ _ _ _ ?_)
        refine Cx.block ?_
        refine Cx.region ?_
        refine Lx.y (mv rfl) rfl ?_
        refine Lx.y (mv rfl) rfl ?_
        refine Lx.y (lenV (ty' := 0) Tryd.underlying78 rfl) rfl ?_
        refine Lx.y (sub rfl rfl (show IntKind.i64.wrap _ = ((j - 1 : Nat) : Int) by rw [wrap64 (by omega) (by omega)]; omega)) rfl ?_
        refine Lx.y (sl2V Tryd.underlying78 sz5 rfl rfl (by first | exact Int.toNat_natCast _ | rfl) (by omega) (by omega)) rfl ?_
        refine Lx.y (asg rfl) rfl ?_
        refine Lx.nil ?_
        refine Xx.bn ?_
        exact Xx.againK ⟨j - 1, ⟨by omega, fun k h1 h2 => by
  by_cases hk : k = j - 1
  · subst hk; apply UInt8.toNat_inj.1; have := hff; simp at *; omega
  · exact hall k (by omega) h2⟩, rfl, rfl, rfl, rfl⟩ (by omega) (Sub.cons (s := 3) rfl (Sub.cons (s := 0) rfl (Sub.cons (s := 2) rfl (Sub.cons (s := 4) rfl (Sub.cons (s := 5) rfl (Sub.nil _))))))
      · skip
        have hne := h6
        refine Cx.exit ?_
        refine Xx.te ?_
        refine Xx.te ?_
        refine Xx.bh ?_
        exact Xx.mkK (⟨j, hj, hall, fun _ e => hne (by rw [e]; rfl), rfl, rfl, rfl⟩) (Sub.cons (s := 3) rfl (Sub.cons (s := 0) rfl (Sub.cons (s := 2) rfl (Sub.cons (s := 4) rfl (Sub.cons (s := 5) rfl (Sub.nil _))))))
    · skip
      obtain rfl : j = 0 := by omega
      refine Lx.gF rfl rfl rfl rfl ?_
      refine Lx.gF rfl rfl rfl rfl ?_
      refine Lx.gF rfl rfl rfl rfl ?_
      refine Lx.gF rfl rfl rfl rfl ?_
      refine Lx.gF rfl rfl rfl rfl ?_
      refine Lx.gF rfl rfl rfl rfl ?_
      refine Lx.gF rfl rfl rfl rfl ?_
      refine Lx.y (pickF rfl rfl) rfl ?_
      refine Lx.nil ?_
      refine Xx.tn (k4 _ _ _ _ ?_)
      refine Cx.condF rfl ?_
      refine Cx.exit ?_
      refine Xx.te ?_
      refine Xx.te ?_
      refine Xx.bh ?_
      exact Xx.mkK (⟨0, hj, hall, fun h => absurd h (by decide), rfl, rfl, rfl⟩) (Sub.cons (s := 3) rfl (Sub.cons (s := 0) rfl (Sub.cons (s := 2) rfl (Sub.cons (s := 4) rfl (Sub.cons (s := 5) rfl (Sub.nil _))))))
  · rintro ρ' B' H' ⟨j, hj, hall, hne, rfl, rfl, rfl⟩
    refine Cx.seq (fun K7 k7 => ?_)
    refine Cx.seq (fun K8 k8 => ?_)
    refine Cx.region ?_
    refine Lx.y (mv rfl) rfl ?_
    refine Lx.y (lenV (ty' := 0) Tryd.underlying78 rfl) rfl ?_
    refine Lx.y (gtr rfl rfl) rfl ?_
    refine Lx.nil ?_
    refine Xx.tn (k8 _ _ _ _ ?_)
    refine Cx.condD rfl (fun h9 => ?_) (fun h9 => ?_)
    · skip
      have hx6 := cells_set (l := l) (c := c) (y := toB (((l.getD (j - 1) 0).toNat : Nat) + 1 : Int)) (show 0 < j by omega) hj
      have hl6 : (u8s (l.take (j - 1) ++ [toB (((l.getD (j - 1) 0).toNat : Nat) + 1 : Int)])).length = j * 1 := by rw [u8s_len]; simp; omega
      have hp6 : nextP l (l.take (j - 1) ++ [toB (((l.getD (j - 1) 0).toNat : Nat) + 1 : Int)]) := ⟨j, hj, hall, .inr ⟨by omega, hne (by omega), rfl⟩⟩
      refine Cx.region ?_
      refine Lx.y (mv rfl) rfl ?_
      refine Lx.y (mv rfl) rfl ?_
      refine Lx.y (lenV (ty' := 0) Tryd.underlying78 rfl) rfl ?_
      refine Lx.y (sub rfl rfl (show IntKind.i64.wrap _ = ((j - 1 : Nat) : Int) by rw [wrap64 (by omega) (by omega)]; omega)) rfl ?_
      refine Lx.y (ia Tryd.underlying78 sz5 rfl rfl (by first | exact Int.toNat_natCast _ | rfl) (by omega) (by omega)) rfl ?_
      refine Lx.y (ld Tryd.underlying5 rfl rfl (cells_get (by omega))) rfl ?_
      refine Lx.y (add rfl rfl (wrap_u8 _)) rfl ?_
      refine Lx.y (ia Tryd.underlying78 sz5 rfl rfl (by first | exact Int.toNat_natCast _ | rfl) (by omega) (by omega)) rfl ?_
      refine Lx.st (stF Tryd.underlying5 sz5 rfl rfl rfl (by rw [cells_len hc]; omega) (by omega) rfl) ?_
      refine Lx.nil ?_
      refine Xx.tn (k7 _ _ _ _ ?_)
      refine Cx.seq (fun K10 k10 => ?_)
      refine Cx.region ?_
      refine Lx.y (mv rfl) rfl ?_
      refine Lx.y (b2s Tryd.underlying78 Tryd.underlying5 Tryd.underlying9 rfl (Src'.row hl6 hx6) PickB.eq) rfl ?_
      refine Lx.y (asg rfl) rfl ?_
      refine Lx.nil ?_
      refine Xx.tn (k10 _ _ _ _ ?_)
      refine Cx.ret ?_
      exact Xx.dropB b (Xx.rB1 rfl rfl ⟨rfl, _, rfl, hp6⟩ (Frag.le_refl _) rfl)
    · skip
      obtain rfl : j = 0 := by omega
      have hx6 : ((cells l c).drop 0).take (0 * 1) = u8s [] := rfl
      have hl6 : (u8s []).length = 0 * 1 := rfl
      have hp6 : nextP l [] := ⟨0, hj, hall, .inl ⟨rfl, rfl⟩⟩
      refine Cx.skip ?_
      refine Xx.tn (k7 _ _ _ _ ?_)
      refine Cx.seq (fun K11 k11 => ?_)
      refine Cx.region ?_
      refine Lx.y (mv rfl) rfl ?_
      refine Lx.y (b2s Tryd.underlying78 Tryd.underlying5 Tryd.underlying9 rfl (Src'.row hl6 hx6) PickB.eq) rfl ?_
      refine Lx.y (asg rfl) rfl ?_
      refine Lx.nil ?_
      refine Xx.tn (k11 _ _ _ _ ?_)
      refine Cx.ret ?_
      exact Xx.dropB b (Xx.rB1 rfl rfl ⟨rfl, _, rfl, hp6⟩ (Frag.le_refl _) rfl)
end Ke1
end Go.Proofs.YtfnfkoldifpmhaaDoor
