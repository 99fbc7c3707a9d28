/-
  What is encoded reads back as it was; what reads was encoded so.
-/
import Derived.Test.YtcoiejmlpinpbaaProg
import Derived.Test.YtcoiejmlpinpbaaSlj
import Derived.Test.YtcoiejmlpinpbaaVaD
namespace Go.Proofs.Ytcoiejmlpinpbaa
open Go.SL Go.RowKit
set_option linter.unusedVariables false
set_option linter.unusedSimpArgs false
set_option maxRecDepth 100000
open Ke5 Ke6 Ke7 Ke8 Ke9 KeA KeB KeE KeF KeG KeH VaA VaB VaC VaD
namespace VaK


theorem toB_nat {n : Nat} (h : n < 256) : (toB ((n : Nat) : Int)).toNat = n := by
  unfold toB; simp; omega
theorem hiB_nat (n : BitVec 64) : (hiB n).toNat = n.toNat % 128 + 128 := by
  have key : ∀ x : Fin 256, (toB (((BitVec.ofInt 8 ((x.val : Nat) : Int) ||| BitVec.ofInt 8 128).toNat : Nat) : Int)).toNat = x.val % 128 + 128 := by decide +kernel
  unfold hiB
  have e : (toB ((n.toNat : Nat) : Int)).toNat = n.toNat % 256 := by unfold toB; simp; omega
  rw [e, key ⟨n.toNat % 256, Nat.mod_lt _ (by decide)⟩]
  show n.toNat % 256 % 128 + 128 = _
  omega
theorem uv_more {k : Nat} {n : BitVec 64} (h : 128 ≤ n.toNat) : uvF (k + 1) n = hiB n :: uvF k (n >>> 7) := by
  conv => lhs; unfold uvF
  rw [if_pos h]
theorem udec_uv : ∀ (k i : Nat) (n : BitVec 64) (r : List UInt8), k + i = 10 → i ≤ 9 → n.toNat < 2 ^ (64 - 7 * i) → (0 < i → 0 < n.toNat) → udec i (uvF k n ++ r) = .ok n.toNat (uvF k n).length := by
  intro k
  induction k with
  | zero => intro i n r h1 h2; omega
  | succ k ih =>
    intro i n r h1 h2 hn h0
    by_cases hb : 128 ≤ n.toNat
    · have hi8 : i ≤ 8 := by
        rcases Nat.lt_or_ge i 9 with h | h
        · omega
        · have e : i = 9 := by omega
          subst e; have h3 : (2:Nat) ^ (64 - 7 * 9) = 2 := rfl
          rw [h3] at hn; omega
      have hs : (n >>> 7).toNat = n.toNat / 128 := by rw [BitVec.toNat_ushiftRight, Nat.shiftRight_eq_div_pow]
      have hp : 2 ^ (64 - 7 * i) = 2 ^ (64 - 7 * (i + 1)) * 128 := by rw [show (128:Nat) = 2 ^ 7 from rfl, ← Nat.pow_add]; congr 1; omega
      have h3 := ih (i + 1) (n >>> 7) r (by omega) (by omega) (by rw [hs]; exact Nat.div_lt_of_lt_mul (by rw [Nat.mul_comm, ← hp]; exact hn)) (fun _ => by rw [hs]; omega)
      rw [uv_more hb, List.cons_append]
      unfold udec
      rw [hiB_nat, if_neg (by omega), if_neg (by omega), h3, hs]
      show Ud.ok _ _ = Ud.ok _ _
      congr 1
      omega
    · rw [uv_last hb, List.singleton_append]
      unfold udec
      have hn9 : i = 9 → n.toNat < 2 := fun e => by subst e; exact hn
      rw [toB_nat (by omega), if_neg (by omega), if_pos (by omega)]
      rfl
theorem udec_inv : ∀ (l : List UInt8) (i n k : Nat), i ≤ 9 → udec i l = .ok n k → (0 < i → 0 < n) ∧ n < 2 ^ (64 - 7 * i) ∧ l = uvF (10 - i) (BitVec.ofNat 64 n) ++ l.drop k ∧ k = (uvF (10 - i) (BitVec.ofNat 64 n)).length := by
  intro l
  induction l with
  | nil => intro i n k _ h; simp [udec] at h
  | cons b r ih =>
    intro i n k hi h
    obtain ⟨m, hm⟩ : ∃ m, 10 - i = m + 1 := ⟨9 - i, by omega⟩
    have hb := b.toNat_lt
    unfold udec at h
    split at h
    · cases h
    · rename_i hc
      split at h
      · rename_i hl
        injection h with h1 h2
        subst h1 h2
        have ht : (BitVec.ofNat 64 b.toNat).toNat = b.toNat := by rw [BitVec.toNat_ofNat]; omega
        have e : toB ((b.toNat : Nat) : Int) = b := UInt8.toNat_inj.1 (toB_nat hb)
        rw [uv_last (by rw [ht]; omega), ht, e]
        refine ⟨fun h => by omega, ?_, rfl, rfl⟩
        by_cases h9 : i = 9
        · subst h9; show b.toNat < 2; omega
        · have : (2:Nat) ^ 7 ≤ 2 ^ (64 - 7 * i) := Nat.pow_le_pow_right (by decide) (by omega)
          have h128 : (2:Nat) ^ 7 = 128 := rfl
          omega
      · rename_i hl
        split at h
        · rename_i n' k' hk
          injection h with h1 h2
          have hi9 : i ≠ 9 := fun e => by omega
          obtain ⟨g1, g2, g3, g4⟩ := ih (i + 1) n' k' (by omega) hk
          have g1' := g1 (by omega)
          have hp : 2 ^ (64 - 7 * i) = 2 ^ (64 - 7 * (i + 1)) * 128 := by rw [show (128:Nat) = 2 ^ 7 from rfl, ← Nat.pow_add]; congr 1; omega
          have hlt : n < 2 ^ (64 - 7 * i) := by rw [hp]; omega
          have h64 : n < 18446744073709551616 := Nat.lt_of_lt_of_le hlt (by rw [show (18446744073709551616:Nat) = 2 ^ 64 from rfl]; exact Nat.pow_le_pow_right (by decide) (by omega))
          have ht : (BitVec.ofNat 64 n).toNat = n := by rw [BitVec.toNat_ofNat]; omega
          have hm2 : 10 - (i + 1) = m := by omega
          rw [hm2] at g3 g4
          have hsh : BitVec.ofNat 64 n >>> 7 = BitVec.ofNat 64 n' := by
            apply BitVec.eq_of_toNat_eq
            rw [BitVec.toNat_ushiftRight, Nat.shiftRight_eq_div_pow, ht, BitVec.toNat_ofNat, Nat.mod_eq_of_lt (by omega)]
            show n / 128 = n'
            omega
          have hh : hiB (BitVec.ofNat 64 n) = b := UInt8.toNat_inj.1 (by rw [hiB_nat, ht]; omega)
          have e : uvF (10 - i) (BitVec.ofNat 64 n) = b :: uvF m (BitVec.ofNat 64 n') := by
            rw [hm, uv_more (by rw [ht]; omega), hsh, hh]
          rw [e]
          refine ⟨fun h => by omega, hlt, ?_, ?_⟩
          · subst h2
            show b :: r = b :: (uvF m (BitVec.ofNat 64 n') ++ r.drop k')
            rw [← g3]
          · subst h2; simp [g4]
        · cases h
/-- A number read out of its bytes. -/
theorem udec_to {n : Nat} (h : n < 18446744073709551616) (r : List UInt8) : udec 0 (uvL (BitVec.ofNat 64 n) ++ r) = .ok n (uvL (BitVec.ofNat 64 n)).length := by
  have ht : (BitVec.ofNat 64 n).toNat = n := by rw [BitVec.toNat_ofNat]; omega
  have := udec_uv 10 0 (BitVec.ofNat 64 n) r rfl (by decide) (by rw [ht]; exact h) (fun h => absurd h (by decide))
  rw [ht] at this; exact this
theorem udec_of {l : List UInt8} {n k : Nat} (h : udec 0 l = .ok n k) : n < 18446744073709551616 ∧ l = uvL (BitVec.ofNat 64 n) ++ l.drop k ∧ k = (uvL (BitVec.ofNat 64 n)).length :=
  let ⟨_, h2, h3, h4⟩ := udec_inv l 0 n k (by decide) h; ⟨h2, h3, h4⟩
/-- A cursor that took exactly these bytes. -/
def Took (c c' : Cu) (l : List UInt8) : Prop := c.e = 0 ∧ c'.e = 0 ∧ c'.s = c.s ∧ c'.at' = c.at' + l.length ∧ c.s.drop c.at' = l ++ c.s.drop c'.at'
theorem Took.refl {c : Cu} (h : c.e = 0) : Took c c [] := ⟨h, h, rfl, rfl, rfl⟩
theorem Took.trans {a b c : Cu} {l m : List UInt8} (h : Took a b l) (g : Took b c m) : Took a c (l ++ m) := by
  obtain ⟨h1, h2, h3, h4, h5⟩ := h
  obtain ⟨g1, g2, g3, g4, g5⟩ := g
  refine ⟨h1, g2, g3.trans h3, by simp; omega, ?_⟩
  rw [h3] at g5
  rw [h5, g5, List.append_assoc]
/-- Ahead of the cursor stand these bytes. -/
def Ahead (c : Cu) (l : List UInt8) : Prop := c.e = 0 ∧ ∃ r, c.s.drop c.at' = l ++ r
theorem Ahead.to {c : Cu} {l : List UInt8} (h : Ahead c l) : Took c ⟨c.s, c.at' + l.length, 0⟩ l := by
  obtain ⟨h1, r, h2⟩ := h
  refine ⟨h1, rfl, rfl, rfl, ?_⟩
  show _ = l ++ c.s.drop (c.at' + l.length)
  rw [← List.drop_drop, h2, List.drop_left]
theorem Ahead.split {c : Cu} {l m : List UInt8} (h : Ahead c (l ++ m)) : Ahead c l := by
  obtain ⟨h1, r, h2⟩ := h
  exact ⟨h1, m ++ r, by rw [h2, List.append_assoc]⟩
theorem Ahead.next {c c' : Cu} {l m : List UInt8} (h : Ahead c (l ++ m)) (t : Took c c' l) : Ahead c' m := by
  obtain ⟨h1, r, h2⟩ := h
  obtain ⟨_, t2, t3, t4, t5⟩ := t
  refine ⟨t2, r, ?_⟩
  rw [t5, List.append_assoc] at h2
  rw [t3]
  exact List.append_cancel_left h2
theorem cu_eq {a b : Cu} (h1 : a.s = b.s) (h2 : a.at' = b.at') (h3 : a.e = b.e) : a = b := by cases a; cases b; simp at h1 h2 h3; subst h1 h2 h3; rfl
theorem Took.eq {c c1 c2 : Cu} {l : List UInt8} (h : Took c c1 l) (g : Took c c2 l) : c1 = c2 := cu_eq (h.2.2.1.trans g.2.2.1.symm) (h.2.2.2.1.trans g.2.2.2.1.symm) (h.2.1.trans g.2.1.symm)
/-! ### numbers, bytes, text -/
theorem uint_to {c : Cu} {n : Nat} (h : n < 18446744073709551616) (a : Ahead c (uvL (BitVec.ofNat 64 n))) : Took c c.uint.1 (uvL (BitVec.ofNat 64 n)) ∧ c.uint.2 = n := by
  have e : c.uint = (⟨c.s, c.at' + (uvL (BitVec.ofNat 64 n)).length, 0⟩, n) := by
    obtain ⟨h1, r, h2⟩ := a
    unfold Cu.uint
    rw [if_neg (by simpa using h1), h2, udec_to h]
    show ((⟨_, _, _⟩ : Cu), _) = _
    rw [h1]
  rw [e]; exact ⟨a.to, rfl⟩
theorem uint_of {c : Cu} (h : c.e = 0) (h2 : c.uint.1.e = 0) (hk : ∀ x, udec 0 (c.s.drop c.at') = .bad x → x ≠ 0) : c.uint.2 < 18446744073709551616 ∧ Took c c.uint.1 (uvL (BitVec.ofNat 64 c.uint.2)) := by
  unfold Cu.uint at *
  rw [if_neg (by simpa using h)] at *
  cases hu : udec 0 (c.s.drop c.at') with
  | bad x => rw [hu] at h2; exact absurd h2 (hk x hu)
  | ok n k =>
    obtain ⟨g1, g2, g3⟩ := udec_of hu
    refine ⟨g1, h, h, rfl, by show c.at' + k = _; rw [g3]; rfl, ?_⟩
    show _ = uvL (BitVec.ofNat 64 n) ++ c.s.drop (c.at' + k)
    rw [← List.drop_drop]; exact g2
theorem udec_bad : ∀ (l : List UInt8) (i : Nat) (x : Int), udec i l = .bad x → x ≠ 0 := by
  intro l
  induction l with
  | nil => intro i x h; simp [udec] at h; omega
  | cons b r ih =>
    intro i x h
    unfold udec at h
    split at h
    · injection h with h; omega
    · split at h
      · cases h
      · split at h
        · cases h
        · rename_i hk
          injection h with h1
          subst h1
          exact ih _ _ hk
theorem count_to {c : Cu} {n most : Nat} (hm : n ≤ most) (hm2 : n < 18446744073709551616) (a : Ahead c (uvL (BitVec.ofNat 64 n))) : Took c (c.count most).1 (uvL (BitVec.ofNat 64 n)) ∧ (c.count most).2 = n := by
  obtain ⟨h1, h2⟩ := uint_to hm2 a
  have e : c.cnt most = c.uint.1 := by unfold Cu.cnt; rw [if_neg (by rw [h2]; omega)]
  unfold Cu.count
  rw [if_neg (by have := a.1; simpa using this), e, if_neg (by have := h1.2.1; simpa using this)]
  exact ⟨h1, h2⟩
theorem count_of {c : Cu} {most : Nat} (h : c.e = 0) (h2 : (c.count most).1.e = 0) : (c.count most).2 ≤ most ∧ (c.count most).2 < 18446744073709551616 ∧ Took c (c.count most).1 (uvL (BitVec.ofNat 64 (c.count most).2)) := by
  unfold Cu.count at *
  rw [if_neg (by simpa using h)] at *
  have h3 : (c.cnt most).e = 0 := h2
  show (if _ then _ else _) ≤ _ ∧ (if _ then _ else _) < _ ∧ Took c (c.cnt most) (uvL (BitVec.ofNat 64 (if _ then _ else _)))
  rw [if_neg (by simpa using h3)]
  unfold Cu.cnt at *
  split at h3
  · exact absurd h3 (by show ¬ (3 : Int) = 0; decide)
  · rename_i hc
    rw [if_neg hc]
    obtain ⟨g1, g2⟩ := uint_of h h3 (fun x hx => udec_bad _ _ _ hx)
    exact ⟨by omega, g1, g2⟩
theorem bytes_to {c : Cu} {l : List UInt8} (hc : c.at' ≤ c.s.length) (a : Ahead c l) : Took c (c.bytes l.length).1 l ∧ (c.bytes l.length).2 = l := by
  have t := a.to
  obtain ⟨h1, r, h2⟩ := a
  have hl := congrArg List.length h2
  rw [List.length_drop, List.length_append] at hl
  have e : c.bytes l.length = (⟨c.s, c.at' + l.length, 0⟩, l) := by
    unfold Cu.bytes
    rw [if_neg (by simpa using h1), if_neg (by omega), h2, List.take_left, h1]
  rw [e]; exact ⟨t, rfl⟩
theorem bytes_of {c : Cu} {k : Nat} (h : c.e = 0) (h2 : (c.bytes k).1.e = 0) : (c.bytes k).2.length = k ∧ Took c (c.bytes k).1 (c.bytes k).2 := by
  unfold Cu.bytes at *
  rw [if_neg (by simpa using h)] at *
  split at h2
  · exact absurd h2 (by show ¬ (4 : Int) = 0; decide)
  · rename_i hn
    rw [if_neg hn]
    have hl : ((c.s.drop c.at').take k).length = k := by rw [List.length_take, List.length_drop]; omega
    refine ⟨hl, h, h, rfl, by show c.at' + k = _; rw [hl], ?_⟩
    show _ = (c.s.drop c.at').take k ++ c.s.drop (c.at' + k)
    rw [← List.drop_drop, List.take_append_drop]
theorem Took.at {c c' : Cu} {l : List UInt8} (t : Took c c' l) (hc : c.at' ≤ c.s.length) : c'.at' ≤ c'.s.length := by
  obtain ⟨h1, h2, h3, h4, h5⟩ := t
  have := congrArg List.length h5
  simp only [List.length_drop, List.length_append] at this
  rw [h3]
  by_cases e : c.at' + l.length ≤ c.s.length
  · omega
  · omega
theorem txt_eq (s : List UInt8) : txtL s = uvL (BitVec.ofNat 64 s.length) ++ s := rfl
theorem text_to {c : Cu} {s : List UInt8} {most : Nat} (hc : c.at' ≤ c.s.length) (hm : s.length ≤ most) (hm2 : s.length < 18446744073709551616) (a : Ahead c (txtL s)) : Took c (c.text most).1 (txtL s) ∧ (c.text most).2 = s := by
  rw [txt_eq] at a
  obtain ⟨h1, h2⟩ := count_to hm hm2 a.split
  obtain ⟨h3, h4⟩ := bytes_to (h1.at hc) (a.next h1)
  unfold Cu.text
  rw [h2, if_neg (by have := h3.2.1; simpa using this)]
  exact ⟨h1.trans h3, h4⟩
theorem text_of {c : Cu} {most : Nat} (h : c.e = 0) (h2 : (c.text most).1.e = 0) : (c.text most).2.length ≤ most ∧ Took c (c.text most).1 (txtL (c.text most).2) := by
  unfold Cu.text at *
  have h2' : (if ((c.count most).1.bytes (c.count most).2).1.e ≠ 0 then ⟨c.s, c.at', ((c.count most).1.bytes (c.count most).2).1.e⟩ else ((c.count most).1.bytes (c.count most).2).1 : Cu).e = 0 := h2
  clear h2
  by_cases hz : ((c.count most).1.bytes (c.count most).2).1.e = 0
  · rw [if_neg (by simpa using hz)]
    have hz1 : (c.count most).1.e = 0 := by
      refine Classical.byContradiction fun hn => ?_
      unfold Cu.bytes at hz; rw [if_pos hn] at hz; exact hn hz
    obtain ⟨g1, g2, g3⟩ := count_of h hz1
    obtain ⟨g4, g5⟩ := bytes_of hz1 hz
    rw [txt_eq, g4]
    exact ⟨g1, g3.trans g5⟩
  · rw [if_pos hz] at h2'; exact absurd h2' hz
/-! ### the fold of a signed number -/
theorem zz_nat {n : Int} (h1 : -9223372036854775808 ≤ n) (h2 : n ≤ 9223372036854775807) : (BitVec.ofInt 64 n <<< 1 ^^^ BitVec.ofInt 64 (n / 9223372036854775808)).toNat = if n < 0 then (-2 * n - 1).toNat else (2 * n).toNat := by
  have ht : (BitVec.ofInt 64 n).toNat = (n % 18446744073709551616).toNat := by rw [BitVec.toNat_ofInt]; rfl
  have hs : (BitVec.ofInt 64 n <<< 1).toNat = (2 * (n % 18446744073709551616).toNat) % 18446744073709551616 := by rw [BitVec.toNat_shiftLeft, ht, Nat.shiftLeft_eq]; simp only [Nat.reducePow]; rw [Nat.mul_comm]
  by_cases hn : n < 0
  · have e : n / 9223372036854775808 = -1 := by omega
    rw [e, if_pos hn, show BitVec.ofInt 64 (-1) = BitVec.allOnes 64 by decide, BitVec.xor_allOnes, BitVec.toNat_not, hs]
    simp only [Nat.reducePow]; omega
  · have e : n / 9223372036854775808 = 0 := by omega
    rw [e, if_neg hn, show BitVec.ofInt 64 0 = 0#64 by decide, BitVec.xor_zero, hs]; omega
def zz (n : Int) : Nat := if n < 0 then (-2 * n - 1).toNat else (2 * n).toNat
theorem zz_lt {n : Int} (h1 : -9223372036854775808 ≤ n) (h2 : n ≤ 9223372036854775807) : zz n < 18446744073709551616 := by unfold zz; split <;> omega
theorem intL_zz {n : Int} (h1 : -9223372036854775808 ≤ n) (h2 : n ≤ 9223372036854775807) : intL n = uvL (BitVec.ofNat 64 (zz n)) := by
  unfold intL
  congr 1
  apply BitVec.eq_of_toNat_eq
  rw [zz_nat h1 h2, BitVec.toNat_ofNat]
  exact (Nat.mod_eq_of_lt (zz_lt h1 h2)).symm
theorem zig_zz (n : Int) : zig (zz n) = n := by unfold zig zz; split <;> split <;> omega
theorem zz_zig (m : Nat) : zz (zig m) = m := by unfold zig zz; split <;> split <;> omega
end VaK
end Go.Proofs.Ytcoiejmlpinpbaa
