/-
  The scan is the reference: plain laws.
-/
import Derived.Test.YtgcebieihmlaoaaProg
import Derived.Test.YtgcebieihmlaoaaSlj
import Derived.Test.YtgcebieihmlaoaaFr7
namespace Go.Proofs.Ytgcebieihmlaoaa
open Go.SL Go.RowKit
set_option linter.unusedVariables false
set_option linter.unusedSimpArgs false
set_option maxRecDepth 100000
open Fr1 Fr2 Fr3 Fr4 Fr5 Fr6 Fr7
namespace Fr8


theorem toB_eq {x y : Nat} (h : x % 256 = y % 256) : toB (x : Nat) = toB (y : Nat) := by
  apply UInt8.toNat_inj.1
  rw [toB_nat, toB_nat, h]
theorem toB_of {x : Nat} {b : UInt8} (h : x % 256 = b.toNat) : toB (x : Nat) = b := by
  apply UInt8.toNat_inj.1
  rw [toB_nat, h]
theorem refFour_eq (n : BitVec 32) : refFourL n = fourL n := by
  have hn := n.isLt
  have c : ∀ k, (n >>> k).toNat = n.toNat / 2 ^ k := fun k => by rw [BitVec.toNat_ushiftRight, Nat.shiftRight_eq_div_pow]
  unfold refFourL fourL
  have e0 : (n % 256#32).toNat = n.toNat % 256 := by rw [BitVec.toNat_umod]; rfl
  have e1 : (n / 256#32 % 256#32).toNat = n.toNat / 256 % 256 := by rw [BitVec.toNat_umod, BitVec.toNat_udiv]; rfl
  have e2 : (n / 65536#32 % 256#32).toNat = n.toNat / 65536 % 256 := by rw [BitVec.toNat_umod, BitVec.toNat_udiv]; rfl
  have e3 : (n / 16777216#32).toNat = n.toNat / 16777216 := by rw [BitVec.toNat_udiv]; rfl
  rw [e0, e1, e2, e3, c, c, c]
  rw [toB_eq (show n.toNat % 256 % 256 = n.toNat % 256 by omega), toB_eq (show n.toNat / 256 % 256 % 256 = n.toNat / 2 ^ 8 % 256 by omega), toB_eq (show n.toNat / 65536 % 256 % 256 = n.toNat / 2 ^ 16 % 256 by omega), toB_eq (show n.toNat / 16777216 % 256 = n.toNat / 2 ^ 24 % 256 by omega)]
theorem take_four (t : List UInt8) (h : 4 ≤ t.length) : t.take 4 = fourL (BitVec.ofNat 32 (refN t)) := by
  match t, h with
  | b0 :: b1 :: b2 :: b3 :: r, _ =>
    have h0 := b0.toNat_lt
    have h1 := b1.toNat_lt
    have h2 := b2.toNat_lt
    have h3 := b3.toNat_lt
    have hr : refN (b0 :: b1 :: b2 :: b3 :: r) = b0.toNat + b1.toNat * 256 + b2.toNat * 65536 + b3.toNat * 16777216 := rfl
    rw [hr]
    generalize hz : b0.toNat + b1.toNat * 256 + b2.toNat * 65536 + b3.toNat * 16777216 = z
    have hn : (BitVec.ofNat 32 z).toNat = z := by rw [BitVec.toNat_ofNat, Nat.mod_eq_of_lt (by omega)]
    unfold fourL
    rw [BitVec.toNat_ushiftRight, BitVec.toNat_ushiftRight, BitVec.toNat_ushiftRight, hn, Nat.shiftRight_eq_div_pow, Nat.shiftRight_eq_div_pow, Nat.shiftRight_eq_div_pow]
    rw [toB_of (show z % 256 = b0.toNat by omega), toB_of (show z / 2 ^ 8 % 256 = b1.toNat by omega), toB_of (show z / 2 ^ 16 % 256 = b2.toNat by omega), toB_of (show z / 2 ^ 24 % 256 = b3.toNat by omega)]
    rfl
theorem numL_ref (t : List UInt8) (h : 4 ≤ t.length) : numL t = BitVec.ofNat 32 (refN t) := by
  have h1 : t = fourL (BitVec.ofNat 32 (refN t)) ++ t.drop 4 := by rw [← take_four t h, List.take_append_drop]
  conv => lhs; rw [h1]
  exact numL_four _ _
theorem numL_nat (t : List UInt8) (h : 4 ≤ t.length) : (numL t).toNat = refN t := by
  rw [numL_ref t h, BitVec.toNat_ofNat, Nat.mod_eq_of_lt (refN_lt t)]
theorem refN_take (t : List UInt8) : refN (t.take 4) = refN t := by
  unfold refN
  simp [List.getD, List.getElem?_take]
theorem four_num {t : List UInt8} {c : BitVec 32} (h : 4 ≤ t.length) : fourL c = t.take 4 ↔ numL t = c := by
  constructor
  · intro e
    have h1 : t = fourL c ++ t.drop 4 := by rw [e, List.take_append_drop]
    rw [h1]; exact numL_four _ _
  · intro e
    rw [← e, numL_ref t h, take_four t h]
theorem next_ref (l : List UInt8) (a : Nat) (ha : a ≤ l.length) : nextF l a = if rIs l a then some (rx l a) else none := by
  have e1 : (l.take (a + 4)).drop a = (l.drop a).take 4 := by rw [List.drop_take]; congr 1; omega
  have e3 : (l.take (a + 8)).drop (a + 4) = ((l.drop a).drop 4).take 4 := by rw [List.drop_take, List.drop_drop]; congr 1; omega
  have e4 : (l.take (a + 12)).drop (a + 8) = ((l.drop a).drop 8).take 4 := by rw [List.drop_take, List.drop_drop]; congr 1; omega
  have e2 : ∀ n, (l.take (a + 12 + n)).drop (a + 12) = ((l.drop a).drop 12).take n := fun n => by rw [List.drop_take, List.drop_drop]; congr 1; omega
  have hlen : (l.drop a).length = l.length - a := List.length_drop
  have hR : rIs l a ↔ (a + 12 ≤ l.length ∧ refN (l.drop a) ≤ 65536 ∧ fourL (crc ((l.drop a).take 4)) = ((l.drop a).drop 4).take 4 ∧ a + 12 + refN (l.drop a) ≤ l.length) := by
    unfold rIs
    rw [e1, e3, refN_take, refFour_eq, ← crc_eq]
  have hX : rx l a = ⟨a + 12, ((l.drop a).drop 12).take (refN (l.drop a)), decide (fourL (crc (((l.drop a).drop 12).take (refN (l.drop a)))) = ((l.drop a).drop 8).take 4)⟩ := by
    unfold rx rB
    rw [e1, e4, e2, refN_take, refFour_eq, ← crc_eq]
  rw [nextF_eq l a ha, hX]
  unfold nextT
  generalize l.drop a = t at *
  by_cases d1 : t.length < 12
  · rw [if_pos d1, if_neg (fun h => by have := (hR.1 h).1; omega)]
  · have h4 : 4 ≤ t.length := by omega
    have h8 : 4 ≤ (t.drop 4).length := by rw [List.length_drop]; omega
    have h12 : 4 ≤ (t.drop 8).length := by rw [List.length_drop]; omega
    rw [if_neg d1, numL_nat t h4]
    by_cases d2 : 65536 < refN t
    · rw [if_pos d2, if_neg (fun h => by have := (hR.1 h).2.1; omega)]
    · rw [if_neg d2]
      by_cases d3 : numL (t.drop 4) = crc (t.take 4)
      · rw [if_neg (by simpa using d3)]
        by_cases d4 : t.length < 12 + refN t
        · rw [if_pos d4, if_neg (fun h => by have := (hR.1 h).2.2.2; omega)]
        · rw [if_neg d4, if_pos (hR.2 ⟨by omega, by omega, (four_num h8).2 d3, by omega⟩)]
          congr 2
          exact decide_eq_decide.2 (four_num h12).symm
      · rw [if_pos d3, if_neg (fun h => d3 ((four_num h8).1 (hR.1 h).2.2.1))]
theorem scan_ref (l : List UInt8) : ∀ (n a : Nat), a ≤ l.length → scanF l n a = rscanF l n a := by
  intro n
  induction n with
  | zero => intro a _; rfl
  | succ n ih =>
    intro a ha
    have h1 := next_ref l a ha
    unfold scanF rscanF
    by_cases h : rIs l a
    · rw [if_pos h] at h1
      have hx : nx l a = rx l a := by unfold nx; rw [h1]; rfl
      have hb := nx_bound ha (by rw [h1]; rfl)
      rw [if_pos (by rw [h1]; rfl), if_pos h, hx, ih _ (by rw [hx] at hb; exact hb.2)]
      have : (rx l a).pos + (rx l a).body.length = a + (12 + refN ((l.take (a + 4)).drop a)) := by
        have h4 := h.2.2.2
        unfold rx rB
        simp only [List.length_drop, List.length_take]
        generalize refN _ = z at *
        omega
      rw [this]
    · rw [if_neg h] at h1
      rw [if_neg (by rw [h1]; simp), if_neg h]
theorem end_ref (l : List UInt8) : ∀ (n a : Nat), a ≤ l.length → rendF l n a = match (rscanF l n a).getLast? with | none => a | some f => f.pos + f.body.length := by
  intro n
  induction n with
  | zero => intro a _; rfl
  | succ n ih =>
    intro a ha
    unfold rendF rscanF
    by_cases h : rIs l a
    · rw [if_pos h, if_pos h]
      have h4 := h.2.2.2
      have : (rx l a).pos + (rx l a).body.length = a + (12 + refN ((l.take (a + 4)).drop a)) := by
        unfold rx rB
        simp only [List.length_drop, List.length_take]
        generalize refN _ = z at *
        omega
      rw [ih _ (by omega)]
      cases hc : rscanF l n (a + (12 + refN ((l.take (a + 4)).drop a))) with
      | nil => simp [this]
      | cons x xs =>
        rw [List.getLast?_cons_cons, List.getLast?_eq_some_getLast (List.cons_ne_nil x xs)]
    · rw [if_neg h, if_neg h]; rfl
theorem scan_same (l : List UInt8) : scanL l = rscanL l := scan_ref l _ 0 (by omega)
theorem end_same (l : List UInt8) : rendL l = endL (scanL l) := by
  rw [scan_same]
  unfold rendL rscanL endL
  rw [end_ref l _ 0 (by omega)]
  cases (rscanF l (l.length + 1) 0).getLast? <;> rfl
theorem refFrame_eq (l : List UInt8) : refFrameL l = headL l ++ l := by
  unfold refFrameL headL
  rw [refFour_eq, refFour_eq, refFour_eq, ← crc_eq, ← crc_eq]
end Fr8
end Go.Proofs.Ytgcebieihmlaoaa
