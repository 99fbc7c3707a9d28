/-
  The law of checks: the walk, and that both checks are one function.
-/
import Derived.Test.YtgcebieihmlaoaaProg
import Derived.Test.YtgcebieihmlaoaaSlj
import Derived.Test.YtgcebieihmlaoaaFr5
namespace Go.Proofs.Ytgcebieihmlaoaa
open Go.SL Go.RowKit
set_option linter.unusedVariables false
set_option linter.unusedSimpArgs false
set_option maxRecDepth 100000
open Fr1 Fr2 Fr3 Fr4 Fr5
namespace Fr6


theorem crc_key (x : BitVec 32) : (3988292384#32 &&& -(x &&& 1#32)) = if x.getLsbD 0 then 3988292384#32 else 0#32 := by
  have h : x &&& 1#32 = if x.getLsbD 0 then 1#32 else 0#32 := by
    ext i hi
    simp only [BitVec.getElem_and, BitVec.getElem_one]
    cases i with
    | zero => cases hx : x.getLsbD 0 <;> simp_all [BitVec.getLsbD_eq_getElem]
    | succ i => cases hx : x.getLsbD 0 <;> simp
  rw [h]
  cases x.getLsbD 0 <;> decide
theorem crcBit_eq (x : BitVec 32) : crcBit x = (x >>> 1) ^^^ (if x.getLsbD 0 then 3988292384#32 else 0#32) := by unfold crcBit; rw [crc_key]
theorem xor_if (u v : Bool) (p q c : BitVec 32) : (p ^^^ q) ^^^ (if (u ^^ v) = true then c else 0#32) = (p ^^^ (if u = true then c else 0#32)) ^^^ (q ^^^ (if v = true then c else 0#32)) := by
  have e1 : (if (true : Bool) = true then c else 0#32) = c := rfl
  have e2 : (if (false : Bool) = true then c else 0#32) = 0#32 := rfl
  have h : ∀ b : Bool, (false ^^ b) = b ∧ (true ^^ false) = true ∧ (true ^^ true) = false := by decide
  cases u <;> cases v
  · rw [(h false).1, e2, BitVec.xor_zero, BitVec.xor_zero, BitVec.xor_zero]
  · rw [(h true).1, e1, e2, BitVec.xor_zero, BitVec.xor_assoc]
  · rw [(h true).2.1, e1, e2, BitVec.xor_zero, BitVec.xor_assoc, BitVec.xor_comm q c, ← BitVec.xor_assoc]
  · rw [(h true).2.2, e1, e2, BitVec.xor_zero, BitVec.xor_comm q c, BitVec.xor_assoc p c, ← BitVec.xor_assoc c c q, BitVec.xor_self, BitVec.zero_xor]
theorem crcBit_xor (a b : BitVec 32) : crcBit (a ^^^ b) = crcBit a ^^^ crcBit b := by
  rw [crcBit_eq, crcBit_eq, crcBit_eq, BitVec.getLsbD_xor, BitVec.ushiftRight_xor_distrib]
  exact xor_if _ _ _ _ _
theorem crcBits_xor (n : Nat) (a b : BitVec 32) : crcBits n (a ^^^ b) = crcBits n a ^^^ crcBits n b := by
  induction n with
  | zero => rfl
  | succ n ih => simp only [crcBits, ih, crcBit_xor]
theorem halfBit_eq (h : BitVec 32) : halfBit h = crcBit h := by
  rw [crcBit_eq]
  unfold halfBit
  have h2 : h / 2#32 = h >>> 1 := by
    apply BitVec.eq_of_toNat_eq
    simp [BitVec.toNat_udiv, Nat.shiftRight_eq_div_pow]
  have h3 : (h % 2#32 = 1#32) ↔ h.getLsbD 0 = true := by
    rw [← BitVec.toNat_inj]
    simp [BitVec.toNat_umod, BitVec.getLsbD, Nat.testBit_zero]
  by_cases hh : h % 2#32 = 1#32
  · rw [if_pos hh, if_pos (h3.1 hh), h2]
  · rw [if_neg hh, if_neg (fun x => hh (h3.2 x)), h2]; simp
theorem halfBits_eq (n : Nat) (h : BitVec 32) : halfBits n h = crcBits n h := by
  induction n with
  | zero => rfl
  | succ n ih => simp only [crcBits, halfBits, ih, halfBit_eq]
theorem crcBits_hi (x : BitVec 32) (k : Nat) (hk : k ≤ 4) : crcBits k ((x >>> 4) <<< 4) = ((x >>> 4) <<< 4) >>> k := by
  induction k with
  | zero => simp [crcBits]
  | succ k ih =>
    simp only [crcBits]
    rw [ih (by omega), crcBit_eq]
    have : (((x >>> 4) <<< 4) >>> k).getLsbD 0 = false := by
      simp [BitVec.getLsbD_ushiftRight, BitVec.getLsbD_shiftLeft]; omega
    rw [this]
    simp [BitVec.shiftRight_add]
theorem refMid_eq (x : BitVec 32) : refMid x = crcBits 4 x := by
  unfold refMid
  rw [halfBits_eq]
  have e : x = ((x >>> 4) <<< 4) ^^^ (x % 16#32) := by
    have hm : x % 16#32 = x &&& 15#32 := by
      apply BitVec.eq_of_toNat_eq
      simp only [BitVec.toNat_umod, BitVec.toNat_and]
      exact (Nat.and_two_pow_sub_one_eq_mod x.toNat 4).symm
    rw [hm]
    ext i hi
    have h15 : (15#32)[i] = decide (i < 4) := by
      have : ∀ j : Fin 32, (15#32).getLsbD j.val = decide (j.val < 4) := by decide
      rw [← BitVec.getLsbD_eq_getElem]
      exact this ⟨i, hi⟩
    simp only [BitVec.getElem_xor, BitVec.getElem_and, BitVec.getElem_shiftLeft, BitVec.getLsbD_ushiftRight, h15]
    by_cases h4 : i < 4
    · simp [h4]
    · have : 4 + (i - 4) = i := by omega
      simp [h4, this, BitVec.getLsbD_eq_getElem hi]
  have e2 : crcBits 4 ((x >>> 4) <<< 4) = x / 16#32 := by
    rw [crcBits_hi x 4 (by omega)]
    have : x / 16#32 = x >>> 4 := by
      apply BitVec.eq_of_toNat_eq
      simp [BitVec.toNat_udiv, Nat.shiftRight_eq_div_pow]
    rw [this]
    ext i hi
    simp only [BitVec.getElem_ushiftRight, BitVec.getLsbD_shiftLeft, BitVec.getLsbD_ushiftRight]
    by_cases h4 : 4 + i < 32
    · simp [h4]
    · rw [BitVec.getLsbD_of_ge _ _ (by omega : 32 ≤ 4 + i)]; simp; omega
  conv => rhs; rw [e]
  rw [crcBits_xor, e2]
theorem crcTo_eq (l : List UInt8) (z : BitVec 32) : l.foldl crcStep z = l.foldl refStep z := by
  have hs : ∀ h b, crcStep h b = refStep h b := fun h b => by
    unfold crcStep refStep
    rw [refMid_eq, refMid_eq]; rfl
  induction l generalizing z with
  | nil => rfl
  | cons x l ih => simp only [List.foldl_cons, hs, ih]
theorem crc_eq (l : List UInt8) : crc l = refCrc l := by
  have ht : crcTo l = refTo l := crcTo_eq l _
  unfold crc refCrc
  rw [ht]
  exact (BitVec.allOnes_sub_eq_not _).symm
end Fr6
end Go.Proofs.Ytgcebieihmlaoaa
