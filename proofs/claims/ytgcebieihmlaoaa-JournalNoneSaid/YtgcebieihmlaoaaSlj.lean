/-
  Unsigned words as bit vectors, over the states of the small separation logic.
-/
import Derived.Test.YtgcebieihmlaoaaSli
namespace Go.SL
open Go.RowKit
set_option linter.unusedSimpArgs false
set_option linter.unusedVariables false

abbrev u32 (x : BitVec 32) : Value := .int .u32 (x.toNat : Nat)
theorem wrapBV32 (n : Int) : IntKind.u32.wrap n = ((BitVec.ofInt 32 n).toNat : Nat) := by
  have h := BitVec.toNat_ofInt (n := 32) n
  rw [h]
  simp only [IntKind.wrap, IntKind.bits, IntKind.signed, Bool.false_and]
  have h1 : 0 ≤ n % (2 ^ 32 : Int) := Int.emod_nonneg _ (by decide)
  simp
  omega
theorem ofInt_nat32 (n : Nat) : BitVec.ofInt 32 (n : Int) = BitVec.ofNat 32 n := BitVec.ofInt_natCast _ _
theorem ofNat_bv32 (a : BitVec 32) : BitVec.ofNat 32 a.toNat = a := by rw [BitVec.ofNat_toNat, BitVec.setWidth_eq]
theorem ofInt_toNat32 (a : BitVec 32) : BitVec.ofInt 32 (a.toNat : Int) = a := by rw [ofInt_nat32]; simp
section
variable {P : Program} {ρ : Sl} {S : World → Prop} {ty t t' : TypeId} {x y : Operand} {a b : BitVec 32} {k k' : IntKind} {n : Int}
theorem addW32 (hx : ev ρ x = some (u32 a)) (hy : ev ρ y = some (u32 b)) : Yx P (.binOp .add t x y t') ty ρ S (u32 (a + b)) :=
  add hx hy (by rw [wrapBV32, BitVec.ofInt_add, ofInt_toNat32, ofInt_toNat32])
theorem subW32 (hx : ev ρ x = some (u32 a)) (hy : ev ρ y = some (u32 b)) : Yx P (.binOp .sub t x y t') ty ρ S (u32 (a - b)) :=
  sub hx hy (by rw [wrapBV32, Int.sub_eq_add_neg, BitVec.ofInt_add, BitVec.ofInt_neg, ofInt_toNat32, ofInt_toNat32, BitVec.sub_eq_add_neg])
theorem mulW32 (hx : ev ρ x = some (u32 a)) (hy : ev ρ y = some (u32 b)) : Yx P (.binOp .mul t x y t') ty ρ S (u32 (a * b)) :=
  mul hx hy (by rw [wrapBV32, BitVec.ofInt_mul, ofInt_toNat32, ofInt_toNat32])
theorem xorW32 (hx : ev ρ x = some (u32 a)) (hy : ev ρ y = some (u32 b)) : Yx P (.binOp .xor t x y t') ty ρ S (u32 (a ^^^ b)) :=
  bxor hx hy (by unfold bXor; rw [wrapBV32, ofInt_nat32]; congr 2; show BitVec.ofNat 32 ((BitVec.ofInt 32 _ ^^^ BitVec.ofInt 32 _ : BitVec 32).toNat) = _; rw [ofInt_toNat32, ofInt_toNat32]; simp)
theorem andW32 (hx : ev ρ x = some (u32 a)) (hy : ev ρ y = some (u32 b)) : Yx P (.binOp .and t x y t') ty ρ S (u32 (a &&& b)) :=
  band hx hy (by unfold bAnd; rw [wrapBV32, ofInt_nat32]; congr 2; show BitVec.ofNat 32 ((BitVec.ofInt 32 _ &&& BitVec.ofInt 32 _ : BitVec 32).toNat) = _; rw [ofInt_toNat32, ofInt_toNat32]; simp)
theorem orW32 (hx : ev ρ x = some (u32 a)) (hy : ev ρ y = some (u32 b)) : Yx P (.binOp .or t x y t') ty ρ S (u32 (a ||| b)) :=
  bor hx hy (by unfold bOr; rw [wrapBV32, ofInt_nat32]; congr 2; show BitVec.ofNat 32 ((BitVec.ofInt 32 _ ||| BitVec.ofInt 32 _ : BitVec 32).toNat) = _; rw [ofInt_toNat32, ofInt_toNat32]; simp)
theorem shrW32 {c : Nat} (hx : ev ρ x = some (u32 a)) (hy : ev ρ y = some (.int k' (c : Nat))) (hc : Nat.ble c 32 = true) : Yx P (.binOp .shr t x y t') ty ρ S (u32 (a >>> c)) :=
  shr hx hy (by omega) (by
    have hc' : c ≤ 32 := by simpa using hc
    have hm : min (c : Int).toNat (IntKind.bits .u32) = c := by simp [IntKind.bits]; omega
    rw [hm, BitVec.toNat_ushiftRight, Nat.shiftRight_eq_div_pow, Int.fdiv_eq_ediv_of_nonneg _ (Int.le_of_lt (Int.pow_pos (by decide)))]
    simp)
theorem shlW32 {c : Nat} (hx : ev ρ x = some (u32 a)) (hy : ev ρ y = some (.int k' (c : Nat))) (hc : Nat.ble c 32 = true) : Yx P (.binOp .shl t x y t') ty ρ S (u32 (a <<< c)) :=
  shl hx hy (by omega) (by
    have hc' : c ≤ 32 := by simpa using hc
    have hm : min (c : Int).toNat (IntKind.bits .u32) = c := by simp [IntKind.bits]; omega
    rw [hm, wrapBV32, BitVec.toNat_shiftLeft, Nat.shiftLeft_eq]
    have : ((a.toNat : Nat) : Int) * 2 ^ c = ((a.toNat * 2 ^ c : Nat) : Int) := by simp
    rw [this, ofInt_nat32]; simp)
theorem negW32 (hx : ev ρ x = some (u32 a)) : Yx P (.unOp .neg t x) ty ρ S (u32 (-a)) :=
  neg hx (by rw [wrapBV32, Int.zero_sub, BitVec.ofInt_neg, ofInt_toNat32])
theorem complW32 (hx : ev ρ x = some (u32 a)) : Yx P (.unOp .xor t x) ty ρ S (u32 (~~~a)) :=
  compl hx (by
    unfold bXor; rw [wrapBV32, ofInt_nat32]; congr 2
    show BitVec.ofNat 32 ((BitVec.ofInt 32 (if IntKind.signed .u32 = true then -1 else IntKind.max .u32) ^^^ BitVec.ofInt 32 _ : BitVec 32).toNat) = _
    have : BitVec.ofInt 32 (if IntKind.signed .u32 = true then -1 else IntKind.max .u32) = BitVec.allOnes 32 := by decide
    rw [this, ofInt_toNat32, BitVec.allOnes_xor, ofNat_bv32])
theorem quoW32 (hx : ev ρ x = some (u32 a)) (hy : ev ρ y = some (u32 b)) (h0 : b ≠ 0) : Yx P (.binOp .quo t x y t') ty ρ S (u32 (a / b)) :=
  quo hx hy (by intro h; apply h0; apply BitVec.eq_of_toNat_eq; simpa using h) (by
    rw [Int.tdiv_eq_ediv_of_nonneg (by omega), wrapBV32, ← Int.natCast_ediv, ofInt_nat32, ← BitVec.toNat_udiv, ofNat_bv32])
theorem remW32 (hx : ev ρ x = some (u32 a)) (hy : ev ρ y = some (u32 b)) (h0 : b ≠ 0) : Yx P (.binOp .rem t x y t') ty ρ S (u32 (a % b)) :=
  rem hx hy (by intro h; apply h0; apply BitVec.eq_of_toNat_eq; simpa using h) (by
    rw [Int.tmod_eq_emod_of_nonneg (by omega), ← Int.natCast_emod, ← BitVec.toNat_umod])
/-- Of a number, of a byte, of a word. -/
theorem cvW32 {s d : TypeId} {D : TypeDesc} (hx : ev ρ x = some (.int k n)) (hs : P.underlying s = some D) (hd : P.underlying d = some (.int .u32)) : Yx P (.convert s d x) ty ρ S (u32 (BitVec.ofInt 32 n)) :=
  cvI hx hs hd (wrapBV32 n)
theorem eqW32 (hx : ev ρ x = some (u32 a)) (hy : ev ρ y = some (u32 b)) : Yx P (.binOp .eql t x y t') ty ρ S (.bool (decide (a = b))) := by
  have := eqI (P := P) (ty := ty) (S := S) (t := t) (t' := t') hx hy
  have e : decide ((a.toNat : Int) = (b.toNat : Int)) = decide (a = b) := by
    rw [decide_eq_decide]; constructor
    · intro h; apply BitVec.eq_of_toNat_eq; exact Int.ofNat.inj h
    · intro h; rw [h]
  rw [e] at this; exact this
theorem neW32 (hx : ev ρ x = some (u32 a)) (hy : ev ρ y = some (u32 b)) : Yx P (.binOp .neq t x y t') ty ρ S (.bool (!decide (a = b))) := by
  have := neI (P := P) (ty := ty) (S := S) (t := t) (t' := t') hx hy
  have e : decide ((a.toNat : Int) = (b.toNat : Int)) = decide (a = b) := by
    rw [decide_eq_decide]; constructor
    · intro h; apply BitVec.eq_of_toNat_eq; exact Int.ofNat.inj h
    · intro h; rw [h]
  rw [e] at this; exact this
end

abbrev u64 (x : BitVec 64) : Value := .int .u64 (x.toNat : Nat)
theorem wrapBV64 (n : Int) : IntKind.u64.wrap n = ((BitVec.ofInt 64 n).toNat : Nat) := by
  have h := BitVec.toNat_ofInt (n := 64) n
  rw [h]
  simp only [IntKind.wrap, IntKind.bits, IntKind.signed, Bool.false_and]
  have h1 : 0 ≤ n % (2 ^ 64 : Int) := Int.emod_nonneg _ (by decide)
  simp
  omega
theorem ofInt_nat64 (n : Nat) : BitVec.ofInt 64 (n : Int) = BitVec.ofNat 64 n := BitVec.ofInt_natCast _ _
theorem ofNat_bv64 (a : BitVec 64) : BitVec.ofNat 64 a.toNat = a := by rw [BitVec.ofNat_toNat, BitVec.setWidth_eq]
theorem ofInt_toNat64 (a : BitVec 64) : BitVec.ofInt 64 (a.toNat : Int) = a := by rw [ofInt_nat64]; simp
section
variable {P : Program} {ρ : Sl} {S : World → Prop} {ty t t' : TypeId} {x y : Operand} {a b : BitVec 64} {k k' : IntKind} {n : Int}
theorem addW64 (hx : ev ρ x = some (u64 a)) (hy : ev ρ y = some (u64 b)) : Yx P (.binOp .add t x y t') ty ρ S (u64 (a + b)) :=
  add hx hy (by rw [wrapBV64, BitVec.ofInt_add, ofInt_toNat64, ofInt_toNat64])
theorem subW64 (hx : ev ρ x = some (u64 a)) (hy : ev ρ y = some (u64 b)) : Yx P (.binOp .sub t x y t') ty ρ S (u64 (a - b)) :=
  sub hx hy (by rw [wrapBV64, Int.sub_eq_add_neg, BitVec.ofInt_add, BitVec.ofInt_neg, ofInt_toNat64, ofInt_toNat64, BitVec.sub_eq_add_neg])
theorem mulW64 (hx : ev ρ x = some (u64 a)) (hy : ev ρ y = some (u64 b)) : Yx P (.binOp .mul t x y t') ty ρ S (u64 (a * b)) :=
  mul hx hy (by rw [wrapBV64, BitVec.ofInt_mul, ofInt_toNat64, ofInt_toNat64])
theorem xorW64 (hx : ev ρ x = some (u64 a)) (hy : ev ρ y = some (u64 b)) : Yx P (.binOp .xor t x y t') ty ρ S (u64 (a ^^^ b)) :=
  bxor hx hy (by unfold bXor; rw [wrapBV64, ofInt_nat64]; congr 2; show BitVec.ofNat 64 ((BitVec.ofInt 64 _ ^^^ BitVec.ofInt 64 _ : BitVec 64).toNat) = _; rw [ofInt_toNat64, ofInt_toNat64]; simp)
theorem andW64 (hx : ev ρ x = some (u64 a)) (hy : ev ρ y = some (u64 b)) : Yx P (.binOp .and t x y t') ty ρ S (u64 (a &&& b)) :=
  band hx hy (by unfold bAnd; rw [wrapBV64, ofInt_nat64]; congr 2; show BitVec.ofNat 64 ((BitVec.ofInt 64 _ &&& BitVec.ofInt 64 _ : BitVec 64).toNat) = _; rw [ofInt_toNat64, ofInt_toNat64]; simp)
theorem orW64 (hx : ev ρ x = some (u64 a)) (hy : ev ρ y = some (u64 b)) : Yx P (.binOp .or t x y t') ty ρ S (u64 (a ||| b)) :=
  bor hx hy (by unfold bOr; rw [wrapBV64, ofInt_nat64]; congr 2; show BitVec.ofNat 64 ((BitVec.ofInt 64 _ ||| BitVec.ofInt 64 _ : BitVec 64).toNat) = _; rw [ofInt_toNat64, ofInt_toNat64]; simp)
theorem shrW64 {c : Nat} (hx : ev ρ x = some (u64 a)) (hy : ev ρ y = some (.int k' (c : Nat))) (hc : Nat.ble c 64 = true) : Yx P (.binOp .shr t x y t') ty ρ S (u64 (a >>> c)) :=
  shr hx hy (by omega) (by
    have hc' : c ≤ 64 := by simpa using hc
    have hm : min (c : Int).toNat (IntKind.bits .u64) = c := by simp [IntKind.bits]; omega
    rw [hm, BitVec.toNat_ushiftRight, Nat.shiftRight_eq_div_pow, Int.fdiv_eq_ediv_of_nonneg _ (Int.le_of_lt (Int.pow_pos (by decide)))]
    simp)
theorem shlW64 {c : Nat} (hx : ev ρ x = some (u64 a)) (hy : ev ρ y = some (.int k' (c : Nat))) (hc : Nat.ble c 64 = true) : Yx P (.binOp .shl t x y t') ty ρ S (u64 (a <<< c)) :=
  shl hx hy (by omega) (by
    have hc' : c ≤ 64 := by simpa using hc
    have hm : min (c : Int).toNat (IntKind.bits .u64) = c := by simp [IntKind.bits]; omega
    rw [hm, wrapBV64, BitVec.toNat_shiftLeft, Nat.shiftLeft_eq]
    have : ((a.toNat : Nat) : Int) * 2 ^ c = ((a.toNat * 2 ^ c : Nat) : Int) := by simp
    rw [this, ofInt_nat64]; simp)
theorem negW64 (hx : ev ρ x = some (u64 a)) : Yx P (.unOp .neg t x) ty ρ S (u64 (-a)) :=
  neg hx (by rw [wrapBV64, Int.zero_sub, BitVec.ofInt_neg, ofInt_toNat64])
theorem complW64 (hx : ev ρ x = some (u64 a)) : Yx P (.unOp .xor t x) ty ρ S (u64 (~~~a)) :=
  compl hx (by
    unfold bXor; rw [wrapBV64, ofInt_nat64]; congr 2
    show BitVec.ofNat 64 ((BitVec.ofInt 64 (if IntKind.signed .u64 = true then -1 else IntKind.max .u64) ^^^ BitVec.ofInt 64 _ : BitVec 64).toNat) = _
    have : BitVec.ofInt 64 (if IntKind.signed .u64 = true then -1 else IntKind.max .u64) = BitVec.allOnes 64 := by decide
    rw [this, ofInt_toNat64, BitVec.allOnes_xor, ofNat_bv64])
theorem quoW64 (hx : ev ρ x = some (u64 a)) (hy : ev ρ y = some (u64 b)) (h0 : b ≠ 0) : Yx P (.binOp .quo t x y t') ty ρ S (u64 (a / b)) :=
  quo hx hy (by intro h; apply h0; apply BitVec.eq_of_toNat_eq; simpa using h) (by
    rw [Int.tdiv_eq_ediv_of_nonneg (by omega), wrapBV64, ← Int.natCast_ediv, ofInt_nat64, ← BitVec.toNat_udiv, ofNat_bv64])
theorem remW64 (hx : ev ρ x = some (u64 a)) (hy : ev ρ y = some (u64 b)) (h0 : b ≠ 0) : Yx P (.binOp .rem t x y t') ty ρ S (u64 (a % b)) :=
  rem hx hy (by intro h; apply h0; apply BitVec.eq_of_toNat_eq; simpa using h) (by
    rw [Int.tmod_eq_emod_of_nonneg (by omega), ← Int.natCast_emod, ← BitVec.toNat_umod])
/-- Of a number, of a byte, of a word. -/
theorem cvW64 {s d : TypeId} {D : TypeDesc} (hx : ev ρ x = some (.int k n)) (hs : P.underlying s = some D) (hd : P.underlying d = some (.int .u64)) : Yx P (.convert s d x) ty ρ S (u64 (BitVec.ofInt 64 n)) :=
  cvI hx hs hd (wrapBV64 n)
theorem eqW64 (hx : ev ρ x = some (u64 a)) (hy : ev ρ y = some (u64 b)) : Yx P (.binOp .eql t x y t') ty ρ S (.bool (decide (a = b))) := by
  have := eqI (P := P) (ty := ty) (S := S) (t := t) (t' := t') hx hy
  have e : decide ((a.toNat : Int) = (b.toNat : Int)) = decide (a = b) := by
    rw [decide_eq_decide]; constructor
    · intro h; apply BitVec.eq_of_toNat_eq; exact Int.ofNat.inj h
    · intro h; rw [h]
  rw [e] at this; exact this
theorem neW64 (hx : ev ρ x = some (u64 a)) (hy : ev ρ y = some (u64 b)) : Yx P (.binOp .neq t x y t') ty ρ S (.bool (!decide (a = b))) := by
  have := neI (P := P) (ty := ty) (S := S) (t := t) (t' := t') hx hy
  have e : decide ((a.toNat : Int) = (b.toNat : Int)) = decide (a = b) := by
    rw [decide_eq_decide]; constructor
    · intro h; apply BitVec.eq_of_toNat_eq; exact Int.ofNat.inj h
    · intro h; rw [h]
  rw [e] at this; exact this
end
end Go.SL
