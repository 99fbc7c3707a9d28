/-
  The rules of the operations that only reckon, over the states of the small separation logic.
-/
import Derived.Test.YtgcebieihmlaoaaSlb
namespace Go.SL
open Go.RowKit
set_option linter.unusedSimpArgs false
set_option linter.unusedVariables false

abbrev str (l : List UInt8) : Value := .string ⟨l.toArray⟩
abbrev i64 (n : Int) : Value := .int .i64 n

theorem wrap64 {n : Int} (h1 : -9223372036854775808 ≤ n) (h2 : n ≤ 9223372036854775807) : IntKind.i64.wrap n = n := by
  simp only [IntKind.wrap, IntKind.bits, IntKind.signed, Bool.true_and]
  split <;> simp_all <;> omega
theorem wrapU64 {n : Int} (h1 : 0 ≤ n) (h2 : n ≤ 18446744073709551615) : IntKind.u64.wrap n = n := by
  simp only [IntKind.wrap, IntKind.bits, IntKind.signed, Bool.false_and]
  simp; omega
theorem wrapU32 {n : Int} (h1 : 0 ≤ n) (h2 : n ≤ 4294967295) : IntKind.u32.wrap n = n := by
  simp only [IntKind.wrap, IntKind.bits, IntKind.signed, Bool.false_and]
  simp; omega
theorem wrapU8 {n : Int} (h1 : 0 ≤ n) (h2 : n ≤ 255) : IntKind.u8.wrap n = n := by
  simp only [IntKind.wrap, IntKind.bits, IntKind.signed, Bool.false_and]
  simp; omega

/-- A number's lowest byte. -/
def toB (n : Int) : UInt8 := UInt8.ofNat (n % 256).toNat
theorem wrap_u8 (n : Int) : IntKind.u8.wrap n = ((toB n).toNat : Nat) := by
  have h : (toB n).toNat = (n % 256).toNat % 256 := by simp [toB]
  have h1 : 0 ≤ n % 256 := Int.emod_nonneg _ (by decide)
  have h2 : n % 256 < 256 := Int.emod_lt_of_pos _ (by decide)
  rw [h]
  simp [IntKind.wrap, IntKind.bits, IntKind.signed]
  omega
theorem toB_toNat (b : UInt8) : toB (b.toNat : Nat) = b := by
  have := b.toNat_lt
  simp [toB]
  apply UInt8.toNat_inj.1
  simp
  omega
section
variable {P : Program} {ρ : Sl} {S : World → Prop} {ty : TypeId} {x y : Operand} {v u : Value} {k k' : IntKind} {m n z : Int} {t t' : TypeId}

theorem Yx.of {op : Op} (hd : ∀ c, op ≠ .defer c) (h : ∀ (f : Operand → Value) w (dst : Option Tmp) (pos : String) (after : Array Edge) (guard : Option (Nat × Bool)), Ev ρ f → S w → (execOp f ⟨dst, op, ty, pos, after, guard⟩).run P w = .ok (.value v) w) : Yx P op ty ρ S v := ⟨hd, h⟩

theorem mv (hx : ev ρ x = some v) : Yx P (.move x) ty ρ S v := .of (fun _ h => by cases h) fun f w _ _ _ _ he _ => by simp [execOp, he _ _ hx]
theorem asg (hx : ev ρ x = some v) : Yx P (.assign x) ty ρ S v := .of (fun _ h => by cases h) fun f w _ _ _ _ he _ => by simp [execOp, he _ _ hx]
theorem pickT {c a b : Operand} (hc : ev ρ c = some (.bool true)) (hx : ev ρ a = some v) : Yx P (.pick c a b) ty ρ S v := .of (fun _ h => by cases h) fun f w _ _ _ _ he _ => by simp [execOp, he _ _ hc, he _ _ hx, asBool]
theorem pickF {c a b : Operand} (hc : ev ρ c = some (.bool false)) (hx : ev ρ b = some v) : Yx P (.pick c a b) ty ρ S v := .of (fun _ h => by cases h) fun f w _ _ _ _ he _ => by simp [execOp, he _ _ hc, he _ _ hx, asBool]
theorem ext {vs : Array Value} {i : Nat} (hx : ev ρ x = some (.tuple vs)) (hv : vs[i]? = some v) : Yx P (.extract x i) ty ρ S v := .of (fun _ h => by cases h) fun f w _ _ _ _ he _ => by simp [execOp, he _ _ hx, Instr.extract, hv]
theorem nilc {a : Addr} (hx : ev ρ x = some (.pointer (some a))) : Yx P (.nilCheck x) ty ρ S (.pointer (some a)) := .of (fun _ h => by cases h) fun f w _ _ _ _ he _ => by simp [execOp, he _ _ hx]

/-! numbers -/
theorem run_binOp {op : BinOp} {f : Operand → Value} {w : World} {dst : Option Tmp} {pos : String} {after : Array Edge} {guard : Option (Nat × Bool)} {a b : Value} {r : Value}
    (hx : f x = a) (hy : f y = b) (hg : (eqGuard op t x y a b).run P w = .ok () w) (hr : (binOp op t a b).run P w = .ok r w) :
    (execOp f ⟨dst, .binOp op t x y t', ty, pos, after, guard⟩).run P w = .ok (.value r) w := by
  simp [execOp, hx, hy, Sem.run_bind, hg, hr, Result.andThen]
theorem eqGuard_int {op : BinOp} {a b : Int} {w : World} : (eqGuard op t x y (.int k a) (.int k' b)).run P w = .ok () w := by
  cases op <;> simp [eqGuard]

theorem add (hx : ev ρ x = some (.int k m)) (hy : ev ρ y = some (.int k n)) (hz : k.wrap (m + n) = z) : Yx P (.binOp .add t x y t') ty ρ S (.int k z) := .of (fun _ h => by cases h) fun f w _ _ _ _ he _ =>
  run_binOp (he _ _ hx) (he _ _ hy) eqGuard_int (by simp [binOp, Op.intArith, hz])
theorem sub (hx : ev ρ x = some (.int k m)) (hy : ev ρ y = some (.int k n)) (hz : k.wrap (m - n) = z) : Yx P (.binOp .sub t x y t') ty ρ S (.int k z) := .of (fun _ h => by cases h) fun f w _ _ _ _ he _ =>
  run_binOp (he _ _ hx) (he _ _ hy) eqGuard_int (by simp [binOp, Op.intArith, hz])
theorem mul (hx : ev ρ x = some (.int k m)) (hy : ev ρ y = some (.int k n)) (hz : k.wrap (m * n) = z) : Yx P (.binOp .mul t x y t') ty ρ S (.int k z) := .of (fun _ h => by cases h) fun f w _ _ _ _ he _ =>
  run_binOp (he _ _ hx) (he _ _ hy) eqGuard_int (by simp [binOp, Op.intArith, hz])
theorem quo (hx : ev ρ x = some (.int k m)) (hy : ev ρ y = some (.int k n)) (h0 : n ≠ 0) (hz : k.wrap (m.tdiv n) = z) : Yx P (.binOp .quo t x y t') ty ρ S (.int k z) := .of (fun _ h => by cases h) fun f w _ _ _ _ he _ =>
  run_binOp (he _ _ hx) (he _ _ hy) eqGuard_int (by simp [binOp, Op.intDiv, h0, hz])
theorem rem (hx : ev ρ x = some (.int k m)) (hy : ev ρ y = some (.int k n)) (h0 : n ≠ 0) (hz : m.tmod n = z) : Yx P (.binOp .rem t x y t') ty ρ S (.int k z) := .of (fun _ h => by cases h) fun f w _ _ _ _ he _ =>
  run_binOp (he _ _ hx) (he _ _ hy) eqGuard_int (by simp [binOp, Op.intDiv, h0, hz])

theorem quoN (hx : ev ρ x = some (.int k m)) (hy : ev ρ y = some (.int k n)) (h1 : 0 ≤ m) (h0 : 0 < n) (hz : k.wrap (m / n) = z) : Yx P (.binOp .quo t x y t') ty ρ S (.int k z) :=
  quo hx hy (by omega) (by rw [Int.tdiv_eq_ediv_of_nonneg h1]; exact hz)
theorem remN (hx : ev ρ x = some (.int k m)) (hy : ev ρ y = some (.int k n)) (h1 : 0 ≤ m) (h0 : 0 < n) : Yx P (.binOp .rem t x y t') ty ρ S (.int k (m % n)) :=
  rem hx hy (by omega) (by rw [Int.tmod_eq_emod_of_nonneg h1])
def bAnd (k : IntKind) (m n : Int) : Int := k.wrap ((BitVec.ofInt k.bits m &&& BitVec.ofInt k.bits n).toNat : Nat)
def bOr (k : IntKind) (m n : Int) : Int := k.wrap ((BitVec.ofInt k.bits m ||| BitVec.ofInt k.bits n).toNat : Nat)
def bXor (k : IntKind) (m n : Int) : Int := k.wrap ((BitVec.ofInt k.bits m ^^^ BitVec.ofInt k.bits n).toNat : Nat)
def bAndNot (k : IntKind) (m n : Int) : Int := k.wrap ((BitVec.ofInt k.bits m &&& ~~~BitVec.ofInt k.bits n).toNat : Nat)
theorem band (hx : ev ρ x = some (.int k m)) (hy : ev ρ y = some (.int k n)) (hz : bAnd k m n = z) : Yx P (.binOp .and t x y t') ty ρ S (.int k z) := .of (fun _ h => by cases h) fun f w _ _ _ _ he _ =>
  run_binOp (he _ _ hx) (he _ _ hy) eqGuard_int (by simp [binOp, Op.intBits, ← hz, bAnd])
theorem bor (hx : ev ρ x = some (.int k m)) (hy : ev ρ y = some (.int k n)) (hz : bOr k m n = z) : Yx P (.binOp .or t x y t') ty ρ S (.int k z) := .of (fun _ h => by cases h) fun f w _ _ _ _ he _ =>
  run_binOp (he _ _ hx) (he _ _ hy) eqGuard_int (by simp [binOp, Op.intBits, ← hz, bOr])
theorem bxor (hx : ev ρ x = some (.int k m)) (hy : ev ρ y = some (.int k n)) (hz : bXor k m n = z) : Yx P (.binOp .xor t x y t') ty ρ S (.int k z) := .of (fun _ h => by cases h) fun f w _ _ _ _ he _ =>
  run_binOp (he _ _ hx) (he _ _ hy) eqGuard_int (by simp [binOp, Op.intBits, ← hz, bXor])
theorem bandnot (hx : ev ρ x = some (.int k m)) (hy : ev ρ y = some (.int k n)) (hz : bAndNot k m n = z) : Yx P (.binOp .andNot t x y t') ty ρ S (.int k z) := .of (fun _ h => by cases h) fun f w _ _ _ _ he _ =>
  run_binOp (he _ _ hx) (he _ _ hy) eqGuard_int (by simp [binOp, Op.intBits, ← hz, bAndNot])
theorem shl (hx : ev ρ x = some (.int k m)) (hy : ev ρ y = some (.int k' n)) (h0 : 0 ≤ n) (hz : k.wrap (m * 2 ^ (min n.toNat k.bits)) = z) : Yx P (.binOp .shl t x y t') ty ρ S (.int k z) := .of (fun _ h => by cases h) fun f w _ _ _ _ he _ =>
  run_binOp (he _ _ hx) (he _ _ hy) eqGuard_int (by simp only [binOp, Op.shift]; rw [if_neg (by omega)]; simp [hz])
theorem shr (hx : ev ρ x = some (.int k m)) (hy : ev ρ y = some (.int k' n)) (h0 : 0 ≤ n) (hz : m.fdiv (2 ^ (min n.toNat k.bits)) = z) : Yx P (.binOp .shr t x y t') ty ρ S (.int k z) := .of (fun _ h => by cases h) fun f w _ _ _ _ he _ =>
  run_binOp (he _ _ hx) (he _ _ hy) eqGuard_int (by simp only [binOp, Op.shift]; rw [if_neg (by omega)]; simp [hz])

theorem shrK {c : Int} (hx : ev ρ x = some (.int k m)) (hy : ev ρ y = some (.int k' n)) (h0 : 0 ≤ n) (hc : (2 : Int) ^ (min n.toNat k.bits) = c) : Yx P (.binOp .shr t x y t') ty ρ S (.int k (m / c)) :=
  shr hx hy h0 (by rw [← hc]; exact Int.fdiv_eq_ediv_of_nonneg _ (Int.le_of_lt (Int.pow_pos (by decide))))
theorem shlK {c : Int} (hx : ev ρ x = some (.int k m)) (hy : ev ρ y = some (.int k' n)) (h0 : 0 ≤ n) (hc : (2 : Int) ^ (min n.toNat k.bits) = c) (hz : k.wrap (m * c) = z) : Yx P (.binOp .shl t x y t') ty ρ S (.int k z) :=
  shl hx hy h0 (by rw [hc]; exact hz)
theorem lss (hx : ev ρ x = some (.int k m)) (hy : ev ρ y = some (.int k n)) : Yx P (.binOp .lss t x y t') ty ρ S (.bool (decide (m < n))) := .of (fun _ h => by cases h) fun f w _ _ _ _ he _ =>
  run_binOp (he _ _ hx) (he _ _ hy) eqGuard_int (by simp [binOp, Op.intCmp])
theorem leq (hx : ev ρ x = some (.int k m)) (hy : ev ρ y = some (.int k n)) : Yx P (.binOp .leq t x y t') ty ρ S (.bool (decide (m ≤ n))) := .of (fun _ h => by cases h) fun f w _ _ _ _ he _ =>
  run_binOp (he _ _ hx) (he _ _ hy) eqGuard_int (by simp [binOp, Op.intCmp])
theorem gtr (hx : ev ρ x = some (.int k m)) (hy : ev ρ y = some (.int k n)) : Yx P (.binOp .gtr t x y t') ty ρ S (.bool (decide (n < m))) := .of (fun _ h => by cases h) fun f w _ _ _ _ he _ =>
  run_binOp (he _ _ hx) (he _ _ hy) eqGuard_int (by simp [binOp, Op.intCmp])
theorem geq (hx : ev ρ x = some (.int k m)) (hy : ev ρ y = some (.int k n)) : Yx P (.binOp .geq t x y t') ty ρ S (.bool (decide (n ≤ m))) := .of (fun _ h => by cases h) fun f w _ _ _ _ he _ =>
  run_binOp (he _ _ hx) (he _ _ hy) eqGuard_int (by simp [binOp, Op.intCmp])
theorem eqI (hx : ev ρ x = some (.int k m)) (hy : ev ρ y = some (.int k n)) : Yx P (.binOp .eql t x y t') ty ρ S (.bool (decide (m = n))) := .of (fun _ h => by cases h) fun f w _ _ _ _ he _ =>
  run_binOp (he _ _ hx) (he _ _ hy) eqGuard_int (by simp [binOp, Op.intCmp]; rfl)
theorem neI (hx : ev ρ x = some (.int k m)) (hy : ev ρ y = some (.int k n)) : Yx P (.binOp .neq t x y t') ty ρ S (.bool (!decide (m = n))) := .of (fun _ h => by cases h) fun f w _ _ _ _ he _ =>
  run_binOp (he _ _ hx) (he _ _ hy) eqGuard_int (by simp [binOp, Op.intCmp]; rfl)
theorem not' {b : Bool} (hx : ev ρ x = some (.bool b)) : Yx P (.unOp .not t x) ty ρ S (.bool (!b)) := .of (fun _ h => by cases h) fun f w _ _ _ _ he _ => by simp [execOp, he _ _ hx, Op.unary]
theorem neg (hx : ev ρ x = some (.int k m)) (hz : k.wrap (0 - m) = z) : Yx P (.unOp .neg t x) ty ρ S (.int k z) := .of (fun _ h => by cases h) fun f w _ _ _ _ he _ => by
  have : Sem.run P (Op.intArith .sub k 0 m) w = .ok (.int k z) w := by simp only [Op.intArith, hz]; simp
  simp only [execOp, he _ _ hx, Op.unary, Sem.run_bind, this, Result.andThen, Sem.run_pure]
theorem compl (hx : ev ρ x = some (.int k m)) (hz : bXor k (if k.signed then -1 else k.max) m = z) : Yx P (.unOp .xor t x) ty ρ S (.int k z) := .of (fun _ h => by cases h) fun f w _ _ _ _ he _ => by
  simp [execOp, he _ _ hx, Op.unary, Op.intBits, ← hz, bXor]
theorem cvI {s d : TypeId} {ds : TypeDesc} (hx : ev ρ x = some (.int k m)) (hs : P.underlying s = some ds) (hd : P.underlying d = some (.int k')) (hz : k'.wrap m = z) : Yx P (.convert s d x) ty ρ S (.int k' z) := .of (fun _ h => by cases h) fun f w _ _ _ _ he _ => by
  simp [execOp, he _ _ hx, convert, run_underlying hs, run_underlying hd, Conv.intToInt, hz]

/-! texts -/
variable {l l2 : List UInt8}
theorem str_size (l : List UInt8) : (ByteArray.mk l.toArray).size = l.length := rfl
theorem str_inj {a b : List UInt8} (h : ByteArray.mk a.toArray = ByteArray.mk b.toArray) : a = b := by
  have := congrArg (fun s : ByteArray => s.data.toList) h
  simpa using this
/-- The bytes of a text in order: is one ahead of the other? -/
abbrev bless (a b : List UInt8) : Bool := Op.bytesLess a b

theorem lenS (ht : P.underlying t = some .string) (hx : ev ρ x = some (str l)) : Yx P (.call { callee := .builtin .len, args := #[x], argTypes := #[t] }) ty ρ S (i64 l.length) := .of (fun _ h => by cases h) fun f w _ _ _ _ he _ => by
  have h := he _ _ hx
  simp only [execOp, resolve, invoke, builtin, Builtin.len_, Sem.run_bind, Sem.run_pure, Result.andThen, List.map_toArray, List.map_cons, List.map_nil, h]
  simp [run_underlying ht, goInt, str_size]
theorem ixS {i : Operand} {j : Nat} (ht : P.underlying t = some .string) (hx : ev ρ x = some (str l)) (hi : ev ρ i = some (.int k n)) (hj : n.toNat = j) (h0 : 0 ≤ n) (h1 : n < l.length) :
    Yx P (.index t x i) ty ρ S (.int .u8 ((l.getD j 0).toNat : Nat)) := .of (fun _ h => by cases h) fun f w _ _ _ _ he _ => by
  subst hj
  have hlt : n.toNat < l.length := by omega
  have hs : n.toNat < (ByteArray.mk l.toArray).size := hlt
  have e : (ByteArray.mk l.toArray)[n.toNat]? = some (l.getD n.toNat 0) := by
    rw [getElem?_pos (ByteArray.mk l.toArray) n.toNat hs]
    simp only [List.getD, List.getElem?_eq_getElem hlt, Option.getD_some]
    rfl
  simp [execOp, he _ _ hx, he _ _ hi, Instr.index, asIntOf, run_underlying ht, h0, e]
theorem catS (hx : ev ρ x = some (str l)) (hy : ev ρ y = some (str l2)) (hb : l.length + l2.length ≤ 9223372036854775807) : Yx P (.binOp .add t x y t') ty ρ S (str (l ++ l2)) := .of (fun _ h => by cases h) fun f w _ _ _ _ he _ =>
  run_binOp (he _ _ hx) (he _ _ hy) (by simp [eqGuard]) (by
    have := run_string_add_sum (P := P) w ⟨l.toArray⟩ ⟨l2.toArray⟩ (by simpa [str_size] using hb)
    simp only [binOp, this, ByteArray.mk_append_mk])
theorem toList_inj {a b : List UInt8} : ((ByteArray.mk a.toArray).toList == (ByteArray.mk b.toArray).toList) = decide (a = b) := by
  rw [ByteArray.toList_mk, ByteArray.toList_mk]
  by_cases h : a = b
  · simp [h]
  · simp [h]
theorem eqS (hx : ev ρ x = some (str l)) (hy : ev ρ y = some (str l2)) : Yx P (.binOp .eql t x y t') ty ρ S (.bool (decide (l = l2))) := .of (fun _ h => by cases h) fun f w _ _ _ _ he _ =>
  run_binOp (he _ _ hx) (he _ _ hy) (by simp [eqGuard]) (by rw [binOp_string_eql, toList_inj]; simp)
theorem neS (hx : ev ρ x = some (str l)) (hy : ev ρ y = some (str l2)) : Yx P (.binOp .neq t x y t') ty ρ S (.bool (!decide (l = l2))) := .of (fun _ h => by cases h) fun f w _ _ _ _ he _ =>
  run_binOp (he _ _ hx) (he _ _ hy) (by simp [eqGuard]) (by rw [binOp_string_neq, toList_inj]; simp)
theorem lssS (hx : ev ρ x = some (str l)) (hy : ev ρ y = some (str l2)) : Yx P (.binOp .lss t x y t') ty ρ S (.bool (bless l l2)) := .of (fun _ h => by cases h) fun f w _ _ _ _ he _ =>
  run_binOp (he _ _ hx) (he _ _ hy) (by simp [eqGuard]) (by rw [binOp_string_lss, ByteArray.toList_mk, ByteArray.toList_mk]; simp)
theorem bless_or {a b : List UInt8} : (bless a b || decide (a = b)) = !bless b a := by
  unfold bless
  induction a generalizing b with
  | nil => cases b <;> simp [Op.bytesLess]
  | cons x a ih =>
    cases b with
    | nil => simp [Op.bytesLess]
    | cons y b =>
      have h := ih (b := b)
      simp only [Op.bytesLess, List.cons.injEq]
      rcases Nat.lt_trichotomy x.toNat y.toNat with hh | hh | hh
      · have h1 : x < y := UInt8.lt_iff_toNat_lt.2 hh
        have h2 : ¬ y < x := fun q => by have := UInt8.lt_iff_toNat_lt.1 q; omega
        have h3 : ¬ y = x := fun q => by subst q; omega
        simp [h1, h2, h3]
      · have h1 : x = y := UInt8.toNat_inj.1 hh
        subst h1
        simp only [UInt8.lt_irrefl, decide_false, Bool.false_or, beq_self_eq_true, Bool.true_and, true_and]
        simpa using h
      · have h1 : y < x := UInt8.lt_iff_toNat_lt.2 hh
        have h2 : ¬ x < y := fun q => by have := UInt8.lt_iff_toNat_lt.1 q; omega
        have h3 : ¬ x = y := fun q => by subst q; omega
        simp [h1, h2, h3]
theorem geqS (hx : ev ρ x = some (str l)) (hy : ev ρ y = some (str l2)) : Yx P (.binOp .geq t x y t') ty ρ S (.bool (!bless l l2)) := .of (fun _ h => by cases h) fun f w _ _ _ _ he _ =>
  run_binOp (he _ _ hx) (he _ _ hy) (by simp [eqGuard]) (by simp [binOp, Op.stringOp, ByteArray.toList_mk])
theorem leqS (hx : ev ρ x = some (str l)) (hy : ev ρ y = some (str l2)) : Yx P (.binOp .leq t x y t') ty ρ S (.bool (!bless l2 l)) := .of (fun _ h => by cases h) fun f w _ _ _ _ he _ =>
  run_binOp (he _ _ hx) (he _ _ hy) (by simp [eqGuard]) (by simp only [binOp, Op.stringOp]; rw [toList_inj, ByteArray.toList_mk, ByteArray.toList_mk]; have := bless_or (a := l) (b := l2); unfold bless at this; rw [this]; simp)
theorem gtrS (hx : ev ρ x = some (str l)) (hy : ev ρ y = some (str l2)) : Yx P (.binOp .gtr t x y t') ty ρ S (.bool (bless l2 l)) := .of (fun _ h => by cases h) fun f w _ _ _ _ he _ =>
  run_binOp (he _ _ hx) (he _ _ hy) (by simp [eqGuard]) (by simp only [binOp, Op.stringOp]; rw [toList_inj, ByteArray.toList_mk, ByteArray.toList_mk]; have := bless_or (a := l) (b := l2); unfold bless at this; rw [this]; simp)

theorem str_extract (l : List UInt8) (a b : Nat) : (ByteArray.mk l.toArray).extract a b = ⟨((l.take b).drop a).toArray⟩ := by
  apply ByteArray.ext
  simp only [ByteArray.data_extract, List.extract_toArray, List.extract_eq_drop_take']
theorem run_sliceAt_str {w : World} {l : List UInt8} {lo hi : Option Value} {a b : Nat} (ht : P.underlying t = some .string)
    (hb : (Instr.sliceBounds false l.length l.length lo hi none).run P w = .ok (a, b, l.length) w) :
    (Instr.sliceAt t (str l) lo hi none).run P w = .ok (str ((l.take b).drop a)) w := by
  simp only [Instr.sliceAt, Sem.run_bind, run_underlying ht, Result.andThen, Instr.slice, Option.isSome_none, Bool.false_eq_true, if_false, Sem.run_pure, str_size, hb, str_extract]
theorem sl1S {lo : Operand} {j : Nat} (ht : P.underlying t = some .string) (hx : ev ρ x = some (str l)) (hi : ev ρ lo = some (.int k n)) (hj : n.toNat = j) (h0 : 0 ≤ n) (h1 : n ≤ l.length) :
    Yx P (.slice t x (some lo) none none) ty ρ S (str (l.drop j)) := .of (fun _ h => by cases h) fun f w _ _ _ _ he _ => by
  subst hj
  have := run_sliceAt_str (P := P) (t := t) (w := w) (l := l) (lo := some (.int k n)) (hi := none) (a := n.toNat) (b := l.length) ht (by simp [Instr.sliceBounds, Instr.sliceBound, asIntOf, h0, h1])
  simp only [execOp, Option.map_some, Option.map_none, he _ _ hx, he _ _ hi, Sem.run_bind, this, Result.andThen, Sem.run_pure, List.take_length]
theorem sl2S {hi : Operand} {j : Nat} (ht : P.underlying t = some .string) (hx : ev ρ x = some (str l)) (hh : ev ρ hi = some (.int k n)) (hj : n.toNat = j) (h0 : 0 ≤ n) (h1 : n ≤ l.length) :
    Yx P (.slice t x none (some hi) none) ty ρ S (str (l.take j)) := .of (fun _ h => by cases h) fun f w _ _ _ _ he _ => by
  subst hj
  have := run_sliceAt_str (P := P) (t := t) (w := w) (l := l) (lo := none) (hi := some (.int k n)) (a := 0) (b := n.toNat) ht (by simp [Instr.sliceBounds, Instr.sliceBound, asIntOf, h0, h1])
  simp only [execOp, Option.map_some, Option.map_none, he _ _ hx, he _ _ hh, Sem.run_bind, this, Result.andThen, Sem.run_pure, List.drop_zero]
theorem sl3S {lo hi : Operand} {i j : Nat} (ht : P.underlying t = some .string) (hx : ev ρ x = some (str l)) (hl : ev ρ lo = some (.int k m)) (hh : ev ρ hi = some (.int k' n)) (hi' : m.toNat = i) (hj : n.toNat = j) (h0 : 0 ≤ m) (hm : m ≤ n) (h1 : n ≤ l.length) :
    Yx P (.slice t x (some lo) (some hi) none) ty ρ S (str ((l.take j).drop i)) := .of (fun _ h => by cases h) fun f w _ _ _ _ he _ => by
  subst hi'; subst hj
  have h2 : 0 ≤ n := by omega
  have h3 : m ≤ (n.toNat : Int) := by omega
  have := run_sliceAt_str (P := P) (t := t) (w := w) (l := l) (lo := some (.int k m)) (hi := some (.int k' n)) (a := m.toNat) (b := n.toNat) ht (by simp [Instr.sliceBounds, Instr.sliceBound, asIntOf, h0, h1, h2]; omega)
  simp only [execOp, Option.map_some, Option.map_none, he _ _ hx, he _ _ hl, he _ _ hh, Sem.run_bind, this, Result.andThen, Sem.run_pure]
theorem sl0S (ht : P.underlying t = some .string) (hx : ev ρ x = some (str l)) : Yx P (.slice t x none none none) ty ρ S (str l) := .of (fun _ h => by cases h) fun f w _ _ _ _ he _ => by
  have := run_sliceAt_str (P := P) (t := t) (w := w) (l := l) (lo := none) (hi := none) (a := 0) (b := l.length) ht (by simp [Instr.sliceBounds])
  simp only [execOp, Option.map_none, he _ _ hx, Sem.run_bind, this, Result.andThen, Sem.run_pure, List.drop_zero, List.take_length]

/-! functions, pointers, structs -/
theorem mkf {fn : Fn} {first caps : Array Operand} {fs cs : List Value} (h1 : evl ρ first.toList = some fs) (h2 : evl ρ caps.toList = some cs) : Yx P (.makeFunc fn first caps) ty ρ S (.func fn fs.toArray cs.toArray) := .of (fun _ h => by cases h) fun f w _ _ _ _ he _ => by
  have e1 : first.map f = fs.toArray := Array.toList_inj.1 (by simpa using he.map h1)
  have e2 : caps.map f = cs.toArray := Array.toList_inj.1 (by simpa using he.map h2)
  simp [execOp, Instr.makeFunc, e1, e2]
theorem mki {i : TypeDesc} (ht : P.underlying t = some i) (hn : (match i with | .interface _ => false | _ => true) = true) (hx : ev ρ x = some v) : Yx P (.makeInterface t x) ty ρ S (.iface t v) := .of (fun _ h => by cases h) fun f w _ _ _ _ he _ => by
  simp only [execOp, Instr.makeInterface, Sem.run_bind, run_underlying ht, Result.andThen, he _ _ hx]
  cases i <;> simp_all
theorem eqNilP {a : Option Addr} (ht : P.underlying t = some (.pointer (P.pointee t))) (hx : ev ρ x = some (.pointer a)) (hy : ev ρ y = some (.pointer none)) : Yx P (.binOp .eql t x y t') ty ρ S (.bool a.isNone) := .of (fun _ h => by cases h) fun f w _ _ _ _ he _ =>
  run_binOp (he _ _ hx) (he _ _ hy) (by simp [eqGuard]) (run_eql_pointer_nil w t a ht)
theorem neNilP {a : Option Addr} (ht : P.underlying t = some (.pointer (P.pointee t))) (hx : ev ρ x = some (.pointer a)) (hy : ev ρ y = some (.pointer none)) : Yx P (.binOp .neq t x y t') ty ρ S (.bool (!a.isNone)) := .of (fun _ h => by cases h) fun f w _ _ _ _ he _ =>
  run_binOp (he _ _ hx) (he _ _ hy) (by simp [eqGuard]) (run_neq_pointer_nil w t a ht)
theorem eqB {a b : Bool} (ht : P.underlying t = some .bool) (hx : ev ρ x = some (.bool a)) (hy : ev ρ y = some (.bool b)) : Yx P (.binOp .eql t x y t') ty ρ S (.bool (a == b)) := .of (fun _ h => by cases h) fun f w _ _ _ _ he _ =>
  run_binOp (he _ _ hx) (he _ _ hy) (by simp [eqGuard]) (run_eql_bool w t a b ht)
theorem neB {a b : Bool} (ht : P.underlying t = some .bool) (hx : ev ρ x = some (.bool a)) (hy : ev ρ y = some (.bool b)) : Yx P (.binOp .neq t x y t') ty ρ S (.bool (!(a == b))) := .of (fun _ h => by cases h) fun f w _ _ _ _ he _ =>
  run_binOp (he _ _ hx) (he _ _ hy) (by simp [eqGuard]) (run_neq_bool w t a b ht)

/-- Field number i of a struct type lies at off, and is of so many cells. -/
def FO (P : Program) (t : TypeId) (i off size : Nat) (agg : Bool) : Prop :=
  ∃ fs fd j, P.underlying t = some (.struct fs) ∧ fs[i]? = some fd ∧ fd.offset = off ∧ P.info? fd.type = some j ∧ j.size = size ∧ 0 < size ∧ (isAgg fd.type).run P = fun w => .ok agg w
theorem fa {i off size : Nat} {g : Bool} {a : Addr} (hF : FO P t i off size g) (hx : ev ρ x = some (.pointer (some a))) : Yx P (.fieldAddr t x i) ty ρ S (.pointer (some (a.add off))) := .of (fun _ h => by cases h) fun f w _ _ _ _ he _ => by
  obtain ⟨fs, fd, j, h1, h2, h3, h4, h5, h6, h7⟩ := hF
  have hs : ¬ j.size = 0 := by omega
  simp [execOp, he _ _ hx, Instr.fieldAt, run_underlying h1, h2, Instr.sureAddr, fieldPlace, sizeOf, typeInfo, h4, hs, h3]
theorem fld1 {i off : Nat} {cs : List Value} (hF : FO P t i off 1 false) (hx : ev ρ x = some (.agg cs.toArray)) (hv : cs[off]? = some v) : Yx P (.field t x i) ty ρ S v := .of (fun _ h => by cases h) fun f w _ _ _ _ he _ => by
  obtain ⟨fs, fd, j, h1, h2, h3, h4, h5, h6, h7⟩ := hF
  have h8 : Sem.run P (isAgg fd.type) w = .ok false w := by rw [h7]
  subst h3
  have h9 : cs.toArray[fd.offset]? = some v := by simpa using hv
  simp only [execOp, he _ _ hx, Instr.field, Sem.run_bind, run_underlying h1, Result.andThen, h2, asAgg, Sem.run_pure, part, h8, Bool.false_eq_true, if_false, h9]
theorem fldA {i off size : Nat} {cs : List Value} (hF : FO P t i off size true) (hx : ev ρ x = some (.agg cs.toArray)) : Yx P (.field t x i) ty ρ S (.agg ((cs.drop off).take size).toArray) := .of (fun _ h => by cases h) fun f w _ _ _ _ he _ => by
  obtain ⟨fs, fd, j, h1, h2, h3, h4, h5, h6, h7⟩ := hF
  have h8 : Sem.run P (isAgg fd.type) w = .ok true w := by rw [h7]
  have h9 : Array.extract cs.toArray off (off + size) = ((cs.drop off).take size).toArray := by
    apply Array.toList_inj.1; simp [List.drop_take]
  simp [execOp, he _ _ hx, Instr.field, run_underlying h1, h2, asAgg, part, h8, sizeOf, typeInfo, h4, h5, h3, h9]
end
end Go.SL
