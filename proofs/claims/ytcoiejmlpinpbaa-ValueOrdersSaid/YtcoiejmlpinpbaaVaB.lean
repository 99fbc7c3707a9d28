/-
  A cursor: what it is, what it takes.
-/
import Derived.Test.YtcoiejmlpinpbaaProg
import Derived.Test.YtcoiejmlpinpbaaSlj
import Derived.Test.YtcoiejmlpinpbaaVaA
import Derived.Test.YtcoiejmlpinpbaaSlp
namespace Go.Proofs.Ytcoiejmlpinpbaa
open Go.SL Go.RowKit
set_option linter.unusedVariables false
set_option linter.unusedSimpArgs false
set_option maxRecDepth 100000
open Ke5 Ke6 Ke7 Ke8 Ke9 KeA KeB KeE KeF KeG KeH VaA
namespace VaB
theorem sz3 : (Try.prog.info? 3).map (·.size) = some 1 := by kernel_rfl
theorem sz48 : (Try.prog.info? 48).map (·.size) = some 1 := by kernel_rfl
theorem ti123 : TI Try.prog 123 [str [], .int .i64 0, .int .i64 0] 3 32 := TI.of (by kernel_rfl) rfl rfl
theorem fo123_0 : FO Try.prog 123 0 0 1 false := FO.of Try.underlying123 rfl rfl (by kernel_rfl) Try.underlying9 rfl rfl
theorem fo123_1 : FO Try.prog 123 1 1 1 false := FO.of Try.underlying123 rfl rfl (by kernel_rfl) Try.underlying3 rfl rfl
theorem fo123_2 : FO Try.prog 123 2 2 1 false := FO.of Try.underlying123 rfl rfl (by kernel_rfl) Try.underlying48 rfl rfl
theorem pl123 : PL Try.prog 123 [(0, 1), (1, 1), (2, 1)] := PL.of Try.underlying123 (by kernel_rfl)

structure Cu where
  s : List UInt8
  at' : Nat
  e : Int
abbrev crow (b : Nat) (c : Cu) : HP := row b 123 [str c.s, i64 (c.at' : Nat), i64 c.e]
def Cu.ok (c : Cu) : Prop := c.at' ≤ c.s.length ∧ c.s.length ≤ 4611686018427387904
def Cu.stop (c : Cu) (x : Int) : Cu := if c.e = 0 then ⟨c.s, c.at', x⟩ else c
inductive Ud where
  | ok (n k : Nat)
  | bad (e : Int)
def udec : Nat → List UInt8 → Ud
  | _, [] => .bad 4
  | i, b :: r => if (i = 9 ∧ 1 < b.toNat) ∨ (0 < i ∧ b.toNat = 0) then .bad 6 else if b.toNat < 128 then .ok b.toNat 1 else match udec (i + 1) r with
    | .ok n k => .ok (b.toNat % 128 + 128 * n) (k + 1)
    | .bad e => .bad e
def Ud.comb (a i : Nat) : Ud → Ud
  | .ok n k => .ok (a + 128 ^ i * n) (k + i)
  | .bad e => .bad e
def udTo (c : Cu) : Ud → Cu × Nat
  | .ok n k => (⟨c.s, c.at' + k, c.e⟩, n)
  | .bad x => (⟨c.s, c.at', x⟩, 0)
def Cu.uint (c : Cu) : Cu × Nat := if c.e ≠ 0 then (c, 0) else udTo c (udec 0 (c.s.drop c.at'))
def zig (n : Nat) : Int := if n % 2 = 1 then -((n / 2 : Nat) : Int) - 1 else ((n / 2 : Nat) : Int)
def Cu.cnt (c : Cu) (most : Nat) : Cu := if c.uint.1.e = 0 ∧ most < c.uint.2 then ⟨c.s, c.at', 3⟩ else c.uint.1
def Cu.count (c : Cu) (most : Nat) : Cu × Nat := if c.e ≠ 0 then (c, 0) else (c.cnt most, if (c.cnt most).e ≠ 0 then 0 else c.uint.2)
def Cu.bytes (c : Cu) (k : Nat) : Cu × List UInt8 := if c.e ≠ 0 then (c, []) else if c.s.length - c.at' < k then (⟨c.s, c.at', 4⟩, []) else (⟨c.s, c.at' + k, c.e⟩, (c.s.drop c.at').take k)
def Cu.text (c : Cu) (most : Nat) : Cu × List UInt8 := (if ((c.count most).1.bytes (c.count most).2).1.e ≠ 0 then ⟨c.s, c.at', ((c.count most).1.bytes (c.count most).2).1.e⟩ else ((c.count most).1.bytes (c.count most).2).1, ((c.count most).1.bytes (c.count most).2).2)
def Cu.bool (c : Cu) : Cu × Bool := (if (c.bytes 1).1.e = 0 ∧ 1 < ((c.bytes 1).2.getD 0 0).toNat then ⟨c.s, c.at', 6⟩ else (c.bytes 1).1, decide ((c.bytes 1).1.e = 0 ∧ ((c.bytes 1).2.getD 0 0).toNat = 1))
def Cu.fin (c : Cu) : Cu := if c.at' < c.s.length then c.stop 5 else c
theorem udec_pos : ∀ (l : List UInt8) (i n k : Nat), udec i l = .ok n k → 1 ≤ k ∧ k ≤ l.length := by
  intro l
  induction l with
  | nil => intro i n k h; simp [udec] at h
  | cons b r ih =>
    intro i n k h
    unfold udec at h
    split at h
    · cases h
    · split at h
      · injection h with h1 h2; subst h2; simp
      · split at h
        · rename_i n' k' hk
          injection h with h1 h2
          have := ih _ _ _ hk
          simp; omega
        · cases h
theorem udTo_s (c : Cu) (u : Ud) : (udTo c u).1.s = c.s := by cases u <;> rfl
theorem Cu.uint_s (c : Cu) : c.uint.1.s = c.s := by unfold Cu.uint; split; rfl; exact udTo_s _ _
theorem Cu.uint_ok {c : Cu} (h : c.ok) : c.uint.1.ok := by
  unfold Cu.uint
  split
  · exact h
  · cases hk : udec 0 (c.s.drop c.at') with
    | ok n k =>
      have := udec_pos _ _ _ _ hk
      rw [List.length_drop] at this
      exact ⟨by show c.at' + k ≤ c.s.length; have := h.1; omega, h.2⟩
    | bad e => exact h
theorem Cu.count_s (c : Cu) (m : Nat) : (c.count m).1.s = c.s := by unfold Cu.count; split; rfl; show (c.cnt m).s = _; unfold Cu.cnt; split; rfl; exact c.uint_s
theorem Cu.count_ok {c : Cu} (h : c.ok) (m : Nat) : (c.count m).1.ok := by unfold Cu.count; split; exact h; show (c.cnt m).ok; unfold Cu.cnt; split; exact h; exact Cu.uint_ok h
theorem Cu.bytes_s (c : Cu) (m : Nat) : (c.bytes m).1.s = c.s := by unfold Cu.bytes; split; rfl; split <;> rfl
theorem Cu.bytes_ok {c : Cu} (h : c.ok) (m : Nat) : (c.bytes m).1.ok := by
  unfold Cu.bytes; split; exact h; split; exact h
  exact ⟨by show c.at' + m ≤ c.s.length; have := h.1; omega, h.2⟩
theorem Cu.text_s (c : Cu) (m : Nat) : (c.text m).1.s = c.s := by unfold Cu.text; show (if _ then _ else _ : Cu).s = _; split; rfl; rw [Cu.bytes_s, Cu.count_s]
theorem Cu.text_ok {c : Cu} (h : c.ok) (m : Nat) : (c.text m).1.ok := by unfold Cu.text; show Cu.ok (if _ then _ else _); split; exact h; exact Cu.bytes_ok (Cu.count_ok h m) _
theorem Cu.bool_s (c : Cu) : c.bool.1.s = c.s := by unfold Cu.bool; show (if _ then _ else _ : Cu).s = _; split; rfl; rw [Cu.bytes_s]
theorem Cu.bool_ok {c : Cu} (h : c.ok) : c.bool.1.ok := by unfold Cu.bool; show Cu.ok (if _ then _ else _); split; exact h; exact Cu.bytes_ok h 1
theorem Cu.stop_s (c : Cu) (x : Int) : (c.stop x).s = c.s := by unfold Cu.stop; split <;> rfl
theorem Cu.stop_ok {c : Cu} (h : c.ok) (x : Int) : (c.stop x).ok := by unfold Cu.stop; split; exact h; exact h
theorem bAndNot128 (b : UInt8) : bAndNot .u8 ((b.toNat : Nat) : Int) 128 = ((b.toNat % 128 : Nat) : Int) := by
  have key : ∀ x : Fin 256, bAndNot .u8 ((x.val : Nat) : Int) 128 = ((x.val % 128 : Nat) : Int) := by decide +kernel
  exact key ⟨b.toNat, b.toNat_lt⟩
theorem acc_or {acc : BitVec 64} {i m : Nat} (h1 : acc.toNat < 128 ^ i) (h2 : acc.toNat + 128 ^ i * m < 18446744073709551616) : (acc ||| (BitVec.ofInt 64 ((m : Nat) : Int)) <<< (7 * i)).toNat = acc.toNat + 128 ^ i * m := by
  have e : 128 ^ i = 2 ^ (7 * i) := by rw [Nat.pow_mul]
  rw [e] at h1 h2 ⊢
  have hp : 1 ≤ 2 ^ (7 * i) := Nat.one_le_two_pow
  have hm : m ≤ 2 ^ (7 * i) * m := Nat.le_mul_of_pos_left _ hp
  have hmt : (BitVec.ofInt 64 ((m : Nat) : Int)).toNat = m := by rw [BitVec.toNat_ofInt]; simp only [Nat.reducePow]; omega
  rw [BitVec.toNat_or, BitVec.toNat_shiftLeft, hmt, Nat.shiftLeft_eq, Nat.mul_comm m, Nat.mod_eq_of_lt (by omega), Nat.or_comm, ← Nat.two_pow_add_eq_or_of_lt h1]
  omega
theorem zig_xor (n : BitVec 64) : bXor .i64 (((n >>> 1).toNat : Nat) : Int) (0 - (((n &&& 1#64).toNat : Nat) : Int)) = zig n.toNat := by
  have h1 : (n >>> 1).toNat = n.toNat / 2 := by rw [BitVec.toNat_ushiftRight, Nat.shiftRight_eq_div_pow]
  have h2 : (n &&& 1#64).toNat = n.toNat % 2 := by rw [BitVec.toNat_and]; exact Nat.and_one_is_mod _
  have hn := n.isLt
  rw [h1, h2]
  generalize n.toNat = m at *
  have hk : (BitVec.ofInt 64 ((m / 2 : Nat) : Int)).toNat = m / 2 := by rw [BitVec.toNat_ofInt]; simp only [Nat.reducePow]; omega
  unfold bXor zig
  rcases Nat.mod_two_eq_zero_or_one m with h | h
  · rw [h, if_neg (by omega)]
    have e : BitVec.ofInt IntKind.i64.bits (0 - ((0 : Nat) : Int)) = 0#64 := rfl
    rw [e]
    show IntKind.i64.wrap (((BitVec.ofInt 64 ((m / 2 : Nat) : Int) ^^^ 0#64).toNat : Nat) : Int) = _
    rw [BitVec.xor_zero, hk, wrap64 (by omega) (by omega)]
  · rw [h, if_pos rfl]
    have e : BitVec.ofInt IntKind.i64.bits (0 - ((1 : Nat) : Int)) = BitVec.allOnes 64 := show BitVec.ofInt 64 (-1) = _ by decide
    rw [e]
    show IntKind.i64.wrap (((BitVec.ofInt 64 ((m / 2 : Nat) : Int) ^^^ BitVec.allOnes 64).toNat : Nat) : Int) = _
    rw [BitVec.xor_allOnes, BitVec.toNat_not, hk, IntKind.wrap_i64]
    simp only [Nat.reducePow]
    omega

set_option maxHeartbeats 1000000 in
theorem stop_ct (c : Cu) (b : Nat) (B : Frag)(x : Int) : CtC Try.prog 91 [.pointer (some ⟨b, 0, none⟩), i64 x] B (crow b c) (.tuple #[]) (crow b (c.stop x)) := by
  refine Ct.of_body Try.func91 rfl (nt := 13) rfl (by kernel_rfl) rfl ?_
  intro N0 w0 R
  refine Cx.seq (fun K1 k1 => ?_)
  refine Cx.region ?_
  refine Lx.y (mv rfl) rfl ?_
  refine Lx.y (nilc rfl) rfl ?_
  refine Lx.y (fa' fo123_2 rfl) rfl ?_
  refine Lx.y (ld Try.underlying48 rfl rfl rfl) rfl ?_
  refine Lx.y (eqI rfl rfl) rfl ?_
  refine Lx.nil ?_
  refine Xx.tn (k1 _ _ _ _ ?_)
  refine Cx.condD rfl (fun h2 => ?_) (fun h2 => ?_)
  · skip
    have z := h2
    refine Cx.region ?_
    refine Lx.y (mv rfl) rfl ?_
    refine Lx.y (mv rfl) rfl ?_
    refine Lx.y (nilc rfl) rfl ?_
    refine Lx.y (fa' fo123_2 rfl) rfl ?_
    refine Lx.st (stO Try.underlying48 sz48 rfl rfl rfl (by simp) rfl) ?_
    refine Lx.nil ?_
    first | exact Xx.end0 rfl ⟨rfl, rfl, rfl⟩ (Frag.le_refl _) (by unfold Cu.stop; rw [if_pos z]) | exact Xx.end0 rfl ⟨rfl, rfl, rfl⟩ (Frag.le_refl _) (by unfold Cu.stop; rw [if_neg z])
  · skip
    have z := h2
    refine Cx.skip ?_
    first | exact Xx.end0 rfl ⟨rfl, rfl, rfl⟩ (Frag.le_refl _) (by unfold Cu.stop; rw [if_pos z]) | exact Xx.end0 rfl ⟨rfl, rfl, rfl⟩ (Frag.le_refl _) (by unfold Cu.stop; rw [if_neg z])

set_option maxHeartbeats 1000000 in
theorem Fail_ct (c : Cu) (b : Nat) (B : Frag)(x : Int) : CtC Try.prog 84 [.pointer (some ⟨b, 0, none⟩), i64 x] B (crow b c) (.tuple #[]) (crow b (c.stop x)) := by
  refine Ct.of_body Try.func84 rfl (nt := 9) rfl (by kernel_rfl) rfl ?_
  intro N0 w0 R
  refine Cx.seq (fun K1 k1 => ?_)
  refine Cx.region ?_
  refine Lx.y (mv rfl) rfl ?_
  refine Lx.y (Yx.tt (neNilP Try.underlying89 rfl rfl) rfl) rfl ?_
  refine Lx.nil ?_
  refine Xx.tn (k1 _ _ _ _ ?_)
  refine Cx.condT rfl ?_
  refine Cx.region ?_
  refine Lx.y (mv rfl) rfl ?_
  refine Lx.y (mv rfl) rfl ?_
  refine Lx.co rfl rfl rfl (stop_ct c b B x) (PickB.eq) rfl ?_
  refine Lx.nil ?_
  exact Xx.end0 rfl ⟨rfl, rfl, rfl⟩ (Frag.le_refl _) rfl

set_option maxHeartbeats 1000000 in
theorem Err_ct (c : Cu) (b : Nat) (B : Frag) : CtC Try.prog 86 [.pointer (some ⟨b, 0, none⟩)] B (crow b c) (i64 c.e) (crow b (c)) := by
  refine Ct.of_body Try.func86 rfl (nt := 9) rfl (by kernel_rfl) rfl ?_
  intro N0 w0 R
  refine Cx.seq (fun K1 k1 => ?_)
  refine Cx.region ?_
  refine Lx.y (asg rfl) rfl ?_
  refine Lx.nil ?_
  refine Xx.tn (k1 _ _ _ _ ?_)
  refine Cx.seq (fun K2 k2 => ?_)
  refine Cx.seq (fun K3 k3 => ?_)
  refine Cx.region ?_
  refine Lx.y (mv rfl) rfl ?_
  refine Lx.y (Yx.ff (eqNilP Try.underlying89 rfl rfl) rfl) rfl ?_
  refine Lx.nil ?_
  refine Xx.tn (k3 _ _ _ _ ?_)
  refine Cx.condF rfl ?_
  refine Cx.skip ?_
  refine Xx.tn (k2 _ _ _ _ ?_)
  refine Cx.seq (fun K4 k4 => ?_)
  refine Cx.region ?_
  refine Lx.y (mv rfl) rfl ?_
  refine Lx.y (nilc rfl) rfl ?_
  refine Lx.y (fa' fo123_2 rfl) rfl ?_
  refine Lx.y (ld Try.underlying48 rfl rfl rfl) rfl ?_
  refine Lx.y (asg rfl) rfl ?_
  refine Lx.nil ?_
  refine Xx.tn (k4 _ _ _ _ ?_)
  refine Cx.ret ?_
  exact Xx.ret1 rfl rfl ⟨rfl, rfl, rfl⟩ (Frag.le_refl _) rfl

theorem Cu.uint_eq {c : Cu} (h : c.e = 0) {u : Ud} (hu : udec 0 (c.s.drop c.at') = u) : c.uint = udTo c u := by unfold Cu.uint; rw [if_neg (by simpa using h), hu]
theorem uV {c : Cu} {p : Cu × Nat} (hu : c.uint = p) : u64 (BitVec.ofNat 64 p.2) = u64 (BitVec.ofNat 64 c.uint.2) := by rw [hu]
theorem uR1 {c : Cu} {p : Cu × Nat} {b : Nat} {R : HP} (hu : c.uint = p) : crow b p.1 * R = crow b c.uint.1 * R := by rw [hu]
theorem stop_eq {c : Cu} {x : Int} (h : c.e = 0) : c.stop x = ⟨c.s, c.at', x⟩ := by unfold Cu.stop; rw [if_pos h]
theorem Cu.uint_ne {c : Cu} (h : ¬ c.e = 0) : c.uint = (c, 0) := by unfold Cu.uint; rw [if_pos h]
theorem udec_nil {i : Nat} {l : List UInt8} {a : Nat} (h : l.length ≤ a) : udec i (l.drop a) = .bad 4 := by rw [List.drop_eq_nil_of_le h]; rfl
theorem drop_at {l : List UInt8} {a : Nat} (h : a < l.length) : l.drop a = l.getD a 0 :: l.drop (a + 1) := by
  have e : l.getD a 0 = l[a] := by simp [List.getD, h]
  rw [e]; exact List.drop_eq_getElem_cons h
theorem udec_bad {i : Nat} {l : List UInt8} {a : Nat} (h : a < l.length) (hf : (i = 9 ∧ 1 < (l.getD a 0).toNat) ∨ (0 < i ∧ (l.getD a 0).toNat = 0)) : udec i (l.drop a) = .bad 6 := by
  rw [drop_at h]; unfold udec; rw [if_pos hf]
theorem udec_last {i : Nat} {l : List UInt8} {a : Nat} (h : a < l.length) (hf : ¬ ((i = 9 ∧ 1 < (l.getD a 0).toNat) ∨ (0 < i ∧ (l.getD a 0).toNat = 0))) (hl : (l.getD a 0).toNat < 128) : udec i (l.drop a) = .ok (l.getD a 0).toNat 1 := by
  rw [drop_at h]; unfold udec; rw [if_neg hf, if_pos hl]
theorem udec_more {i acc : Nat} {l : List UInt8} {a : Nat} (h : a < l.length) (hf : ¬ ((i = 9 ∧ 1 < (l.getD a 0).toNat) ∨ (0 < i ∧ (l.getD a 0).toNat = 0))) (hl : ¬ (l.getD a 0).toNat < 128) :
    Ud.comb acc i (udec i (l.drop a)) = Ud.comb (acc + 128 ^ i * ((l.getD a 0).toNat % 128)) (i + 1) (udec (i + 1) (l.drop (a + 1))) := by
  rw [drop_at h]
  conv => lhs; unfold udec
  rw [if_neg hf, if_neg hl]
  cases udec (i + 1) (l.drop (a + 1)) with
  | bad e => rfl
  | ok n k =>
    show Ud.ok _ _ = Ud.ok _ _
    congr 1
    · rw [Nat.mul_add, Nat.pow_succ, Nat.mul_assoc, Nat.add_assoc]
    · omega
theorem pow9 {i : Nat} (h : i ≤ 9) : 128 ^ i ≤ 9223372036854775808 := Nat.le_trans (Nat.pow_le_pow_right (by decide) h) (by decide)
theorem acc_bound {a i m : Nat} (hi : i ≤ 9) (ha : a < 128 ^ i) (h9 : i = 9 → m ≤ 1) : a + 128 ^ i * (m % 128) < 18446744073709551616 := by
  by_cases e : i = 9
  · subst e
    have := h9 rfl
    have h1 : 128 ^ 9 * (m % 128) ≤ 128 ^ 9 * 1 := Nat.mul_le_mul_left _ (by omega)
    have h2 : (128 : Nat) ^ 9 = 9223372036854775808 := by decide
    omega
  · have h1 : 128 ^ i * (m % 128) ≤ 128 ^ i * 127 := Nat.mul_le_mul_left _ (by omega)
    have h2 : 128 ^ i ≤ 128 ^ 8 := Nat.pow_le_pow_right (by decide) (by omega)
    have h3 : (128 : Nat) ^ 8 = 72057594037927936 := by decide
    omega
theorem ofNat_u64 {x : BitVec 64} {n : Nat} (h : x.toNat = n) : u64 x = u64 (BitVec.ofNat 64 n) := by subst h; rw [BitVec.ofNat_toNat, BitVec.setWidth_eq]

set_option maxHeartbeats 1000000 in
theorem Uint_ct (c : Cu) (b : Nat) (B : Frag) (h : c.ok) : CtC Try.prog 112 [.pointer (some ⟨b, 0, none⟩)] B (crow b c) (u64 (BitVec.ofNat 64 c.uint.2)) (crow b (c.uint.1)) := by
  obtain ⟨hat, hsl⟩ := h
  refine Ct.of_body Try.func112 rfl (nt := 77) rfl (by kernel_rfl) rfl ?_
  intro N0 w0 R
  refine Cx.seq (fun K1 k1 => ?_)
  refine Cx.region ?_
  refine Lx.y (asg rfl) rfl ?_
  refine Lx.nil ?_
  refine Xx.tn (k1 _ _ _ _ ?_)
  refine Cx.seq (fun K2 k2 => ?_)
  refine Cx.seq (fun K3 k3 => ?_)
  refine Cx.region ?_
  refine Lx.y (mv rfl) rfl ?_
  refine Lx.y (Yx.ff (eqNilP Try.underlying89 rfl rfl) rfl) rfl ?_
  refine Lx.y (mv rfl) rfl ?_
  refine Lx.gT rfl rfl rfl ?_
  refine Lx.y (mv rfl) rfl ?_
  refine Lx.gT rfl rfl rfl ?_
  refine Lx.y (nilc rfl) rfl ?_
  refine Lx.gT rfl rfl rfl ?_
  refine Lx.y (fa' fo123_2 rfl) rfl ?_
  refine Lx.gT rfl rfl rfl ?_
  refine Lx.y (ld Try.underlying48 rfl rfl rfl) rfl ?_
  refine Lx.gT rfl rfl rfl ?_
  refine Lx.y (neI rfl rfl) rfl ?_
  refine Lx.y (pickF rfl rfl) rfl ?_
  refine Lx.nil ?_
  refine Xx.tn (k3 _ _ _ _ ?_)
  refine Cx.condN rfl (fun h4 => ?_) (fun h4 => ?_)
  · skip
    have hu := Cu.uint_ne h4
    refine Cx.seq (fun K5 k5 => ?_)
    refine Cx.region ?_
    refine Lx.y (asg rfl) rfl ?_
    refine Lx.nil ?_
    refine Xx.tn (k5 _ _ _ _ ?_)
    refine Cx.ret ?_
    refine Xx.tr ?_
    first | exact Xx.ret1 rfl rfl ⟨uV hu, rfl, rfl⟩ (Frag.le_refl _) (uR1 hu) | exact Xx.ret1 rfl rfl ⟨uV hu, rfl, rfl⟩ (Frag.le_refl _) ((congrArg (fun z => crow b z * R) (stop_eq he)).trans (uR1 hu)) | exact Xx.ret1 rfl rfl ⟨ofNat_u64 (by rw [hu, hor, Nat.mod_eq_of_lt hl9]; show _ = acc.toNat + _; omega), rfl, rfl⟩ (Frag.le_refl _) ((congrArg (fun z : Nat => row b 123 [str c.s, i64 (z : Nat), i64 c.e] * R) (show c.at' + (i + 1) = c.at' + (1 + i) by omega)).trans (uR1 hu))
  · skip
    have he : c.e = 0 := h4
    refine Cx.skip ?_
    refine Xx.tn (k2 _ _ _ _ ?_)
    refine Cx.seq (fun K6 k6 => ?_)
    refine Cx.region ?_
    refine Lx.y (asg rfl) rfl ?_
    refine Lx.y (asg rfl) rfl ?_
    refine Lx.nil ?_
    refine Xx.tn (k6 _ _ _ _ ?_)
    refine Cx.seq (fun K7 k7 => ?_)
    refine Cx.block ?_
    refine Cx.loopK (Sub.cons (s := 0) rfl (Sub.cons (s := 6) rfl (Sub.cons (s := 7) rfl (Sub.cons (s := 8) rfl (Sub.cons (s := 9) rfl (Sub.cons (s := 10) rfl (Sub.cons (s := 11) rfl (Sub.cons (s := 12) rfl (Sub.cons (s := 13) rfl (Sub.cons (s := 14) rfl (Sub.nil _))))))))))) (fun m ρ' B' H' => ∃ (i : Nat) (acc : BitVec 64), (i ≤ 9 ∧ acc.toNat < 128 ^ i ∧ udec 0 (c.s.drop c.at') = Ud.comb acc.toNat i (udec i (c.s.drop (c.at' + i)))) ∧ m = 10 - i ∧ ρ' = [(3, u64 acc), (4, i64 i)] ∧ B = B' ∧ crow b c * R = H') ⟨0, 0#64, ⟨by omega, by decide, by simp only [Nat.add_zero]; cases udec 0 (c.s.drop c.at') with | bad e => rfl | ok n k => simp [Ud.comb]⟩, rfl, rfl, rfl, rfl⟩ (Sub.cons (s := 3) rfl (Sub.cons (s := 4) rfl (Sub.cons (s := 0) rfl (Sub.cons (s := 6) rfl (Sub.cons (s := 7) rfl (Sub.cons (s := 8) rfl (Sub.cons (s := 9) rfl (Sub.cons (s := 10) rfl (Sub.cons (s := 11) rfl (Sub.cons (s := 12) rfl (Sub.cons (s := 13) rfl (Sub.cons (s := 14) rfl (Sub.nil _))))))))))))) ?_
    rintro m ρ' B' H' ⟨i, acc, ⟨hi, hacc, hud⟩, rfl, rfl, rfl, rfl⟩
    refine Cx.block ?_
    refine Cx.seq (fun K8 k8 => ?_)
    refine Cx.seq (fun K9 k9 => ?_)
    refine Cx.drawn (by kernel_rfl) ?_
    refine Dx.p (i := 0) rfl (by kernel_rfl) (mv rfl) rfl ?_
    refine Dx.p (i := 1) rfl (by kernel_rfl) (nilc rfl) rfl ?_
    refine Dx.p (i := 2) rfl (by kernel_rfl) (fa' fo123_1 rfl) rfl ?_
    refine Dx.r (i := 3) rfl (by kernel_rfl) (ld Try.underlying3 rfl rfl rfl) rfl ?_
    refine Dx.p (i := 4) rfl (by kernel_rfl) (mv rfl) rfl ?_
    refine Dx.p (i := 5) rfl (by kernel_rfl) (add rfl rfl (by first | exact wrap64 (by omega) (by omega) | rfl)) rfl ?_
    refine Dx.p (i := 6) rfl (by kernel_rfl) (mv rfl) rfl ?_
    refine Dx.p (i := 7) rfl (by kernel_rfl) (nilc rfl) rfl ?_
    refine Dx.p (i := 8) rfl (by kernel_rfl) (fa' fo123_0 rfl) rfl ?_
    refine Dx.r (i := 9) rfl (by kernel_rfl) (ld Try.underlying9 rfl rfl rfl) rfl ?_
    refine Dx.p (i := 10) rfl (by kernel_rfl) (lenS Try.underlying9 rfl) rfl ?_
    refine Dx.p (i := 11) rfl (by kernel_rfl) (geq rfl rfl) rfl ?_
    refine Dx.done (by kernel_rfl) ?_
    refine Xx.tn (k9 _ _ _ _ ?_)
    refine Cx.condD rfl (fun h10 => ?_) (fun h10 => ?_)
    · skip
      have hu := Cu.uint_eq he (hud.trans (by rw [udec_nil (show c.s.length ≤ c.at' + i by have := h10; omega)]))
      refine Cx.seq (fun K11 k11 => ?_)
      refine Cx.region ?_
      refine Lx.y (mv rfl) rfl ?_
      refine Lx.co rfl rfl rfl (stop_ct c b _ 4) (PickB.eq) rfl ?_
      refine Lx.nil ?_
      refine Xx.tn (k11 _ _ _ _ ?_)
      refine Cx.seq (fun K12 k12 => ?_)
      refine Cx.region ?_
      refine Lx.y (asg rfl) rfl ?_
      refine Lx.nil ?_
      refine Xx.tn (k12 _ _ _ _ ?_)
      refine Cx.ret ?_
      refine Xx.tr ?_
      refine Xx.br ?_
      refine Xx.tr ?_
      refine Xx.br ?_
      refine Xx.tr ?_
      first | exact Xx.ret1 rfl rfl ⟨uV hu, rfl, rfl⟩ (Frag.le_refl _) (uR1 hu) | exact Xx.ret1 rfl rfl ⟨uV hu, rfl, rfl⟩ (Frag.le_refl _) ((congrArg (fun z => crow b z * R) (stop_eq he)).trans (uR1 hu)) | exact Xx.ret1 rfl rfl ⟨ofNat_u64 (by rw [hu, hor, Nat.mod_eq_of_lt hl9]; show _ = acc.toNat + _; omega), rfl, rfl⟩ (Frag.le_refl _) ((congrArg (fun z : Nat => row b 123 [str c.s, i64 (z : Nat), i64 c.e] * R) (show c.at' + (i + 1) = c.at' + (1 + i) by omega)).trans (uR1 hu))
    · skip
      have hil : c.at' + i < c.s.length := by have := h10; omega
      have hp9 := pow9 hi
      refine Cx.skip ?_
      refine Xx.tn (k8 _ _ _ _ ?_)
      refine Cx.seq (fun K13 k13 => ?_)
      refine Cx.drawn (by kernel_rfl) ?_
      refine Dx.p (i := 0) rfl (by kernel_rfl) (mv rfl) rfl ?_
      refine Dx.p (i := 1) rfl (by kernel_rfl) (nilc rfl) rfl ?_
      refine Dx.p (i := 2) rfl (by kernel_rfl) (fa' fo123_0 rfl) rfl ?_
      refine Dx.r (i := 3) rfl (by kernel_rfl) (ld Try.underlying9 rfl rfl rfl) rfl ?_
      refine Dx.p (i := 4) rfl (by kernel_rfl) (mv rfl) rfl ?_
      refine Dx.p (i := 5) rfl (by kernel_rfl) (nilc rfl) rfl ?_
      refine Dx.p (i := 6) rfl (by kernel_rfl) (fa' fo123_1 rfl) rfl ?_
      refine Dx.r (i := 7) rfl (by kernel_rfl) (ld Try.underlying3 rfl rfl rfl) rfl ?_
      refine Dx.p (i := 8) rfl (by kernel_rfl) (mv rfl) rfl ?_
      refine Dx.p (i := 9) rfl (by kernel_rfl) (add rfl rfl (by first | exact wrap64 (by omega) (by omega) | rfl)) rfl ?_
      refine Dx.p (i := 10) rfl (by kernel_rfl) (ixS Try.underlying9 rfl rfl (by first | exact Int.toNat_natCast _ | rfl) (by omega) (by omega)) rfl ?_
      refine Dx.p (i := 11) rfl (by kernel_rfl) (asg rfl) rfl ?_
      refine Dx.done (by kernel_rfl) ?_
      refine Xx.tn (k13 _ _ _ _ ?_)
      refine Cx.seq (fun K14 k14 => ?_)
      refine Cx.seq (fun K15 k15 => ?_)
      refine Cx.region ?_
      refine Lx.y (mv rfl) rfl ?_
      refine Lx.y (eqI rfl rfl) rfl ?_
      refine Lx.y (mv rfl) rfl ?_
      refine Xx.ifD (t := 42) rfl (fun h16 => ?_) (fun h16 => ?_)
      · skip
        refine Lx.gT rfl rfl rfl ?_
        refine Lx.y (mv rfl) rfl ?_
        refine Lx.gT rfl rfl rfl ?_
        refine Lx.y (gtr rfl rfl) rfl ?_
        refine Lx.y (pickT rfl rfl) rfl ?_
        refine Lx.y (mv rfl) rfl ?_
        refine Xx.ifD (t := 46) rfl (fun h17 => ?_) (fun h17 => ?_)
        · skip
          have hu := Cu.uint_eq he (hud.trans (by rw [udec_bad hil (by omega)]))
          refine Lx.gF rfl rfl rfl rfl ?_
          refine Lx.gF rfl rfl rfl rfl ?_
          refine Lx.gF rfl rfl rfl rfl ?_
          refine Lx.gU rfl rfl rfl rfl ?_
          refine Lx.gU rfl rfl rfl rfl ?_
          refine Lx.gF rfl rfl rfl rfl ?_
          refine Lx.y (pickT rfl rfl) rfl ?_
          refine Lx.nil ?_
          refine Xx.tn (k15 _ _ _ _ ?_)
          refine Cx.condT rfl ?_
          refine Cx.seq (fun K18 k18 => ?_)
          refine Cx.region ?_
          refine Lx.y (mv rfl) rfl ?_
          refine Lx.co rfl rfl rfl (stop_ct c b _ 6) (PickB.eq) rfl ?_
          refine Lx.nil ?_
          refine Xx.tn (k18 _ _ _ _ ?_)
          refine Cx.seq (fun K19 k19 => ?_)
          refine Cx.region ?_
          refine Lx.y (asg rfl) rfl ?_
          refine Lx.nil ?_
          refine Xx.tn (k19 _ _ _ _ ?_)
          refine Cx.ret ?_
          refine Xx.tr ?_
          refine Xx.br ?_
          refine Xx.tr ?_
          refine Xx.br ?_
          refine Xx.tr ?_
          first | exact Xx.ret1 rfl rfl ⟨uV hu, rfl, rfl⟩ (Frag.le_refl _) (uR1 hu) | exact Xx.ret1 rfl rfl ⟨uV hu, rfl, rfl⟩ (Frag.le_refl _) ((congrArg (fun z => crow b z * R) (stop_eq he)).trans (uR1 hu)) | exact Xx.ret1 rfl rfl ⟨ofNat_u64 (by rw [hu, hor, Nat.mod_eq_of_lt hl9]; show _ = acc.toNat + _; omega), rfl, rfl⟩ (Frag.le_refl _) ((congrArg (fun z : Nat => row b 123 [str c.s, i64 (z : Nat), i64 c.e] * R) (show c.at' + (i + 1) = c.at' + (1 + i) by omega)).trans (uR1 hu))
        · skip
          refine Lx.gT rfl rfl rfl ?_
          refine Lx.y (mv rfl) rfl ?_
          refine Lx.gT rfl rfl rfl ?_
          refine Lx.y (gtr rfl rfl) rfl ?_
          refine Lx.gT rfl rfl rfl ?_
          refine Lx.y (mv rfl) rfl ?_
          refine Xx.ifD (t := 49) rfl (fun h20 => ?_) (fun h20 => ?_)
          · skip
            refine Lx.gT rfl rfl rfl ?_
            refine Lx.y (mv rfl) rfl ?_
            refine Lx.gT rfl rfl rfl ?_
            refine Lx.y (eqI rfl rfl) rfl ?_
            refine Lx.gT rfl rfl rfl ?_
            refine Lx.y (pickT rfl rfl) rfl ?_
            refine Lx.y (pickF rfl rfl) rfl ?_
            refine Lx.nil ?_
            refine Xx.tn (k15 _ _ _ _ ?_)
            refine Cx.condD rfl (fun h21 => ?_) (fun h21 => ?_)
            · skip
              have hu := Cu.uint_eq he (hud.trans (by rw [udec_bad hil (by omega)]))
              refine Cx.seq (fun K22 k22 => ?_)
              refine Cx.region ?_
              refine Lx.y (mv rfl) rfl ?_
              refine Lx.co rfl rfl rfl (stop_ct c b _ 6) (PickB.eq) rfl ?_
              refine Lx.nil ?_
              refine Xx.tn (k22 _ _ _ _ ?_)
              refine Cx.seq (fun K23 k23 => ?_)
              refine Cx.region ?_
              refine Lx.y (asg rfl) rfl ?_
              refine Lx.nil ?_
              refine Xx.tn (k23 _ _ _ _ ?_)
              refine Cx.ret ?_
              refine Xx.tr ?_
              refine Xx.br ?_
              refine Xx.tr ?_
              refine Xx.br ?_
              refine Xx.tr ?_
              first | exact Xx.ret1 rfl rfl ⟨uV hu, rfl, rfl⟩ (Frag.le_refl _) (uR1 hu) | exact Xx.ret1 rfl rfl ⟨uV hu, rfl, rfl⟩ (Frag.le_refl _) ((congrArg (fun z => crow b z * R) (stop_eq he)).trans (uR1 hu)) | exact Xx.ret1 rfl rfl ⟨ofNat_u64 (by rw [hu, hor, Nat.mod_eq_of_lt hl9]; show _ = acc.toNat + _; omega), rfl, rfl⟩ (Frag.le_refl _) ((congrArg (fun z : Nat => row b 123 [str c.s, i64 (z : Nat), i64 c.e] * R) (show c.at' + (i + 1) = c.at' + (1 + i) by omega)).trans (uR1 hu))
            · skip
              refine Cx.skip ?_
              refine Xx.tn (k14 _ _ _ _ ?_)
              refine Cx.seq (fun K24 k24 => ?_)
              have hnf : ¬ ((i = 9 ∧ 1 < (c.s.getD (c.at' + i) 0).toNat) ∨ (0 < i ∧ (c.s.getD (c.at' + i) 0).toNat = 0)) := by omega
              have hm9 : i = 9 → (c.s.getD (c.at' + i) 0).toNat ≤ 1 := by omega
              have hsum : acc.toNat + 128 ^ i * ((c.s.getD (c.at' + i) 0).toNat % 128) < 18446744073709551616 := acc_bound hi hacc hm9
              have hor := acc_or (m := (c.s.getD (c.at' + i) 0).toNat % 128) hacc hsum
              refine Cx.region ?_
              refine Lx.y (mv rfl) rfl ?_
              refine Lx.y (mv rfl) rfl ?_
              refine Lx.y (Yx.val (bandnot rfl rfl rfl) (congrArg (Value.int .u8) (bAndNot128 _))) rfl ?_
              refine Lx.y (cvW64 rfl Try.underlying5 Try.underlying98) rfl ?_
              refine Lx.y (mv rfl) rfl ?_
              refine Lx.y (mul rfl rfl (by first | exact wrap64 (by omega) (by omega) | rfl)) rfl ?_
              refine Lx.y (shlW64 (c := 7 * i) rfl rfl (Nat.ble_eq_true_of_le (by omega))) rfl ?_
              refine Lx.y (orW64 rfl rfl) rfl ?_
              refine Lx.y (asg rfl) rfl ?_
              refine Lx.nil ?_
              refine Xx.tn (k24 _ _ _ _ ?_)
              refine Cx.seq (fun K25 k25 => ?_)
              refine Cx.region ?_
              refine Lx.y (mv rfl) rfl ?_
              refine Lx.y (add rfl rfl (by first | exact wrap64 (by omega) (by omega) | rfl)) rfl ?_
              refine Lx.y (asg rfl) rfl ?_
              refine Lx.nil ?_
              refine Xx.tn (k25 _ _ _ _ ?_)
              refine Cx.seq (fun K26 k26 => ?_)
              refine Cx.region ?_
              refine Lx.y (mv rfl) rfl ?_
              refine Lx.y (lss rfl rfl) rfl ?_
              refine Lx.nil ?_
              refine Xx.tn (k26 _ _ _ _ ?_)
              refine Cx.condD rfl (fun h27 => ?_) (fun h27 => ?_)
              · skip
                have hl9 : (c.s.getD (c.at' + i) 0).toNat < 128 := by have := h27; omega
                have hu := Cu.uint_eq he (hud.trans (by rw [udec_last hil hnf hl9]))
                refine Cx.exit ?_
                refine Xx.bm rfl ?_
                refine Xx.te ?_
                refine Xx.bh ?_
                refine Xx.tn (k7 _ _ _ _ ?_)
                refine Cx.seq (fun K28 k28 => ?_)
                refine Cx.region ?_
                refine Lx.y (mv rfl) rfl ?_
                refine Lx.y (nilc rfl) rfl ?_
                refine Lx.y (fa' fo123_1 rfl) rfl ?_
                refine Lx.y (ld Try.underlying3 rfl rfl rfl) rfl ?_
                refine Lx.y (mv rfl) rfl ?_
                refine Lx.y (add rfl rfl (by first | exact wrap64 (by omega) (by omega) | rfl)) rfl ?_
                refine Lx.y (nilc rfl) rfl ?_
                refine Lx.y (fa' fo123_1 rfl) rfl ?_
                refine Lx.st (stO Try.underlying3 sz3 rfl rfl rfl (by simp) rfl) ?_
                refine Lx.nil ?_
                refine Xx.tn (k28 _ _ _ _ ?_)
                refine Cx.seq (fun K29 k29 => ?_)
                refine Cx.region ?_
                refine Lx.y (mv rfl) rfl ?_
                refine Lx.y (asg rfl) rfl ?_
                refine Lx.nil ?_
                refine Xx.tn (k29 _ _ _ _ ?_)
                refine Cx.ret ?_
                first | exact Xx.ret1 rfl rfl ⟨uV hu, rfl, rfl⟩ (Frag.le_refl _) (uR1 hu) | exact Xx.ret1 rfl rfl ⟨uV hu, rfl, rfl⟩ (Frag.le_refl _) ((congrArg (fun z => crow b z * R) (stop_eq he)).trans (uR1 hu)) | exact Xx.ret1 rfl rfl ⟨ofNat_u64 (by rw [hu, hor, Nat.mod_eq_of_lt hl9]; show _ = acc.toNat + _; omega), rfl, rfl⟩ (Frag.le_refl _) ((congrArg (fun z : Nat => row b 123 [str c.s, i64 (z : Nat), i64 c.e] * R) (show c.at' + (i + 1) = c.at' + (1 + i) by omega)).trans (uR1 hu))
              · skip
                have hl9 : ¬ (c.s.getD (c.at' + i) 0).toNat < 128 := by have := h27; omega
                refine Cx.skip ?_
                refine Xx.bn ?_
                exact Xx.againK ⟨i + 1, acc ||| (BitVec.ofInt 64 (((c.s.getD (c.at' + i) 0).toNat % 128 : Nat) : Int)) <<< (7 * i), ⟨by omega, by rw [hor, Nat.pow_succ]; have : 128 ^ i * ((c.s.getD (c.at' + i) 0).toNat % 128) ≤ 128 ^ i * 127 := Nat.mul_le_mul_left _ (by omega); omega, by rw [hud, udec_more hil hnf hl9, hor]; rfl⟩, rfl, rfl, rfl, rfl⟩ (by omega) (Sub.cons (s := 3) rfl (Sub.cons (s := 4) rfl (Sub.cons (s := 0) rfl (Sub.cons (s := 6) rfl (Sub.cons (s := 7) rfl (Sub.cons (s := 8) rfl (Sub.cons (s := 9) rfl (Sub.cons (s := 10) rfl (Sub.cons (s := 11) rfl (Sub.cons (s := 12) rfl (Sub.cons (s := 13) rfl (Sub.cons (s := 14) rfl (Sub.nil _)))))))))))))
          · skip
            refine Lx.gF rfl rfl rfl rfl ?_
            refine Lx.gF rfl rfl rfl rfl ?_
            refine Lx.gT rfl rfl rfl ?_
            refine Lx.y (pickF rfl rfl) rfl ?_
            refine Lx.y (pickF rfl rfl) rfl ?_
            refine Lx.nil ?_
            refine Xx.tn (k15 _ _ _ _ ?_)
            refine Cx.condF rfl ?_
            refine Cx.skip ?_
            refine Xx.tn (k14 _ _ _ _ ?_)
            refine Cx.seq (fun K30 k30 => ?_)
            have hnf : ¬ ((i = 9 ∧ 1 < (c.s.getD (c.at' + i) 0).toNat) ∨ (0 < i ∧ (c.s.getD (c.at' + i) 0).toNat = 0)) := by omega
            have hm9 : i = 9 → (c.s.getD (c.at' + i) 0).toNat ≤ 1 := by omega
            have hsum : acc.toNat + 128 ^ i * ((c.s.getD (c.at' + i) 0).toNat % 128) < 18446744073709551616 := acc_bound hi hacc hm9
            have hor := acc_or (m := (c.s.getD (c.at' + i) 0).toNat % 128) hacc hsum
            refine Cx.region ?_
            refine Lx.y (mv rfl) rfl ?_
            refine Lx.y (mv rfl) rfl ?_
            refine Lx.y (Yx.val (bandnot rfl rfl rfl) (congrArg (Value.int .u8) (bAndNot128 _))) rfl ?_
            refine Lx.y (cvW64 rfl Try.underlying5 Try.underlying98) rfl ?_
            refine Lx.y (mv rfl) rfl ?_
            refine Lx.y (mul rfl rfl (by first | exact wrap64 (by omega) (by omega) | rfl)) rfl ?_
            refine Lx.y (shlW64 (c := 7 * i) rfl rfl (Nat.ble_eq_true_of_le (by omega))) rfl ?_
            refine Lx.y (orW64 rfl rfl) rfl ?_
            refine Lx.y (asg rfl) rfl ?_
            refine Lx.nil ?_
            refine Xx.tn (k30 _ _ _ _ ?_)
            refine Cx.seq (fun K31 k31 => ?_)
            refine Cx.region ?_
            refine Lx.y (mv rfl) rfl ?_
            refine Lx.y (add rfl rfl (by first | exact wrap64 (by omega) (by omega) | rfl)) rfl ?_
            refine Lx.y (asg rfl) rfl ?_
            refine Lx.nil ?_
            refine Xx.tn (k31 _ _ _ _ ?_)
            refine Cx.seq (fun K32 k32 => ?_)
            refine Cx.region ?_
            refine Lx.y (mv rfl) rfl ?_
            refine Lx.y (lss rfl rfl) rfl ?_
            refine Lx.nil ?_
            refine Xx.tn (k32 _ _ _ _ ?_)
            refine Cx.condD rfl (fun h33 => ?_) (fun h33 => ?_)
            · skip
              have hl9 : (c.s.getD (c.at' + i) 0).toNat < 128 := by have := h33; omega
              have hu := Cu.uint_eq he (hud.trans (by rw [udec_last hil hnf hl9]))
              refine Cx.exit ?_
              refine Xx.bm rfl ?_
              refine Xx.te ?_
              refine Xx.bh ?_
              refine Xx.tn (k7 _ _ _ _ ?_)
              refine Cx.seq (fun K34 k34 => ?_)
              refine Cx.region ?_
              refine Lx.y (mv rfl) rfl ?_
              refine Lx.y (nilc rfl) rfl ?_
              refine Lx.y (fa' fo123_1 rfl) rfl ?_
              refine Lx.y (ld Try.underlying3 rfl rfl rfl) rfl ?_
              refine Lx.y (mv rfl) rfl ?_
              refine Lx.y (add rfl rfl (by first | exact wrap64 (by omega) (by omega) | rfl)) rfl ?_
              refine Lx.y (nilc rfl) rfl ?_
              refine Lx.y (fa' fo123_1 rfl) rfl ?_
              refine Lx.st (stO Try.underlying3 sz3 rfl rfl rfl (by simp) rfl) ?_
              refine Lx.nil ?_
              refine Xx.tn (k34 _ _ _ _ ?_)
              refine Cx.seq (fun K35 k35 => ?_)
              refine Cx.region ?_
              refine Lx.y (mv rfl) rfl ?_
              refine Lx.y (asg rfl) rfl ?_
              refine Lx.nil ?_
              refine Xx.tn (k35 _ _ _ _ ?_)
              refine Cx.ret ?_
              first | exact Xx.ret1 rfl rfl ⟨uV hu, rfl, rfl⟩ (Frag.le_refl _) (uR1 hu) | exact Xx.ret1 rfl rfl ⟨uV hu, rfl, rfl⟩ (Frag.le_refl _) ((congrArg (fun z => crow b z * R) (stop_eq he)).trans (uR1 hu)) | exact Xx.ret1 rfl rfl ⟨ofNat_u64 (by rw [hu, hor, Nat.mod_eq_of_lt hl9]; show _ = acc.toNat + _; omega), rfl, rfl⟩ (Frag.le_refl _) ((congrArg (fun z : Nat => row b 123 [str c.s, i64 (z : Nat), i64 c.e] * R) (show c.at' + (i + 1) = c.at' + (1 + i) by omega)).trans (uR1 hu))
            · skip
              have hl9 : ¬ (c.s.getD (c.at' + i) 0).toNat < 128 := by have := h33; omega
              refine Cx.skip ?_
              refine Xx.bn ?_
              exact Xx.againK ⟨i + 1, acc ||| (BitVec.ofInt 64 (((c.s.getD (c.at' + i) 0).toNat % 128 : Nat) : Int)) <<< (7 * i), ⟨by omega, by rw [hor, Nat.pow_succ]; have : 128 ^ i * ((c.s.getD (c.at' + i) 0).toNat % 128) ≤ 128 ^ i * 127 := Nat.mul_le_mul_left _ (by omega); omega, by rw [hud, udec_more hil hnf hl9, hor]; rfl⟩, rfl, rfl, rfl, rfl⟩ (by omega) (Sub.cons (s := 3) rfl (Sub.cons (s := 4) rfl (Sub.cons (s := 0) rfl (Sub.cons (s := 6) rfl (Sub.cons (s := 7) rfl (Sub.cons (s := 8) rfl (Sub.cons (s := 9) rfl (Sub.cons (s := 10) rfl (Sub.cons (s := 11) rfl (Sub.cons (s := 12) rfl (Sub.cons (s := 13) rfl (Sub.cons (s := 14) rfl (Sub.nil _)))))))))))))
      · skip
        refine Lx.gF rfl rfl rfl rfl ?_
        refine Lx.gF rfl rfl rfl rfl ?_
        refine Lx.y (pickF rfl rfl) rfl ?_
        refine Lx.y (mv rfl) rfl ?_
        refine Lx.gT rfl rfl rfl ?_
        refine Lx.y (mv rfl) rfl ?_
        refine Lx.gT rfl rfl rfl ?_
        refine Lx.y (gtr rfl rfl) rfl ?_
        refine Lx.gT rfl rfl rfl ?_
        refine Lx.y (mv rfl) rfl ?_
        refine Xx.ifD (t := 49) rfl (fun h36 => ?_) (fun h36 => ?_)
        · skip
          refine Lx.gT rfl rfl rfl ?_
          refine Lx.y (mv rfl) rfl ?_
          refine Lx.gT rfl rfl rfl ?_
          refine Lx.y (eqI rfl rfl) rfl ?_
          refine Lx.gT rfl rfl rfl ?_
          refine Lx.y (pickT rfl rfl) rfl ?_
          refine Lx.y (pickF rfl rfl) rfl ?_
          refine Lx.nil ?_
          refine Xx.tn (k15 _ _ _ _ ?_)
          refine Cx.condD rfl (fun h37 => ?_) (fun h37 => ?_)
          · skip
            have hu := Cu.uint_eq he (hud.trans (by rw [udec_bad hil (by omega)]))
            refine Cx.seq (fun K38 k38 => ?_)
            refine Cx.region ?_
            refine Lx.y (mv rfl) rfl ?_
            refine Lx.co rfl rfl rfl (stop_ct c b _ 6) (PickB.eq) rfl ?_
            refine Lx.nil ?_
            refine Xx.tn (k38 _ _ _ _ ?_)
            refine Cx.seq (fun K39 k39 => ?_)
            refine Cx.region ?_
            refine Lx.y (asg rfl) rfl ?_
            refine Lx.nil ?_
            refine Xx.tn (k39 _ _ _ _ ?_)
            refine Cx.ret ?_
            refine Xx.tr ?_
            refine Xx.br ?_
            refine Xx.tr ?_
            refine Xx.br ?_
            refine Xx.tr ?_
            first | exact Xx.ret1 rfl rfl ⟨uV hu, rfl, rfl⟩ (Frag.le_refl _) (uR1 hu) | exact Xx.ret1 rfl rfl ⟨uV hu, rfl, rfl⟩ (Frag.le_refl _) ((congrArg (fun z => crow b z * R) (stop_eq he)).trans (uR1 hu)) | exact Xx.ret1 rfl rfl ⟨ofNat_u64 (by rw [hu, hor, Nat.mod_eq_of_lt hl9]; show _ = acc.toNat + _; omega), rfl, rfl⟩ (Frag.le_refl _) ((congrArg (fun z : Nat => row b 123 [str c.s, i64 (z : Nat), i64 c.e] * R) (show c.at' + (i + 1) = c.at' + (1 + i) by omega)).trans (uR1 hu))
          · skip
            refine Cx.skip ?_
            refine Xx.tn (k14 _ _ _ _ ?_)
            refine Cx.seq (fun K40 k40 => ?_)
            have hnf : ¬ ((i = 9 ∧ 1 < (c.s.getD (c.at' + i) 0).toNat) ∨ (0 < i ∧ (c.s.getD (c.at' + i) 0).toNat = 0)) := by omega
            have hm9 : i = 9 → (c.s.getD (c.at' + i) 0).toNat ≤ 1 := by omega
            have hsum : acc.toNat + 128 ^ i * ((c.s.getD (c.at' + i) 0).toNat % 128) < 18446744073709551616 := acc_bound hi hacc hm9
            have hor := acc_or (m := (c.s.getD (c.at' + i) 0).toNat % 128) hacc hsum
            refine Cx.region ?_
            refine Lx.y (mv rfl) rfl ?_
            refine Lx.y (mv rfl) rfl ?_
            refine Lx.y (Yx.val (bandnot rfl rfl rfl) (congrArg (Value.int .u8) (bAndNot128 _))) rfl ?_
            refine Lx.y (cvW64 rfl Try.underlying5 Try.underlying98) rfl ?_
            refine Lx.y (mv rfl) rfl ?_
            refine Lx.y (mul rfl rfl (by first | exact wrap64 (by omega) (by omega) | rfl)) rfl ?_
            refine Lx.y (shlW64 (c := 7 * i) rfl rfl (Nat.ble_eq_true_of_le (by omega))) rfl ?_
            refine Lx.y (orW64 rfl rfl) rfl ?_
            refine Lx.y (asg rfl) rfl ?_
            refine Lx.nil ?_
            refine Xx.tn (k40 _ _ _ _ ?_)
            refine Cx.seq (fun K41 k41 => ?_)
            refine Cx.region ?_
            refine Lx.y (mv rfl) rfl ?_
            refine Lx.y (add rfl rfl (by first | exact wrap64 (by omega) (by omega) | rfl)) rfl ?_
            refine Lx.y (asg rfl) rfl ?_
            refine Lx.nil ?_
            refine Xx.tn (k41 _ _ _ _ ?_)
            refine Cx.seq (fun K42 k42 => ?_)
            refine Cx.region ?_
            refine Lx.y (mv rfl) rfl ?_
            refine Lx.y (lss rfl rfl) rfl ?_
            refine Lx.nil ?_
            refine Xx.tn (k42 _ _ _ _ ?_)
            refine Cx.condD rfl (fun h43 => ?_) (fun h43 => ?_)
            · skip
              have hl9 : (c.s.getD (c.at' + i) 0).toNat < 128 := by have := h43; omega
              have hu := Cu.uint_eq he (hud.trans (by rw [udec_last hil hnf hl9]))
              refine Cx.exit ?_
              refine Xx.bm rfl ?_
              refine Xx.te ?_
              refine Xx.bh ?_
              refine Xx.tn (k7 _ _ _ _ ?_)
              refine Cx.seq (fun K44 k44 => ?_)
              refine Cx.region ?_
              refine Lx.y (mv rfl) rfl ?_
              refine Lx.y (nilc rfl) rfl ?_
              refine Lx.y (fa' fo123_1 rfl) rfl ?_
              refine Lx.y (ld Try.underlying3 rfl rfl rfl) rfl ?_
              refine Lx.y (mv rfl) rfl ?_
              refine Lx.y (add rfl rfl (by first | exact wrap64 (by omega) (by omega) | rfl)) rfl ?_
              refine Lx.y (nilc rfl) rfl ?_
              refine Lx.y (fa' fo123_1 rfl) rfl ?_
              refine Lx.st (stO Try.underlying3 sz3 rfl rfl rfl (by simp) rfl) ?_
              refine Lx.nil ?_
              refine Xx.tn (k44 _ _ _ _ ?_)
              refine Cx.seq (fun K45 k45 => ?_)
              refine Cx.region ?_
              refine Lx.y (mv rfl) rfl ?_
              refine Lx.y (asg rfl) rfl ?_
              refine Lx.nil ?_
              refine Xx.tn (k45 _ _ _ _ ?_)
              refine Cx.ret ?_
              first | exact Xx.ret1 rfl rfl ⟨uV hu, rfl, rfl⟩ (Frag.le_refl _) (uR1 hu) | exact Xx.ret1 rfl rfl ⟨uV hu, rfl, rfl⟩ (Frag.le_refl _) ((congrArg (fun z => crow b z * R) (stop_eq he)).trans (uR1 hu)) | exact Xx.ret1 rfl rfl ⟨ofNat_u64 (by rw [hu, hor, Nat.mod_eq_of_lt hl9]; show _ = acc.toNat + _; omega), rfl, rfl⟩ (Frag.le_refl _) ((congrArg (fun z : Nat => row b 123 [str c.s, i64 (z : Nat), i64 c.e] * R) (show c.at' + (i + 1) = c.at' + (1 + i) by omega)).trans (uR1 hu))
            · skip
              have hl9 : ¬ (c.s.getD (c.at' + i) 0).toNat < 128 := by have := h43; omega
              refine Cx.skip ?_
              refine Xx.bn ?_
              exact Xx.againK ⟨i + 1, acc ||| (BitVec.ofInt 64 (((c.s.getD (c.at' + i) 0).toNat % 128 : Nat) : Int)) <<< (7 * i), ⟨by omega, by rw [hor, Nat.pow_succ]; have : 128 ^ i * ((c.s.getD (c.at' + i) 0).toNat % 128) ≤ 128 ^ i * 127 := Nat.mul_le_mul_left _ (by omega); omega, by rw [hud, udec_more hil hnf hl9, hor]; rfl⟩, rfl, rfl, rfl, rfl⟩ (by omega) (Sub.cons (s := 3) rfl (Sub.cons (s := 4) rfl (Sub.cons (s := 0) rfl (Sub.cons (s := 6) rfl (Sub.cons (s := 7) rfl (Sub.cons (s := 8) rfl (Sub.cons (s := 9) rfl (Sub.cons (s := 10) rfl (Sub.cons (s := 11) rfl (Sub.cons (s := 12) rfl (Sub.cons (s := 13) rfl (Sub.cons (s := 14) rfl (Sub.nil _)))))))))))))
        · skip
          refine Lx.gF rfl rfl rfl rfl ?_
          refine Lx.gF rfl rfl rfl rfl ?_
          refine Lx.gT rfl rfl rfl ?_
          refine Lx.y (pickF rfl rfl) rfl ?_
          refine Lx.y (pickF rfl rfl) rfl ?_
          refine Lx.nil ?_
          refine Xx.tn (k15 _ _ _ _ ?_)
          refine Cx.condF rfl ?_
          refine Cx.skip ?_
          refine Xx.tn (k14 _ _ _ _ ?_)
          refine Cx.seq (fun K46 k46 => ?_)
          have hnf : ¬ ((i = 9 ∧ 1 < (c.s.getD (c.at' + i) 0).toNat) ∨ (0 < i ∧ (c.s.getD (c.at' + i) 0).toNat = 0)) := by omega
          have hm9 : i = 9 → (c.s.getD (c.at' + i) 0).toNat ≤ 1 := by omega
          have hsum : acc.toNat + 128 ^ i * ((c.s.getD (c.at' + i) 0).toNat % 128) < 18446744073709551616 := acc_bound hi hacc hm9
          have hor := acc_or (m := (c.s.getD (c.at' + i) 0).toNat % 128) hacc hsum
          refine Cx.region ?_
          refine Lx.y (mv rfl) rfl ?_
          refine Lx.y (mv rfl) rfl ?_
          refine Lx.y (Yx.val (bandnot rfl rfl rfl) (congrArg (Value.int .u8) (bAndNot128 _))) rfl ?_
          refine Lx.y (cvW64 rfl Try.underlying5 Try.underlying98) rfl ?_
          refine Lx.y (mv rfl) rfl ?_
          refine Lx.y (mul rfl rfl (by first | exact wrap64 (by omega) (by omega) | rfl)) rfl ?_
          refine Lx.y (shlW64 (c := 7 * i) rfl rfl (Nat.ble_eq_true_of_le (by omega))) rfl ?_
          refine Lx.y (orW64 rfl rfl) rfl ?_
          refine Lx.y (asg rfl) rfl ?_
          refine Lx.nil ?_
          refine Xx.tn (k46 _ _ _ _ ?_)
          refine Cx.seq (fun K47 k47 => ?_)
          refine Cx.region ?_
          refine Lx.y (mv rfl) rfl ?_
          refine Lx.y (add rfl rfl (by first | exact wrap64 (by omega) (by omega) | rfl)) rfl ?_
          refine Lx.y (asg rfl) rfl ?_
          refine Lx.nil ?_
          refine Xx.tn (k47 _ _ _ _ ?_)
          refine Cx.seq (fun K48 k48 => ?_)
          refine Cx.region ?_
          refine Lx.y (mv rfl) rfl ?_
          refine Lx.y (lss rfl rfl) rfl ?_
          refine Lx.nil ?_
          refine Xx.tn (k48 _ _ _ _ ?_)
          refine Cx.condD rfl (fun h49 => ?_) (fun h49 => ?_)
          · skip
            have hl9 : (c.s.getD (c.at' + i) 0).toNat < 128 := by have := h49; omega
            have hu := Cu.uint_eq he (hud.trans (by rw [udec_last hil hnf hl9]))
            refine Cx.exit ?_
            refine Xx.bm rfl ?_
            refine Xx.te ?_
            refine Xx.bh ?_
            refine Xx.tn (k7 _ _ _ _ ?_)
            refine Cx.seq (fun K50 k50 => ?_)
            refine Cx.region ?_
            refine Lx.y (mv rfl) rfl ?_
            refine Lx.y (nilc rfl) rfl ?_
            refine Lx.y (fa' fo123_1 rfl) rfl ?_
            refine Lx.y (ld Try.underlying3 rfl rfl rfl) rfl ?_
            refine Lx.y (mv rfl) rfl ?_
            refine Lx.y (add rfl rfl (by first | exact wrap64 (by omega) (by omega) | rfl)) rfl ?_
            refine Lx.y (nilc rfl) rfl ?_
            refine Lx.y (fa' fo123_1 rfl) rfl ?_
            refine Lx.st (stO Try.underlying3 sz3 rfl rfl rfl (by simp) rfl) ?_
            refine Lx.nil ?_
            refine Xx.tn (k50 _ _ _ _ ?_)
            refine Cx.seq (fun K51 k51 => ?_)
            refine Cx.region ?_
            refine Lx.y (mv rfl) rfl ?_
            refine Lx.y (asg rfl) rfl ?_
            refine Lx.nil ?_
            refine Xx.tn (k51 _ _ _ _ ?_)
            refine Cx.ret ?_
            first | exact Xx.ret1 rfl rfl ⟨uV hu, rfl, rfl⟩ (Frag.le_refl _) (uR1 hu) | exact Xx.ret1 rfl rfl ⟨uV hu, rfl, rfl⟩ (Frag.le_refl _) ((congrArg (fun z => crow b z * R) (stop_eq he)).trans (uR1 hu)) | exact Xx.ret1 rfl rfl ⟨ofNat_u64 (by rw [hu, hor, Nat.mod_eq_of_lt hl9]; show _ = acc.toNat + _; omega), rfl, rfl⟩ (Frag.le_refl _) ((congrArg (fun z : Nat => row b 123 [str c.s, i64 (z : Nat), i64 c.e] * R) (show c.at' + (i + 1) = c.at' + (1 + i) by omega)).trans (uR1 hu))
          · skip
            have hl9 : ¬ (c.s.getD (c.at' + i) 0).toNat < 128 := by have := h49; omega
            refine Cx.skip ?_
            refine Xx.bn ?_
            exact Xx.againK ⟨i + 1, acc ||| (BitVec.ofInt 64 (((c.s.getD (c.at' + i) 0).toNat % 128 : Nat) : Int)) <<< (7 * i), ⟨by omega, by rw [hor, Nat.pow_succ]; have : 128 ^ i * ((c.s.getD (c.at' + i) 0).toNat % 128) ≤ 128 ^ i * 127 := Nat.mul_le_mul_left _ (by omega); omega, by rw [hud, udec_more hil hnf hl9, hor]; rfl⟩, rfl, rfl, rfl, rfl⟩ (by omega) (Sub.cons (s := 3) rfl (Sub.cons (s := 4) rfl (Sub.cons (s := 0) rfl (Sub.cons (s := 6) rfl (Sub.cons (s := 7) rfl (Sub.cons (s := 8) rfl (Sub.cons (s := 9) rfl (Sub.cons (s := 10) rfl (Sub.cons (s := 11) rfl (Sub.cons (s := 12) rfl (Sub.cons (s := 13) rfl (Sub.cons (s := 14) rfl (Sub.nil _)))))))))))))

theorem udec_lt : ∀ (l : List UInt8) (i n k : Nat), i ≤ 9 → udec i l = .ok n k → n * 128 ^ i < 18446744073709551616 := by
  intro l
  induction l with
  | nil => intro i n k _ h; simp [udec] at h
  | cons b r ih =>
    intro i n k hi h
    unfold udec at h
    split at h
    · cases h
    · rename_i hc
      split at h
      · rename_i hb
        injection h with h1 h2
        subst h1
        by_cases e : i = 9
        · subst e
          have h9 : (128 : Nat) ^ 9 = 9223372036854775808 := by decide
          have : b.toNat ≤ 1 := by omega
          rw [h9]; omega
        · have h1 : 128 ^ i ≤ 128 ^ 8 := Nat.pow_le_pow_right (by decide) (by omega)
          have h3 : (128 : Nat) ^ 8 = 72057594037927936 := by decide
          have h4 : b.toNat * 128 ^ i ≤ 127 * 128 ^ i := Nat.mul_le_mul_right _ (by omega)
          omega
      · rename_i hb
        split at h
        · rename_i n' k' hk
          injection h with h1 h2
          by_cases e : i = 9
          · omega
          · have h5 := ih (i + 1) n' k' (by omega) hk
            rw [Nat.pow_succ] at h5
            subst h1
            have h6 : n' * (128 ^ i * 128) = 128 * n' * 128 ^ i := by rw [Nat.mul_comm (128 ^ i) 128, ← Nat.mul_assoc, Nat.mul_comm n' 128]
            rw [h6] at h5
            have hd : 18446744073709551616 % (128 * 128 ^ i) = 0 ∨ i = 9 := by
              rcases (by omega : i = 0 ∨ i = 1 ∨ i = 2 ∨ i = 3 ∨ i = 4 ∨ i = 5 ∨ i = 6 ∨ i = 7 ∨ i = 8) with rfl | rfl | rfl | rfl | rfl | rfl | rfl | rfl | rfl <;> exact .inl (by decide)
            rcases hd with hd | hd
            · have h7 : (b.toNat % 128 + 128 * n') * 128 ^ i = (b.toNat % 128) * 128 ^ i + 128 * n' * 128 ^ i := by rw [Nat.add_mul]
              have h8 : (b.toNat % 128) * 128 ^ i ≤ 127 * 128 ^ i := Nat.mul_le_mul_right _ (by omega)
              obtain ⟨q, hq⟩ := Nat.dvd_of_mod_eq_zero hd
              rw [Nat.mul_assoc] at hq
              have h9 : 128 * n' * 128 ^ i = 128 * (128 ^ i * n') := by rw [Nat.mul_assoc, Nat.mul_comm n']
              have h10 : 128 ^ i * n' < 128 ^ i * q := by omega
              have h11 : n' < q := Nat.lt_of_mul_lt_mul_left h10
              have h12 : 128 ^ i * n' + 128 ^ i ≤ 128 ^ i * q := by rw [← Nat.mul_succ]; exact Nat.mul_le_mul_left _ h11
              have hp : 0 < 128 ^ i := Nat.pow_pos (by decide)
              omega
            · omega
        · cases h
theorem Cu.uint_lt (c : Cu) : c.uint.2 < 18446744073709551616 := by
  unfold Cu.uint
  split
  · show 0 < _; omega
  · cases hk : udec 0 (c.s.drop c.at') with
    | ok n k => have := udec_lt _ _ _ _ (by omega) hk; simpa [udTo] using this
    | bad e => show 0 < _; omega
theorem udec_ne {i : Nat} {l : List UInt8} {e : Int} (h : udec i l = .bad e) : e = 4 ∨ e = 6 := by
  induction l generalizing i e with
  | nil => simp [udec] at h; exact .inl h.symm
  | cons b r ih =>
    unfold udec at h
    split at h
    · injection h with h; exact .inr h.symm
    · split at h
      · cases h
      · split at h
        · cases h
        · rename_i e' he; injection h with h; subst h; exact ih he
theorem Cu.uint_err {c : Cu} (h : ¬ c.uint.1.e = 0) : c.uint.2 = 0 := by
  unfold Cu.uint at h ⊢
  split
  · rfl
  · rename_i hc
    rw [if_neg hc] at h
    cases hk : udec 0 (c.s.drop c.at') with
    | ok n k => rw [hk] at h; exact absurd (show c.e = 0 by simpa using hc) h
    | bad e => rfl
theorem toNat_most {m : Nat} (h : m ≤ 4611686018427387904) : (BitVec.ofInt 64 ((m : Nat) : Int)).toNat = m := by rw [BitVec.toNat_ofInt]; simp only [Nat.reducePow]; omega
theorem toNat_uint (c : Cu) : (BitVec.ofNat 64 c.uint.2).toNat = c.uint.2 := by rw [BitVec.toNat_ofNat, Nat.mod_eq_of_lt c.uint_lt]
theorem cnt_err {c : Cu} {m : Nat} (h : (c.cnt m).e = 0) : c.uint.2 ≤ m := by
  unfold Cu.cnt at h
  split at h
  · cases h
  · rename_i hc
    by_cases he : c.uint.1.e = 0
    · omega
    · rw [c.uint_err he]; omega
theorem dropTakeAdd (l : List UInt8) (a k : Nat) : (l.take (a + k)).drop a = (l.drop a).take k := by rw [List.drop_take]; congr 1; omega
theorem Cu.bytes_eq {c : Cu} {k : Nat} (h : c.e = 0) (hk : k ≤ c.s.length - c.at') : c.bytes k = (⟨c.s, c.at' + k, c.e⟩, (c.s.drop c.at').take k) := by unfold Cu.bytes; rw [if_neg (by simpa using h), if_neg (by omega)]
theorem Cu.bytes_short {c : Cu} {k : Nat} (h : c.e = 0) (hk : c.s.length - c.at' < k) : c.bytes k = (⟨c.s, c.at', 4⟩, []) := by unfold Cu.bytes; rw [if_neg (by simpa using h), if_pos hk]
theorem Cu.bytes_ne {c : Cu} {k : Nat} (h : ¬ c.e = 0) : c.bytes k = (c, []) := by unfold Cu.bytes; rw [if_pos h]
theorem Cu.bytes_len {c : Cu} {k : Nat} (h : (c.bytes k).1.e = 0) : (c.bytes k).2.length = k := by
  by_cases he : c.e = 0
  · by_cases hk : c.s.length - c.at' < k
    · rw [Cu.bytes_short he hk] at h; cases h
    · rw [Cu.bytes_eq he (by omega)]; simp; omega
  · rw [Cu.bytes_ne he] at h; exact absurd h he
theorem bV {c : Cu} {k : Nat} {p : Cu × List UInt8} (hu : c.bytes k = p) : str p.2 = str (c.bytes k).2 := by rw [hu]
theorem bR {c : Cu} {k : Nat} {p : Cu × List UInt8} {b : Nat} {R : HP} (hu : c.bytes k = p) : crow b p.1 * R = crow b (c.bytes k).1 * R := by rw [hu]
theorem tV {c : Cu} {m : Nat} {p : Cu × List UInt8} {l : List UInt8} (hu : c.text m = p) (hl : p.2 = l) : str l = str (c.text m).2 := by rw [hu, hl]
theorem tR {c : Cu} {m : Nat} {p : Cu × List UInt8} {b : Nat} {R : HP} {d : Cu} (hu : c.text m = p) (hd : p.1 = d) : crow b d * R = crow b (c.text m).1 * R := by rw [hu, hd]
theorem cV {c : Cu} {m n : Nat} {p : Cu × Nat} (hu : c.count m = p) (hn : p.2 = n) : i64 (n : Nat) = i64 ((c.count m).2 : Nat) := by rw [hu, hn]
theorem cR {c : Cu} {m : Nat} {p : Cu × Nat} {b : Nat} {R : HP} {d : Cu} (hu : c.count m = p) (hd : p.1 = d) : crow b d * R = crow b (c.count m).1 * R := by rw [hu, hd]
theorem boolB {c : Cu} {x : Bool} (h : x = decide ((c.bytes 1).1.e = 0 ∧ ((c.bytes 1).2.getD 0 0).toNat = 1)) : Value.bool x = .bool c.bool.2 := by rw [h]; rfl

set_option maxHeartbeats 1000000 in
theorem Int_ct2 (c : Cu) (b : Nat) (B : Frag) (h : c.ok) : CtC Try.prog 88 [.pointer (some ⟨b, 0, none⟩)] B (crow b c) (i64 (zig c.uint.2)) (crow b (c.uint.1)) := by
  have hsh : ((BitVec.ofNat 64 c.uint.2) >>> 1).toNat ≤ 9223372036854775807 := by rw [BitVec.toNat_ushiftRight, Nat.shiftRight_eq_div_pow, toNat_uint]; have := c.uint_lt; omega
  have hand : ((BitVec.ofNat 64 c.uint.2) &&& 1#64).toNat ≤ 1 := by rw [BitVec.toNat_and]; exact Nat.le_trans Nat.and_le_right (by decide)
  refine Ct.of_body Try.func88 rfl (nt := 14) rfl (by kernel_rfl) rfl ?_
  intro N0 w0 R
  refine Cx.seq (fun K1 k1 => ?_)
  refine Cx.region ?_
  refine Lx.y (asg rfl) rfl ?_
  refine Lx.nil ?_
  refine Xx.tn (k1 _ _ _ _ ?_)
  refine Cx.seq (fun K2 k2 => ?_)
  refine Cx.region ?_
  refine Lx.y (mv rfl) rfl ?_
  refine Lx.co rfl rfl rfl (Uint_ct c b B h) (PickB.eq) rfl ?_
  refine Lx.y (asg rfl) rfl ?_
  refine Lx.nil ?_
  refine Xx.tn (k2 _ _ _ _ ?_)
  refine Cx.seq (fun K3 k3 => ?_)
  refine Cx.region ?_
  refine Lx.y (mv rfl) rfl ?_
  refine Lx.y (shrW64 (c := 1) rfl rfl rfl) rfl ?_
  refine Lx.y (cvI rfl Try.underlying98 Try.underlying2 (by first | exact wrap64 (by omega) (by omega) | rfl)) rfl ?_
  refine Lx.y (mv rfl) rfl ?_
  refine Lx.y (andW64 (b := 1#64) rfl rfl) rfl ?_
  refine Lx.y (cvI rfl Try.underlying98 Try.underlying2 (by first | exact wrap64 (by omega) (by omega) | rfl)) rfl ?_
  refine Lx.y (neg rfl (by first | exact wrap64 (by omega) (by omega) | rfl)) rfl ?_
  refine Lx.y (Yx.val (bxor rfl rfl rfl) (congrArg (Value.int .i64) ((zig_xor _).trans (by rw [toNat_uint])))) rfl ?_
  refine Lx.y (asg rfl) rfl ?_
  refine Lx.nil ?_
  refine Xx.tn (k3 _ _ _ _ ?_)
  refine Cx.ret ?_
  exact Xx.ret1 rfl rfl ⟨rfl, rfl, rfl⟩ (Frag.le_refl _) rfl

set_option maxHeartbeats 1000000 in
theorem Count_ct (c : Cu) (b : Nat) (B : Frag) (most : Nat) (h : c.ok) (hm : most ≤ 4611686018427387904) : CtC Try.prog 90 [.pointer (some ⟨b, 0, none⟩), i64 (most : Nat)] B (crow b c) (i64 ((c.count most).2 : Nat)) (crow b ((c.count most).1)) := by
  have hmt := toNat_most hm
  have hnt := toNat_uint c
  refine Ct.of_body Try.func90 rfl (nt := 50) rfl (by kernel_rfl) rfl ?_
  intro N0 w0 R
  refine Cx.seq (fun K1 k1 => ?_)
  refine Cx.region ?_
  refine Lx.y (asg rfl) rfl ?_
  refine Lx.nil ?_
  refine Xx.tn (k1 _ _ _ _ ?_)
  refine Cx.seq (fun K2 k2 => ?_)
  refine Cx.seq (fun K3 k3 => ?_)
  refine Cx.region ?_
  refine Lx.y (mv rfl) rfl ?_
  refine Lx.y (Yx.ff (eqNilP Try.underlying89 rfl rfl) rfl) rfl ?_
  refine Lx.y (mv rfl) rfl ?_
  refine Lx.gT rfl rfl rfl ?_
  refine Lx.y (mv rfl) rfl ?_
  refine Lx.gT rfl rfl rfl ?_
  refine Lx.y (nilc rfl) rfl ?_
  refine Lx.gT rfl rfl rfl ?_
  refine Lx.y (fa' fo123_2 rfl) rfl ?_
  refine Lx.gT rfl rfl rfl ?_
  refine Lx.y (ld Try.underlying48 rfl rfl rfl) rfl ?_
  refine Lx.gT rfl rfl rfl ?_
  refine Lx.y (neI rfl rfl) rfl ?_
  refine Lx.y (pickF rfl rfl) rfl ?_
  refine Lx.nil ?_
  refine Xx.tn (k3 _ _ _ _ ?_)
  refine Cx.condN rfl (fun h4 => ?_) (fun h4 => ?_)
  · skip
    have hu : c.count most = (c, 0) := by unfold Cu.count; rw [if_pos h4]
    refine Cx.seq (fun K5 k5 => ?_)
    refine Cx.region ?_
    refine Lx.y (asg rfl) rfl ?_
    refine Lx.nil ?_
    refine Xx.tn (k5 _ _ _ _ ?_)
    refine Cx.ret ?_
    refine Xx.tr ?_
    exact Xx.ret1 rfl rfl ⟨cV hu rfl, rfl, rfl⟩ (Frag.le_refl _) (cR hu rfl)
  · skip
    have he : c.e = 0 := h4
    refine Cx.skip ?_
    refine Xx.tn (k2 _ _ _ _ ?_)
    refine Cx.seq (fun K6 k6 => ?_)
    refine Cx.region ?_
    refine Lx.y (mv rfl) rfl ?_
    refine Lx.y (nilc rfl) rfl ?_
    refine Lx.y (fa' fo123_1 rfl) rfl ?_
    refine Lx.y (ld Try.underlying3 rfl rfl rfl) rfl ?_
    refine Lx.y (asg rfl) rfl ?_
    refine Lx.nil ?_
    refine Xx.tn (k6 _ _ _ _ ?_)
    refine Cx.seq (fun K7 k7 => ?_)
    refine Cx.region ?_
    refine Lx.y (mv rfl) rfl ?_
    refine Lx.co rfl rfl rfl (Uint_ct c b B h) (PickB.eq) rfl ?_
    refine Lx.y (asg rfl) rfl ?_
    refine Lx.nil ?_
    refine Xx.tn (k7 _ _ _ _ ?_)
    refine Cx.cutK (ds' := []) (Sub.cons (s := 0) rfl (Sub.cons (s := 1) rfl (Sub.cons (s := 4) rfl (Sub.cons (s := 5) rfl (Sub.cons (s := 6) rfl (Sub.cons (s := 7) rfl (Sub.cons (s := 8) rfl (Sub.cons (s := 9) rfl (Sub.cons (s := 10) rfl (Sub.cons (s := 11) rfl (Sub.cons (s := 12) rfl (Sub.cons (s := 13) rfl (Sub.cons (s := 14) rfl (Sub.cons (s := 15) rfl (Sub.cons (s := 16) rfl (Sub.cons (s := 17) rfl (Sub.cons (s := 18) rfl (Sub.cons (s := 19) rfl (Sub.cons (s := 20) rfl (Sub.cons (s := 21) rfl (Sub.nil _))))))))))))))))))))) (fun ρ' B' H' => ρ' = [(6, u64 (BitVec.ofNat 64 c.uint.2))] ∧ B = B' ∧ crow b (c.cnt most) * R = H') ?_ ?_
    · skip
      refine Cx.seq (fun K8 k8 => ?_)
      refine Cx.region ?_
      refine Lx.y (mv rfl) rfl ?_
      refine Lx.y (nilc rfl) rfl ?_
      refine Lx.y (fa' fo123_2 rfl) rfl ?_
      refine Lx.y (ld Try.underlying48 rfl rfl rfl) rfl ?_
      refine Lx.y (eqI rfl rfl) rfl ?_
      refine Lx.y (mv rfl) rfl ?_
      refine Xx.ifD (t := 27) rfl (fun h9 => ?_) (fun h9 => ?_)
      · skip
        have he1 : c.uint.1.e = 0 := h9
        refine Lx.gT rfl rfl rfl ?_
        refine Lx.y (mv rfl) rfl ?_
        refine Lx.gT rfl rfl rfl ?_
        refine Lx.y (lss rfl rfl) rfl ?_
        refine Lx.gT rfl rfl rfl ?_
        refine Lx.y (mv rfl) rfl ?_
        refine Xx.ifD (t := 30) rfl (fun h10 => ?_) (fun h10 => ?_)
        · skip
          exact absurd h10 (by omega)
        · skip
          refine Lx.gT rfl rfl rfl ?_
          refine Lx.y (mv rfl) rfl ?_
          refine Lx.gT rfl rfl rfl ?_
          refine Lx.y (mv rfl) rfl ?_
          refine Lx.gT rfl rfl rfl ?_
          refine Lx.y (cvW64 rfl Try.underlying3 Try.underlying98) rfl ?_
          refine Lx.gT rfl rfl rfl ?_
          refine Lx.y (gtr rfl rfl) rfl ?_
          refine Lx.gT rfl rfl rfl ?_
          refine Lx.y (pickF rfl rfl) rfl ?_
          refine Lx.y (pickT rfl rfl) rfl ?_
          refine Lx.nil ?_
          refine Xx.tn (k8 _ _ _ _ ?_)
          refine Cx.condD rfl (fun h11 => ?_) (fun h11 => ?_)
          · skip
            have hlim := h11
            refine Cx.seq (fun K12 k12 => ?_)
            refine Cx.region ?_
            refine Lx.y (mv rfl) rfl ?_
            refine Lx.y (mv rfl) rfl ?_
            refine Lx.y (nilc rfl) rfl ?_
            refine Lx.y (fa' fo123_1 rfl) rfl ?_
            refine Lx.st (stO Try.underlying3 sz3 rfl rfl rfl (by simp) rfl) ?_
            refine Lx.nil ?_
            refine Xx.tn (k12 _ _ _ _ ?_)
            refine Cx.region ?_
            refine Lx.y (mv rfl) rfl ?_
            refine Lx.co rfl rfl rfl (CtC.of (post' := crow b ⟨c.s, c.at', 3⟩) (stop_ct ⟨c.uint.1.s, c.at', c.uint.1.e⟩ b _ 3) rfl (by rw [stop_eq (c := ⟨c.uint.1.s, c.at', c.uint.1.e⟩) he1, c.uint_s])) (PickB.eq) rfl ?_
            refine Lx.nil ?_
            exact Xx.mkK (⟨rfl, rfl, by unfold Cu.cnt; rw [if_pos ⟨he1, by omega⟩]⟩) (Sub.cons (s := 6) rfl (Sub.cons (s := 0) rfl (Sub.cons (s := 1) rfl (Sub.cons (s := 4) rfl (Sub.cons (s := 5) rfl (Sub.cons (s := 6) rfl (Sub.cons (s := 7) rfl (Sub.cons (s := 8) rfl (Sub.cons (s := 9) rfl (Sub.cons (s := 10) rfl (Sub.cons (s := 11) rfl (Sub.cons (s := 12) rfl (Sub.cons (s := 13) rfl (Sub.cons (s := 14) rfl (Sub.cons (s := 15) rfl (Sub.cons (s := 16) rfl (Sub.cons (s := 17) rfl (Sub.cons (s := 18) rfl (Sub.cons (s := 19) rfl (Sub.cons (s := 20) rfl (Sub.cons (s := 21) rfl (Sub.nil _))))))))))))))))))))))
          · skip
            have hlim := h11
            refine Cx.skip ?_
            exact Xx.mkK (⟨rfl, rfl, by unfold Cu.cnt; rw [if_neg (fun z => hlim (by omega))]⟩) (Sub.cons (s := 6) rfl (Sub.cons (s := 0) rfl (Sub.cons (s := 1) rfl (Sub.cons (s := 4) rfl (Sub.cons (s := 5) rfl (Sub.cons (s := 6) rfl (Sub.cons (s := 7) rfl (Sub.cons (s := 8) rfl (Sub.cons (s := 9) rfl (Sub.cons (s := 10) rfl (Sub.cons (s := 11) rfl (Sub.cons (s := 12) rfl (Sub.cons (s := 13) rfl (Sub.cons (s := 14) rfl (Sub.cons (s := 15) rfl (Sub.cons (s := 16) rfl (Sub.cons (s := 17) rfl (Sub.cons (s := 18) rfl (Sub.cons (s := 19) rfl (Sub.cons (s := 20) rfl (Sub.cons (s := 21) rfl (Sub.nil _))))))))))))))))))))))
      · skip
        have he1 : ¬ c.uint.1.e = 0 := h9
        refine Lx.gF rfl rfl rfl rfl ?_
        refine Lx.gF rfl rfl rfl rfl ?_
        refine Lx.gF rfl rfl rfl rfl ?_
        refine Lx.gU rfl rfl rfl rfl ?_
        refine Lx.gU rfl rfl rfl rfl ?_
        refine Lx.gU rfl rfl rfl rfl ?_
        refine Lx.gU rfl rfl rfl rfl ?_
        refine Lx.gF rfl rfl rfl rfl ?_
        refine Lx.y (pickF rfl rfl) rfl ?_
        refine Lx.nil ?_
        refine Xx.tn (k8 _ _ _ _ ?_)
        refine Cx.condF rfl ?_
        refine Cx.skip ?_
        exact Xx.mkK (⟨rfl, rfl, by unfold Cu.cnt; rw [if_neg (fun z => he1 z.1)]⟩) (Sub.cons (s := 6) rfl (Sub.cons (s := 0) rfl (Sub.cons (s := 1) rfl (Sub.cons (s := 4) rfl (Sub.cons (s := 5) rfl (Sub.cons (s := 6) rfl (Sub.cons (s := 7) rfl (Sub.cons (s := 8) rfl (Sub.cons (s := 9) rfl (Sub.cons (s := 10) rfl (Sub.cons (s := 11) rfl (Sub.cons (s := 12) rfl (Sub.cons (s := 13) rfl (Sub.cons (s := 14) rfl (Sub.cons (s := 15) rfl (Sub.cons (s := 16) rfl (Sub.cons (s := 17) rfl (Sub.cons (s := 18) rfl (Sub.cons (s := 19) rfl (Sub.cons (s := 20) rfl (Sub.cons (s := 21) rfl (Sub.nil _))))))))))))))))))))))
    · rintro ρ' B' H' ⟨rfl, rfl, rfl⟩
      refine Cx.seq (fun K13 k13 => ?_)
      refine Cx.seq (fun K14 k14 => ?_)
      refine Cx.region ?_
      refine Lx.y (mv rfl) rfl ?_
      refine Lx.y (nilc rfl) rfl ?_
      refine Lx.y (fa' fo123_2 rfl) rfl ?_
      refine Lx.y (ld Try.underlying48 rfl rfl rfl) rfl ?_
      refine Lx.y (neI rfl rfl) rfl ?_
      refine Lx.nil ?_
      refine Xx.tn (k14 _ _ _ _ ?_)
      refine Cx.condN rfl (fun h15 => ?_) (fun h15 => ?_)
      · skip
        have hu : c.count most = (c.cnt most, 0) := by unfold Cu.count; rw [if_neg (by simpa using he), if_pos h15]
        refine Cx.seq (fun K16 k16 => ?_)
        refine Cx.region ?_
        refine Lx.y (asg rfl) rfl ?_
        refine Lx.nil ?_
        refine Xx.tn (k16 _ _ _ _ ?_)
        refine Cx.ret ?_
        refine Xx.tr ?_
        exact Xx.ret1 rfl rfl ⟨cV hu rfl, rfl, rfl⟩ (Frag.le_refl _) (cR hu rfl)
      · skip
        have he3 : (c.cnt most).e = 0 := h15
        have hle := cnt_err he3
        have hu : c.count most = (c.cnt most, c.uint.2) := by unfold Cu.count; rw [if_neg (by simpa using he), if_neg (by simpa using he3)]
        refine Cx.skip ?_
        refine Xx.tn (k13 _ _ _ _ ?_)
        refine Cx.seq (fun K17 k17 => ?_)
        refine Cx.region ?_
        refine Lx.y (mv rfl) rfl ?_
        refine Lx.y (Yx.val (cvI rfl Try.underlying98 Try.underlying3 (by first | exact wrap64 (by omega) (by omega) | rfl)) (show i64 _ = i64 ((c.uint.2 : Nat) : Int) by rw [hnt])) rfl ?_
        refine Lx.y (asg rfl) rfl ?_
        refine Lx.nil ?_
        refine Xx.tn (k17 _ _ _ _ ?_)
        refine Cx.ret ?_
        exact Xx.ret1 rfl rfl ⟨cV hu rfl, rfl, rfl⟩ (Frag.le_refl _) (cR hu rfl)

set_option maxHeartbeats 1000000 in
theorem Bytes_ct (c : Cu) (b : Nat) (B : Frag) (k : Nat) (h : c.ok) (hk : k ≤ 4611686018427387904) : CtC Try.prog 85 [.pointer (some ⟨b, 0, none⟩), i64 (k : Nat)] B (crow b c) (str (c.bytes k).2) (crow b ((c.bytes k).1)) := by
  obtain ⟨hat, hsl⟩ := h
  refine Ct.of_body Try.func85 rfl (nt := 58) rfl (by kernel_rfl) rfl ?_
  intro N0 w0 R
  refine Cx.seq (fun K1 k1 => ?_)
  refine Cx.region ?_
  refine Lx.y (asg rfl) rfl ?_
  refine Lx.nil ?_
  refine Xx.tn (k1 _ _ _ _ ?_)
  refine Cx.seq (fun K2 k2 => ?_)
  refine Cx.block ?_
  refine Cx.seq (fun K3 k3 => ?_)
  refine Cx.region ?_
  refine Lx.y (mv rfl) rfl ?_
  refine Lx.y (Yx.ff (eqNilP Try.underlying89 rfl rfl) rfl) rfl ?_
  refine Lx.y (mv rfl) rfl ?_
  refine Lx.gT rfl rfl rfl ?_
  refine Lx.y (mv rfl) rfl ?_
  refine Lx.gT rfl rfl rfl ?_
  refine Lx.y (nilc rfl) rfl ?_
  refine Lx.gT rfl rfl rfl ?_
  refine Lx.y (fa' fo123_2 rfl) rfl ?_
  refine Lx.gT rfl rfl rfl ?_
  refine Lx.y (ld Try.underlying48 rfl rfl rfl) rfl ?_
  refine Lx.gT rfl rfl rfl ?_
  refine Lx.y (neI rfl rfl) rfl ?_
  refine Lx.y (pickF rfl rfl) rfl ?_
  refine Lx.y (asg rfl) rfl ?_
  refine Lx.nil ?_
  refine Xx.tn (k3 _ _ _ _ ?_)
  refine Cx.condN rfl (fun h4 => ?_) (fun h4 => ?_)
  · skip
    have hu := Cu.bytes_ne (k := k) h4
    refine Cx.seq (fun K5 k5 => ?_)
    refine Cx.region ?_
    refine Lx.y (asg rfl) rfl ?_
    refine Lx.nil ?_
    refine Xx.tn (k5 _ _ _ _ ?_)
    refine Cx.ret ?_
    refine Xx.br ?_
    refine Xx.tr ?_
    first | exact Xx.ret1 rfl rfl ⟨bV hu, rfl, rfl⟩ (Frag.le_refl _) (bR hu) | exact Xx.ret1 rfl rfl ⟨(congrArg str (dropTakeAdd _ _ _)).trans (bV hu), rfl, rfl⟩ (Frag.le_refl _) (bR hu)
  · skip
    have he : c.e = 0 := h4
    refine Cx.seq (fun K6 k6 => ?_)
    refine Cx.region ?_
    refine Lx.y (mv rfl) rfl ?_
    refine Lx.y (lss rfl rfl) rfl ?_
    refine Lx.y (asg rfl) rfl ?_
    refine Lx.nil ?_
    refine Xx.tn (k6 _ _ _ _ ?_)
    refine Cx.condD rfl (fun h7 => ?_) (fun h7 => ?_)
    · skip
      exact absurd h7 (by omega)
    · skip
      refine Cx.seq (fun K8 k8 => ?_)
      refine Cx.drawn (by kernel_rfl) ?_
      refine Dx.p (i := 0) rfl (by kernel_rfl) (mv rfl) rfl ?_
      refine Dx.p (i := 1) rfl (by kernel_rfl) (mv rfl) rfl ?_
      refine Dx.p (i := 2) rfl (by kernel_rfl) (nilc rfl) rfl ?_
      refine Dx.p (i := 3) rfl (by kernel_rfl) (fa' fo123_0 rfl) rfl ?_
      refine Dx.r (i := 4) rfl (by kernel_rfl) (ld Try.underlying9 rfl rfl rfl) rfl ?_
      refine Dx.p (i := 5) rfl (by kernel_rfl) (lenS Try.underlying9 rfl) rfl ?_
      refine Dx.p (i := 6) rfl (by kernel_rfl) (mv rfl) rfl ?_
      refine Dx.p (i := 7) rfl (by kernel_rfl) (nilc rfl) rfl ?_
      refine Dx.p (i := 8) rfl (by kernel_rfl) (fa' fo123_1 rfl) rfl ?_
      refine Dx.r (i := 9) rfl (by kernel_rfl) (ld Try.underlying3 rfl rfl rfl) rfl ?_
      refine Dx.p (i := 10) rfl (by kernel_rfl) (sub rfl rfl (by first | exact wrap64 (by omega) (by omega) | rfl)) rfl ?_
      refine Dx.p (i := 11) rfl (by kernel_rfl) (gtr rfl rfl) rfl ?_
      refine Dx.p (i := 12) rfl (by kernel_rfl) (asg rfl) rfl ?_
      refine Dx.done (by kernel_rfl) ?_
      refine Xx.tn (k8 _ _ _ _ ?_)
      refine Cx.condD rfl (fun h9 => ?_) (fun h9 => ?_)
      · skip
        have hu := Cu.bytes_short (k := k) he (by have := h9; omega)
        refine Cx.seq (fun K10 k10 => ?_)
        refine Cx.region ?_
        refine Lx.y (mv rfl) rfl ?_
        refine Lx.co rfl rfl rfl (CtC.of (post' := crow b ⟨c.s, c.at', 4⟩) (stop_ct c b _ 4) rfl (by rw [stop_eq he])) (PickB.eq) rfl ?_
        refine Lx.nil ?_
        refine Xx.tn (k10 _ _ _ _ ?_)
        refine Cx.seq (fun K11 k11 => ?_)
        refine Cx.region ?_
        refine Lx.y (asg rfl) rfl ?_
        refine Lx.nil ?_
        refine Xx.tn (k11 _ _ _ _ ?_)
        refine Cx.ret ?_
        refine Xx.br ?_
        refine Xx.tr ?_
        first | exact Xx.ret1 rfl rfl ⟨bV hu, rfl, rfl⟩ (Frag.le_refl _) (bR hu) | exact Xx.ret1 rfl rfl ⟨(congrArg str (dropTakeAdd _ _ _)).trans (bV hu), rfl, rfl⟩ (Frag.le_refl _) (bR hu)
      · skip
        have hle : k ≤ c.s.length - c.at' := by have := h9; omega
        have hu := Cu.bytes_eq he hle
        refine Cx.skip ?_
        refine Xx.bn ?_
        refine Xx.tn (k2 _ _ _ _ ?_)
        refine Cx.seq (fun K12 k12 => ?_)
        refine Cx.region ?_
        refine Lx.y (mv rfl) rfl ?_
        refine Lx.y (nilc rfl) rfl ?_
        refine Lx.y (fa' fo123_1 rfl) rfl ?_
        refine Lx.y (ld Try.underlying3 rfl rfl rfl) rfl ?_
        refine Lx.y (mv rfl) rfl ?_
        refine Lx.y (add rfl rfl (by first | exact wrap64 (by omega) (by omega) | rfl)) rfl ?_
        refine Lx.y (nilc rfl) rfl ?_
        refine Lx.y (fa' fo123_1 rfl) rfl ?_
        refine Lx.st (stO Try.underlying3 sz3 rfl rfl rfl (by simp) rfl) ?_
        refine Lx.nil ?_
        refine Xx.tn (k12 _ _ _ _ ?_)
        refine Cx.seq (fun K13 k13 => ?_)
        refine Cx.drawn (by kernel_rfl) ?_
        refine Dx.p (i := 0) rfl (by kernel_rfl) (mv rfl) rfl ?_
        refine Dx.p (i := 1) rfl (by kernel_rfl) (nilc rfl) rfl ?_
        refine Dx.p (i := 2) rfl (by kernel_rfl) (fa' fo123_0 rfl) rfl ?_
        refine Dx.r (i := 3) rfl (by kernel_rfl) (ld Try.underlying9 rfl rfl rfl) rfl ?_
        refine Dx.p (i := 4) rfl (by kernel_rfl) (mv rfl) rfl ?_
        refine Dx.p (i := 5) rfl (by kernel_rfl) (nilc rfl) rfl ?_
        refine Dx.p (i := 6) rfl (by kernel_rfl) (fa' fo123_1 rfl) rfl ?_
        refine Dx.r (i := 7) rfl (by kernel_rfl) (ld Try.underlying3 rfl rfl rfl) rfl ?_
        refine Dx.p (i := 8) rfl (by kernel_rfl) (mv rfl) rfl ?_
        refine Dx.p (i := 9) rfl (by kernel_rfl) (sub rfl rfl (show IntKind.i64.wrap _ = ((c.at' : Nat) : Int) by rw [wrap64 (by omega) (by omega)]; omega)) rfl ?_
        refine Dx.p (i := 10) rfl (by kernel_rfl) (mv rfl) rfl ?_
        refine Dx.p (i := 11) rfl (by kernel_rfl) (nilc rfl) rfl ?_
        refine Dx.p (i := 12) rfl (by kernel_rfl) (fa' fo123_1 rfl) rfl ?_
        refine Dx.r (i := 13) rfl (by kernel_rfl) (ld Try.underlying3 rfl rfl rfl) rfl ?_
        refine Dx.p (i := 14) rfl (by kernel_rfl) (sl3S Try.underlying9 rfl rfl rfl (by first | exact Int.toNat_natCast _ | rfl) (by first | exact Int.toNat_natCast _ | rfl) (by omega) (by omega) (by omega)) rfl ?_
        refine Dx.p (i := 15) rfl (by kernel_rfl) (asg rfl) rfl ?_
        refine Dx.done (by kernel_rfl) ?_
        refine Xx.tn (k13 _ _ _ _ ?_)
        refine Cx.ret ?_
        first | exact Xx.ret1 rfl rfl ⟨bV hu, rfl, rfl⟩ (Frag.le_refl _) (bR hu) | exact Xx.ret1 rfl rfl ⟨(congrArg str (dropTakeAdd _ _ _)).trans (bV hu), rfl, rfl⟩ (Frag.le_refl _) (bR hu)

set_option maxHeartbeats 1000000 in
theorem Text_ct (c : Cu) (b : Nat) (B : Frag) (most : Nat) (h : c.ok) (hm : most ≤ 1048576) : CtC Try.prog 89 [.pointer (some ⟨b, 0, none⟩), i64 (most : Nat)] B (crow b c) (str (c.text most).2) (crow b ((c.text most).1)) := by
  have hcl : (c.count most).2 ≤ 4611686018427387904 := by
    unfold Cu.count
    split
    · show 0 ≤ _; omega
    · show (if _ then _ else _) ≤ _
      split
      · omega
      · rename_i h3; have := cnt_err (by simpa using h3); omega
  refine Ct.of_body Try.func89 rfl (nt := 29) rfl (by kernel_rfl) rfl ?_
  intro N0 w0 R
  refine Cx.seq (fun K1 k1 => ?_)
  refine Cx.region ?_
  refine Lx.y (asg rfl) rfl ?_
  refine Lx.nil ?_
  refine Xx.tn (k1 _ _ _ _ ?_)
  refine Cx.seq (fun K2 k2 => ?_)
  refine Cx.seq (fun K3 k3 => ?_)
  refine Cx.region ?_
  refine Lx.y (mv rfl) rfl ?_
  refine Lx.y (Yx.ff (eqNilP Try.underlying89 rfl rfl) rfl) rfl ?_
  refine Lx.nil ?_
  refine Xx.tn (k3 _ _ _ _ ?_)
  refine Cx.condF rfl ?_
  refine Cx.skip ?_
  refine Xx.tn (k2 _ _ _ _ ?_)
  refine Cx.seq (fun K4 k4 => ?_)
  refine Cx.region ?_
  refine Lx.y (mv rfl) rfl ?_
  refine Lx.y (nilc rfl) rfl ?_
  refine Lx.y (fa' fo123_1 rfl) rfl ?_
  refine Lx.y (ld Try.underlying3 rfl rfl rfl) rfl ?_
  refine Lx.y (asg rfl) rfl ?_
  refine Lx.nil ?_
  refine Xx.tn (k4 _ _ _ _ ?_)
  refine Cx.seq (fun K5 k5 => ?_)
  refine Cx.region ?_
  refine Lx.y (mv rfl) rfl ?_
  refine Lx.y (mv rfl) rfl ?_
  refine Lx.y (mv rfl) rfl ?_
  refine Lx.y (Yx.val (minI rfl rfl) (show _ = i64 ((most : Nat) : Int) by rw [if_neg (by omega)])) rfl ?_
  refine Lx.co rfl rfl rfl (Count_ct c b B most h (by omega)) (PickB.eq) rfl ?_
  refine Lx.co rfl rfl rfl (Bytes_ct (c.count most).1 b B (c.count most).2 (Cu.count_ok h most) hcl) (PickB.eq) rfl ?_
  refine Lx.y (asg rfl) rfl ?_
  refine Lx.nil ?_
  refine Xx.tn (k5 _ _ _ _ ?_)
  refine Cx.seq (fun K6 k6 => ?_)
  refine Cx.seq (fun K7 k7 => ?_)
  refine Cx.region ?_
  refine Lx.y (mv rfl) rfl ?_
  refine Lx.y (nilc rfl) rfl ?_
  refine Lx.y (fa' fo123_2 rfl) rfl ?_
  refine Lx.y (ld Try.underlying48 rfl rfl rfl) rfl ?_
  refine Lx.y (neI rfl rfl) rfl ?_
  refine Lx.nil ?_
  refine Xx.tn (k7 _ _ _ _ ?_)
  refine Cx.condN rfl (fun h8 => ?_) (fun h8 => ?_)
  · skip
    have hu : c.text most = (⟨c.s, c.at', ((c.count most).1.bytes (c.count most).2).1.e⟩, ((c.count most).1.bytes (c.count most).2).2) := by unfold Cu.text; rw [if_pos h8]
    refine Cx.region ?_
    refine Lx.y (mv rfl) rfl ?_
    refine Lx.y (mv rfl) rfl ?_
    refine Lx.y (nilc rfl) rfl ?_
    refine Lx.y (fa' fo123_1 rfl) rfl ?_
    refine Lx.st (stO Try.underlying3 sz3 rfl rfl rfl (by simp) rfl) ?_
    refine Lx.nil ?_
    refine Xx.tn (k6 _ _ _ _ ?_)
    refine Cx.seq (fun K9 k9 => ?_)
    refine Cx.region ?_
    refine Lx.y (mv rfl) rfl ?_
    refine Lx.y (asg rfl) rfl ?_
    refine Lx.nil ?_
    refine Xx.tn (k9 _ _ _ _ ?_)
    refine Cx.ret ?_
    first | exact Xx.ret1 rfl rfl ⟨tV hu rfl, rfl, rfl⟩ (Frag.le_refl _) (tR hu rfl) | exact Xx.ret1 rfl rfl ⟨tV hu rfl, rfl, rfl⟩ (Frag.le_refl _) ((congrArg (fun z : List UInt8 => row b 123 [str z, i64 (c.at' : Nat), i64 _] * R) (((c.count most).1.bytes_s _).trans (c.count_s _))).trans (tR hu rfl))
  · skip
    have hu : c.text most = (((c.count most).1.bytes (c.count most).2).1, ((c.count most).1.bytes (c.count most).2).2) := by unfold Cu.text; rw [if_neg (by have := h8; simpa using this)]
    refine Cx.skip ?_
    refine Xx.tn (k6 _ _ _ _ ?_)
    refine Cx.seq (fun K10 k10 => ?_)
    refine Cx.region ?_
    refine Lx.y (mv rfl) rfl ?_
    refine Lx.y (asg rfl) rfl ?_
    refine Lx.nil ?_
    refine Xx.tn (k10 _ _ _ _ ?_)
    refine Cx.ret ?_
    first | exact Xx.ret1 rfl rfl ⟨tV hu rfl, rfl, rfl⟩ (Frag.le_refl _) (tR hu rfl) | exact Xx.ret1 rfl rfl ⟨tV hu rfl, rfl, rfl⟩ (Frag.le_refl _) ((congrArg (fun z : List UInt8 => row b 123 [str z, i64 (c.at' : Nat), i64 _] * R) (((c.count most).1.bytes_s _).trans (c.count_s _))).trans (tR hu rfl))

set_option maxHeartbeats 1000000 in
theorem Bool_ct2 (c : Cu) (b : Nat) (B : Frag) (h : c.ok) : CtC Try.prog 87 [.pointer (some ⟨b, 0, none⟩)] B (crow b c) (.bool c.bool.2) (crow b (c.bool.1)) := by
  refine Ct.of_body Try.func87 rfl (nt := 39) rfl (by kernel_rfl) rfl ?_
  intro N0 w0 R
  refine Cx.seq (fun K1 k1 => ?_)
  refine Cx.region ?_
  refine Lx.y (asg rfl) rfl ?_
  refine Lx.nil ?_
  refine Xx.tn (k1 _ _ _ _ ?_)
  refine Cx.seq (fun K2 k2 => ?_)
  refine Cx.seq (fun K3 k3 => ?_)
  refine Cx.region ?_
  refine Lx.y (mv rfl) rfl ?_
  refine Lx.y (Yx.ff (eqNilP Try.underlying89 rfl rfl) rfl) rfl ?_
  refine Lx.nil ?_
  refine Xx.tn (k3 _ _ _ _ ?_)
  refine Cx.condF rfl ?_
  refine Cx.skip ?_
  refine Xx.tn (k2 _ _ _ _ ?_)
  refine Cx.seq (fun K4 k4 => ?_)
  refine Cx.region ?_
  refine Lx.y (mv rfl) rfl ?_
  refine Lx.y (nilc rfl) rfl ?_
  refine Lx.y (fa' fo123_1 rfl) rfl ?_
  refine Lx.y (ld Try.underlying3 rfl rfl rfl) rfl ?_
  refine Lx.y (asg rfl) rfl ?_
  refine Lx.nil ?_
  refine Xx.tn (k4 _ _ _ _ ?_)
  refine Cx.seq (fun K5 k5 => ?_)
  refine Cx.region ?_
  refine Lx.y (mv rfl) rfl ?_
  refine Lx.co rfl rfl rfl (Bytes_ct c b B 1 h (by decide)) (PickB.eq) rfl ?_
  refine Lx.y (asg rfl) rfl ?_
  refine Lx.nil ?_
  refine Xx.tn (k5 _ _ _ _ ?_)
  refine Cx.cutK (ds' := []) (Sub.cons (s := 0) rfl (Sub.cons (s := 2) rfl (Sub.cons (s := 3) rfl (Sub.cons (s := 4) rfl (Sub.cons (s := 5) rfl (Sub.cons (s := 6) rfl (Sub.cons (s := 7) rfl (Sub.cons (s := 8) rfl (Sub.cons (s := 9) rfl (Sub.cons (s := 10) rfl (Sub.cons (s := 11) rfl (Sub.cons (s := 12) rfl (Sub.nil _))))))))))))) (fun ρ' B' H' => ρ' = [(4, str (c.bytes 1).2)] ∧ B = B' ∧ crow b c.bool.1 * R = H') ?_ ?_
  · skip
    refine Cx.seq (fun K6 k6 => ?_)
    refine Cx.region ?_
    refine Lx.y (mv rfl) rfl ?_
    refine Lx.y (nilc rfl) rfl ?_
    refine Lx.y (fa' fo123_2 rfl) rfl ?_
    refine Lx.y (ld Try.underlying48 rfl rfl rfl) rfl ?_
    refine Lx.y (eqI rfl rfl) rfl ?_
    refine Lx.y (mv rfl) rfl ?_
    refine Xx.ifD (t := 18) rfl (fun h7 => ?_) (fun h7 => ?_)
    · skip
      have he1 : (c.bytes 1).1.e = 0 := h7
      have hl1 := Cu.bytes_len he1
      refine Lx.gT rfl rfl rfl ?_
      refine Lx.y (mv rfl) rfl ?_
      refine Lx.gT rfl rfl rfl ?_
      refine Lx.y (ixS Try.underlying9 rfl rfl (show Int.toNat _ = 0 from rfl) (by omega) (by omega)) rfl ?_
      refine Lx.gT rfl rfl rfl ?_
      refine Lx.y (gtr rfl rfl) rfl ?_
      refine Lx.y (pickT rfl rfl) rfl ?_
      refine Lx.nil ?_
      refine Xx.tn (k6 _ _ _ _ ?_)
      refine Cx.condD rfl (fun h8 => ?_) (fun h8 => ?_)
      · skip
        have hbig := h8
        refine Cx.seq (fun K9 k9 => ?_)
        refine Cx.region ?_
        refine Lx.y (mv rfl) rfl ?_
        refine Lx.y (mv rfl) rfl ?_
        refine Lx.y (nilc rfl) rfl ?_
        refine Lx.y (fa' fo123_1 rfl) rfl ?_
        refine Lx.st (stO Try.underlying3 sz3 rfl rfl rfl (by simp) rfl) ?_
        refine Lx.nil ?_
        refine Xx.tn (k9 _ _ _ _ ?_)
        refine Cx.region ?_
        refine Lx.y (mv rfl) rfl ?_
        refine Lx.co rfl rfl rfl (CtC.of (post' := crow b ⟨c.s, c.at', 6⟩) (stop_ct ⟨(c.bytes 1).1.s, c.at', (c.bytes 1).1.e⟩ b _ 6) rfl (by rw [stop_eq (c := ⟨(c.bytes 1).1.s, c.at', (c.bytes 1).1.e⟩) he1, c.bytes_s])) (PickB.eq) rfl ?_
        refine Lx.nil ?_
        exact Xx.mkK (⟨rfl, rfl, by unfold Cu.bool; rw [if_pos ⟨he1, by omega⟩]⟩) (Sub.cons (s := 4) rfl (Sub.cons (s := 0) rfl (Sub.cons (s := 2) rfl (Sub.cons (s := 3) rfl (Sub.cons (s := 4) rfl (Sub.cons (s := 5) rfl (Sub.cons (s := 6) rfl (Sub.cons (s := 7) rfl (Sub.cons (s := 8) rfl (Sub.cons (s := 9) rfl (Sub.cons (s := 10) rfl (Sub.cons (s := 11) rfl (Sub.cons (s := 12) rfl (Sub.nil _))))))))))))))
      · skip
        have hbig := h8
        refine Cx.skip ?_
        exact Xx.mkK (⟨rfl, rfl, by unfold Cu.bool; rw [if_neg (fun z => hbig (by omega))]⟩) (Sub.cons (s := 4) rfl (Sub.cons (s := 0) rfl (Sub.cons (s := 2) rfl (Sub.cons (s := 3) rfl (Sub.cons (s := 4) rfl (Sub.cons (s := 5) rfl (Sub.cons (s := 6) rfl (Sub.cons (s := 7) rfl (Sub.cons (s := 8) rfl (Sub.cons (s := 9) rfl (Sub.cons (s := 10) rfl (Sub.cons (s := 11) rfl (Sub.cons (s := 12) rfl (Sub.nil _))))))))))))))
    · skip
      have he1 : ¬ (c.bytes 1).1.e = 0 := h7
      refine Lx.gF rfl rfl rfl rfl ?_
      refine Lx.gF rfl rfl rfl rfl ?_
      refine Lx.gF rfl rfl rfl rfl ?_
      refine Lx.y (pickF rfl rfl) rfl ?_
      refine Lx.nil ?_
      refine Xx.tn (k6 _ _ _ _ ?_)
      refine Cx.condF rfl ?_
      refine Cx.skip ?_
      exact Xx.mkK (⟨rfl, rfl, by unfold Cu.bool; rw [if_neg (fun z => he1 z.1)]⟩) (Sub.cons (s := 4) rfl (Sub.cons (s := 0) rfl (Sub.cons (s := 2) rfl (Sub.cons (s := 3) rfl (Sub.cons (s := 4) rfl (Sub.cons (s := 5) rfl (Sub.cons (s := 6) rfl (Sub.cons (s := 7) rfl (Sub.cons (s := 8) rfl (Sub.cons (s := 9) rfl (Sub.cons (s := 10) rfl (Sub.cons (s := 11) rfl (Sub.cons (s := 12) rfl (Sub.nil _))))))))))))))
  · rintro ρ' B' H' ⟨rfl, rfl, rfl⟩
    refine Cx.seq (fun K10 k10 => ?_)
    refine Cx.region ?_
    refine Lx.y (mv rfl) rfl ?_
    refine Lx.y (nilc rfl) rfl ?_
    refine Lx.y (fa' fo123_2 rfl) rfl ?_
    refine Lx.y (ld Try.underlying48 rfl rfl rfl) rfl ?_
    refine Lx.y (eqI rfl rfl) rfl ?_
    refine Lx.y (mv rfl) rfl ?_
    refine Xx.ifD (t := 34) rfl (fun h11 => ?_) (fun h11 => ?_)
    · skip
      have he4 : c.bool.1.e = 0 := h11
      have he5 : (c.bytes 1).1.e = 0 := by unfold Cu.bool at he4; split at he4; cases he4; exact he4
      have hl5 := Cu.bytes_len he5
      refine Lx.gT rfl rfl rfl ?_
      refine Lx.y (mv rfl) rfl ?_
      refine Lx.gT rfl rfl rfl ?_
      refine Lx.y (ixS Try.underlying9 rfl rfl (show Int.toNat _ = 0 from rfl) (by omega) (by omega)) rfl ?_
      refine Lx.gT rfl rfl rfl ?_
      refine Lx.y (eqI rfl rfl) rfl ?_
      refine Lx.y (pickT rfl rfl) rfl ?_
      refine Lx.y (asg rfl) rfl ?_
      refine Lx.nil ?_
      refine Xx.tn (k10 _ _ _ _ ?_)
      refine Cx.ret ?_
      first | exact Xx.ret1 rfl rfl ⟨boolB (decide_eq_decide.2 ⟨fun z => ⟨he5, by omega⟩, fun z => by omega⟩), rfl, rfl⟩ (Frag.le_refl _) rfl | exact Xx.ret1 rfl rfl ⟨boolB (decide_eq_false he6).symm, rfl, rfl⟩ (Frag.le_refl _) rfl
    · skip
      have he4 : ¬ c.bool.1.e = 0 := h11
      have he6 : ¬ ((c.bytes 1).1.e = 0 ∧ ((c.bytes 1).2.getD 0 0).toNat = 1) := fun z => he4 (by unfold Cu.bool; rw [if_neg (by omega)]; exact z.1)
      refine Lx.gF rfl rfl rfl rfl ?_
      refine Lx.gF rfl rfl rfl rfl ?_
      refine Lx.gF rfl rfl rfl rfl ?_
      refine Lx.y (pickF rfl rfl) rfl ?_
      refine Lx.y (asg rfl) rfl ?_
      refine Lx.nil ?_
      refine Xx.tn (k10 _ _ _ _ ?_)
      refine Cx.ret ?_
      first | exact Xx.ret1 rfl rfl ⟨boolB (decide_eq_decide.2 ⟨fun z => ⟨he5, by omega⟩, fun z => by omega⟩), rfl, rfl⟩ (Frag.le_refl _) rfl | exact Xx.ret1 rfl rfl ⟨boolB (decide_eq_false he6).symm, rfl, rfl⟩ (Frag.le_refl _) rfl

set_option maxHeartbeats 1000000 in
theorem End_ct (c : Cu) (b : Nat) (B : Frag) (h : c.ok) : CtC Try.prog 52 [.pointer (some ⟨b, 0, none⟩)] B (crow b c) (i64 c.fin.e) (crow b (c.fin)) := by
  obtain ⟨hat, hsl⟩ := h
  refine Ct.of_body Try.func52 rfl (nt := 21) rfl (by kernel_rfl) rfl ?_
  intro N0 w0 R
  refine Cx.seq (fun K1 k1 => ?_)
  refine Cx.region ?_
  refine Lx.y (asg rfl) rfl ?_
  refine Lx.nil ?_
  refine Xx.tn (k1 _ _ _ _ ?_)
  refine Cx.seq (fun K2 k2 => ?_)
  refine Cx.seq (fun K3 k3 => ?_)
  refine Cx.region ?_
  refine Lx.y (mv rfl) rfl ?_
  refine Lx.y (Yx.ff (eqNilP Try.underlying89 rfl rfl) rfl) rfl ?_
  refine Lx.nil ?_
  refine Xx.tn (k3 _ _ _ _ ?_)
  refine Cx.condF rfl ?_
  refine Cx.skip ?_
  refine Xx.tn (k2 _ _ _ _ ?_)
  refine Cx.cutK (ds' := []) (Sub.cons (s := 0) rfl (Sub.cons (s := 2) rfl (Sub.cons (s := 3) rfl (Sub.cons (s := 4) rfl (Sub.nil _))))) (fun ρ' B' H' => ρ' = [] ∧ B = B' ∧ crow b c.fin * R = H') ?_ ?_
  · skip
    refine Cx.seq (fun K4 k4 => ?_)
    refine Cx.drawn (by kernel_rfl) ?_
    refine Dx.p (i := 0) rfl (by kernel_rfl) (mv rfl) rfl ?_
    refine Dx.p (i := 1) rfl (by kernel_rfl) (nilc rfl) rfl ?_
    refine Dx.p (i := 2) rfl (by kernel_rfl) (fa' fo123_1 rfl) rfl ?_
    refine Dx.r (i := 3) rfl (by kernel_rfl) (ld Try.underlying3 rfl rfl rfl) rfl ?_
    refine Dx.p (i := 4) rfl (by kernel_rfl) (mv rfl) rfl ?_
    refine Dx.p (i := 5) rfl (by kernel_rfl) (nilc rfl) rfl ?_
    refine Dx.p (i := 6) rfl (by kernel_rfl) (fa' fo123_0 rfl) rfl ?_
    refine Dx.r (i := 7) rfl (by kernel_rfl) (ld Try.underlying9 rfl rfl rfl) rfl ?_
    refine Dx.p (i := 8) rfl (by kernel_rfl) (lenS Try.underlying9 rfl) rfl ?_
    refine Dx.p (i := 9) rfl (by kernel_rfl) (lss rfl rfl) rfl ?_
    refine Dx.done (by kernel_rfl) ?_
    refine Xx.tn (k4 _ _ _ _ ?_)
    refine Cx.condD rfl (fun h5 => ?_) (fun h5 => ?_)
    · skip
      have hlt := h5
      refine Cx.region ?_
      refine Lx.y (mv rfl) rfl ?_
      refine Lx.co rfl rfl rfl (stop_ct c b B 5) (PickB.eq) rfl ?_
      refine Lx.nil ?_
      exact Xx.mkK (⟨rfl, rfl, by unfold Cu.fin; rw [if_pos (by omega)]⟩) (Sub.cons (s := 0) rfl (Sub.cons (s := 2) rfl (Sub.cons (s := 3) rfl (Sub.cons (s := 4) rfl (Sub.nil _)))))
    · skip
      have hlt := h5
      refine Cx.skip ?_
      exact Xx.mkK (⟨rfl, rfl, by unfold Cu.fin; rw [if_neg (by omega)]⟩) (Sub.cons (s := 0) rfl (Sub.cons (s := 2) rfl (Sub.cons (s := 3) rfl (Sub.cons (s := 4) rfl (Sub.nil _)))))
  · rintro ρ' B' H' ⟨rfl, rfl, rfl⟩
    refine Cx.seq (fun K6 k6 => ?_)
    refine Cx.region ?_
    refine Lx.y (mv rfl) rfl ?_
    refine Lx.y (nilc rfl) rfl ?_
    refine Lx.y (fa' fo123_2 rfl) rfl ?_
    refine Lx.y (ld Try.underlying48 rfl rfl rfl) rfl ?_
    refine Lx.y (asg rfl) rfl ?_
    refine Lx.nil ?_
    refine Xx.tn (k6 _ _ _ _ ?_)
    refine Cx.ret ?_
    exact Xx.ret1 rfl rfl ⟨rfl, rfl, rfl⟩ (Frag.le_refl _) rfl

set_option maxHeartbeats 1000000 in
theorem At_ct (s : List UInt8) (B : Frag) : Ct Try.prog 50 [str s] B 1 (fun v B' H' => ∃ b, v = .pointer (some ⟨b, 0, none⟩) ∧ B' = B ∧ H' = crow b ⟨s, 0, 0⟩) := by
  refine Ct.of_body Try.func50 rfl (nt := 6) rfl (by kernel_rfl) rfl ?_
  intro N0 w0 R
  rw [one_star]
  refine Cx.seq (fun K1 k1 => ?_)
  refine Cx.region ?_
  refine Lx.y (asg rfl) rfl ?_
  refine Lx.nil ?_
  refine Xx.tn (k1 _ _ _ _ ?_)
  refine Cx.seq (fun K2 k2 => ?_)
  refine Cx.region ?_
  refine Lx.y (mv rfl) rfl ?_
  refine Lx.y (bld ti123 pl123 rfl rfl) rfl ?_
  refine Lx.new (boxA rfl) rfl (fun b5 => ?_)
  refine Lx.y (asg rfl) rfl ?_
  refine Lx.nil ?_
  refine Xx.tn (k2 _ _ _ _ ?_)
  refine Cx.ret ?_
  exact Xx.ret1 rfl rfl ⟨b5, rfl, rfl, rfl⟩ (Frag.le_refl _) rfl
end VaB
end Go.Proofs.Ytcoiejmlpinpbaa
