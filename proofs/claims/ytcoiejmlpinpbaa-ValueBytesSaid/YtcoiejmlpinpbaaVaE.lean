/-
  The reference cursor.
-/
import Derived.Test.YtcoiejmlpinpbaaProg
import Derived.Test.YtcoiejmlpinpbaaSlj
import Derived.Test.YtcoiejmlpinpbaaVaD
namespace Go.Proofs.Ytcoiejmlpinpbaa
open Go.SL Go.RowKit
set_option linter.unusedVariables false
set_option linter.unusedSimpArgs false
set_option maxRecDepth 100000
open Ke5 Ke6 Ke7 Ke8 Ke9 KeA KeB KeE KeF KeG KeH VaA VaB VaC VaD
namespace VaE
theorem sz100 : (Try.prog.info? 100).map (·.size) = some 3 := by kernel_rfl
theorem ti100 : TI Try.prog 100 [str [], .int .i64 0, .int .i64 0] 3 32 := TI.of (by kernel_rfl) rfl rfl
theorem fo100_0 : FO Try.prog 100 0 0 1 false := FO.of Try.underlying100 rfl rfl (by kernel_rfl) Try.underlying9 rfl rfl
theorem fo100_1 : FO Try.prog 100 1 1 1 false := FO.of Try.underlying100 rfl rfl (by kernel_rfl) Try.underlying3 rfl rfl
theorem fo100_2 : FO Try.prog 100 2 2 1 false := FO.of Try.underlying100 rfl rfl (by kernel_rfl) Try.underlying3 rfl rfl
theorem pl100 : PL Try.prog 100 [(0, 1), (1, 1), (2, 1)] := PL.of Try.underlying100 (by kernel_rfl)

abbrev cvs (c : Cu) : List Value := [str c.s, i64 (c.at' : Nat), i64 c.e]
abbrev tup2 (c : Cu) (v : Value) : Value := .tuple #[.agg (cvs c).toArray, v]
theorem tU {c : Cu} {p : Cu × Nat} {d : Cu} {v : Value} (hu : c.uint = p) (h1 : p.1 = d) (h2 : v = u64 (BitVec.ofNat 64 p.2)) : tup2 d v = tup2 c.uint.1 (u64 (BitVec.ofNat 64 c.uint.2)) := by rw [hu, h1, h2]
theorem tB {c : Cu} {k : Nat} {p : Cu × List UInt8} {d : Cu} {v : Value} (hu : c.bytes k = p) (h1 : p.1 = d) (h2 : v = str p.2) : tup2 d v = tup2 (c.bytes k).1 (str (c.bytes k).2) := by rw [hu, h1, h2]
theorem tT {c : Cu} {k : Nat} {p : Cu × List UInt8} {d : Cu} {v : Value} (hu : c.text k = p) (h1 : p.1 = d) (h2 : v = str p.2) : tup2 d v = tup2 (c.text k).1 (str (c.text k).2) := by rw [hu, h1, h2]
theorem tC {c : Cu} {k : Nat} {p : Cu × Nat} {d : Cu} {v : Value} (hu : c.count k = p) (h1 : p.1 = d) (h2 : v = i64 (p.2 : Nat)) : tup2 d v = tup2 (c.count k).1 (i64 ((c.count k).2 : Nat)) := by rw [hu, h1, h2]
theorem tBo {c : Cu} {p : Cu × Bool} {d : Cu} {v : Value} (hu : c.bool = p) (h1 : p.1 = d) (h2 : v = .bool p.2) : tup2 d v = tup2 c.bool.1 (.bool c.bool.2) := by rw [hu, h1, h2]
theorem count_lim {c : Cu} {m : Nat} (h : c.uint.1.e = 0 ∧ m < c.uint.2) : c.count m = (⟨c.s, c.at', 3⟩, 0) := by
  have he : c.e = 0 := Classical.byContradiction fun z => by rw [Cu.uint_ne z] at h; have := h.2; simp at this
  have hc : c.cnt m = ⟨c.s, c.at', 3⟩ := by unfold Cu.cnt; rw [if_pos h]
  unfold Cu.count
  rw [if_neg (by simpa using he), hc, if_pos (by show (3 : Int) ≠ 0; decide)]
theorem count_else {c : Cu} {m : Nat} (h : ¬ (c.uint.1.e = 0 ∧ m < c.uint.2)) : c.count m = c.uint := by
  by_cases he : c.e = 0
  · have hc : c.cnt m = c.uint.1 := by unfold Cu.cnt; rw [if_neg h]
    unfold Cu.count
    rw [if_neg (by simpa using he), hc]
    by_cases h1 : c.uint.1.e = 0
    · rw [if_neg (by simpa using h1)]
    · rw [if_pos h1, ← c.uint_err h1]
  · unfold Cu.count; rw [if_pos he, Cu.uint_ne he]
theorem Cu.bytes_err {c : Cu} {k : Nat} (h : ¬ (c.bytes k).1.e = 0) : (c.bytes k).2 = [] := by
  by_cases he : c.e = 0
  · by_cases hk : c.s.length - c.at' < k
    · rw [Cu.bytes_short he hk]
    · rw [Cu.bytes_eq he (by omega)] at h; exact absurd he h
  · rw [Cu.bytes_ne he]
theorem text_err {c : Cu} {m : Nat} (h : ¬ ((c.count m).1.bytes (c.count m).2).1.e = 0) : c.text m = (⟨c.s, c.at', ((c.count m).1.bytes (c.count m).2).1.e⟩, []) := by
  unfold Cu.text; rw [if_pos h, Cu.bytes_err h]
theorem text_same {c : Cu} {m : Nat} (h : ¬ (¬ ((c.count m).1.bytes (c.count m).2).1.e = 0 ∧ c.e = 0)) : c.text m = (c.count m).1.bytes (c.count m).2 := by
  by_cases h1 : ((c.count m).1.bytes (c.count m).2).1.e = 0
  · unfold Cu.text; rw [if_neg (by simpa using h1)]
  · have he : ¬ c.e = 0 := fun z => h ⟨h1, z⟩
    have hc : c.count m = (c, 0) := by unfold Cu.count; rw [if_pos he]
    rw [text_err h1, hc]
    show _ = c.bytes 0
    rw [Cu.bytes_ne he]
theorem bool_big {c : Cu} (h : (c.bytes 1).1.e = 0 ∧ 1 < ((c.bytes 1).2.getD 0 0).toNat) : c.bool = (⟨c.s, c.at', 6⟩, false) := by
  unfold Cu.bool; rw [if_pos h, decide_eq_false (by omega)]
theorem bool_else {c : Cu} (h : ¬ ((c.bytes 1).1.e = 0 ∧ 1 < ((c.bytes 1).2.getD 0 0).toNat)) : c.bool = ((c.bytes 1).1, decide ((c.bytes 1).2 = [1])) := by
  unfold Cu.bool
  rw [if_neg h]
  congr 1
  refine decide_eq_decide.2 ?_
  by_cases he : (c.bytes 1).1.e = 0
  · have hl := Cu.bytes_len he
    match hm : (c.bytes 1).2, hl with
    | [x], _ =>
      simp [he]
      exact ⟨fun z => UInt8.toNat_inj.1 z, fun z => by rw [z]; rfl⟩
  · have := Cu.bytes_err he
    rw [this]
    simp [he]
theorem acc_add {acc wt y : BitVec 64} {i x : Nat} (hw : wt.toNat = 128 ^ i) (hy : y.toNat = x) (h2 : acc.toNat + 128 ^ i * (x % 128) < 18446744073709551616) : (acc + y % 128#64 * wt).toNat = acc.toNat + 128 ^ i * (x % 128) := by
  have e : (128#64).toNat = 128 := rfl
  have hp : 128 ^ i * (x % 128) = x % 128 * 128 ^ i := Nat.mul_comm _ _
  rw [BitVec.toNat_add, BitVec.toNat_mul, BitVec.toNat_umod, hw, hy, e, hp]
  rw [hp] at h2
  omega
theorem wt_step {wt : BitVec 64} {i : Nat} (h : wt.toNat = 128 ^ i) (hi : i ≤ 8) : (wt * 128#64).toNat = 128 ^ (i + 1) := by
  have h1 : (128 : Nat) ^ i ≤ 128 ^ 8 := Nat.pow_le_pow_right (by decide) hi
  have e8 : (128 : Nat) ^ 8 = 72057594037927936 := by decide
  have e9 : (128#64).toNat = 128 := rfl
  rw [BitVec.toNat_mul, h, Nat.pow_succ, e9]
  omega
theorem zero_iff {y : BitVec 64} {x : Nat} (h : y.toNat = x) : y = 0#64 ↔ x = 0 := by
  constructor
  · intro z; subst z; exact h.symm
  · intro z; apply BitVec.eq_of_toNat_eq; rw [h, z]; rfl
theorem zig_hi {m : Nat} (hm : m < 18446744073709551616) : (BitVec.ofNat 64 m % 2#64).toNat = m % 2 ∧ (BitVec.ofNat 64 m / 2#64).toNat = m / 2 := by
  have e : (BitVec.ofNat 64 m).toNat = m := by rw [BitVec.toNat_ofNat, Nat.mod_eq_of_lt hm]
  have e2 : (2#64).toNat = 2 := rfl
  constructor
  · rw [BitVec.toNat_umod, e, e2]
  · rw [BitVec.toNat_udiv, e, e2]

set_option maxHeartbeats 1000000 in
theorem with_ct (c : Cu) (x : Int) (B : Frag) : CtP Try.prog 97 [.agg (cvs c).toArray, i64 x] B (.agg (cvs ⟨c.s, c.at', x⟩).toArray) := by
  refine CtB.of_body Try.func97 rfl (nt := 11) rfl (by kernel_rfl) rfl ?_
  intro N0 w0 R
  refine Cx.seq (fun K1 k1 => ?_)
  refine Cx.region ?_
  refine Lx.new (boxA rfl) rfl (fun b1 => ?_)
  refine Lx.new (allocO ti100) rfl (fun b3 => ?_)
  refine Lx.nil ?_
  refine Xx.tn (k1 _ _ _ _ ?_)
  refine Cx.seq (fun K2 k2 => ?_)
  refine Cx.region ?_
  refine Lx.y (fa' fo100_0 rfl) rfl ?_
  refine Lx.y (ld Try.underlying9 rfl rfl rfl) rfl ?_
  refine Lx.y (fa' fo100_1 rfl) rfl ?_
  refine Lx.y (ld Try.underlying3 rfl rfl rfl) rfl ?_
  refine Lx.y (mv rfl) rfl ?_
  refine Lx.y (bld ti100 pl100 rfl rfl) rfl ?_
  refine Lx.st (stA (d := .bool) sz100 rfl rfl rfl rfl (by show 0 + 3 ≤ 3; omega) rfl) ?_
  refine Lx.nil ?_
  refine Xx.tn (k2 _ _ _ _ ?_)
  refine Cx.ret ?_
  exact Xx.dropB b1 (Xx.rBa rfl Try.underlying100 rfl sz100 rfl rfl ⟨rfl, rfl⟩ (Frag.le_refl _))

set_option maxHeartbeats 1000000 in
theorem RcUint_ct (c : Cu) (B : Frag) (h : c.ok) : CtP Try.prog 113 [.agg (cvs c).toArray] B (.tuple #[.agg (cvs c.uint.1).toArray, u64 (BitVec.ofNat 64 c.uint.2)]) := by
  obtain ⟨hat, hsl⟩ := h
  refine CtB.of_body Try.func113 rfl (nt := 71) rfl (by kernel_rfl) rfl ?_
  intro N0 w0 R
  refine Cx.seq (fun K1 k1 => ?_)
  refine Cx.region ?_
  refine Lx.new (boxA rfl) rfl (fun b1 => ?_)
  refine Lx.new (allocO ti100) rfl (fun b2 => ?_)
  refine Lx.y (asg rfl) rfl ?_
  refine Lx.nil ?_
  refine Xx.tn (k1 _ _ _ _ ?_)
  refine Cx.seq (fun K2 k2 => ?_)
  refine Cx.seq (fun K3 k3 => ?_)
  refine Cx.region ?_
  refine Lx.y (fa' fo100_2 rfl) rfl ?_
  refine Lx.y (ld Try.underlying3 rfl rfl rfl) rfl ?_
  refine Lx.y (neI rfl rfl) rfl ?_
  refine Lx.nil ?_
  refine Xx.tn (k3 _ _ _ _ ?_)
  refine Cx.condN rfl (fun h4 => ?_) (fun h4 => ?_)
  · skip
    have hu := Cu.uint_ne h4
    refine Cx.seq (fun K5 k5 => ?_)
    refine Cx.region ?_
    refine Lx.y (ldA Try.underlying100 rfl sz100 rfl (Cells.own (n := 3) PickB.eq rfl) rfl) rfl ?_
    refine Lx.st (stA (d := .bool) sz100 rfl rfl rfl rfl (by show 0 + 3 ≤ 3; omega) rfl) ?_
    refine Lx.y (asg rfl) rfl ?_
    refine Lx.nil ?_
    refine Xx.tn (k5 _ _ _ _ ?_)
    refine Cx.ret ?_
    refine Xx.tr ?_
    refine Xx.dropB b1 ?_
    first | exact Xx.rBc rfl Try.underlying100 rfl sz100 rfl rfl rfl ⟨tU hu rfl rfl, rfl⟩ (Frag.le_refl _) | exact Xx.rBc rfl Try.underlying100 rfl sz100 rfl rfl rfl ⟨tU (d := ⟨c.s, c.at' + i + 1, 0⟩) hu (by show Cu.mk _ _ _ = Cu.mk _ _ _; rw [he]; congr 1; omega) (ofNat_u64 (by rw [hor, Nat.mod_eq_of_lt hl9]; show _ = acc.toNat + _; omega)), rfl⟩ (Frag.le_refl _)
  · skip
    have he : c.e = 0 := h4
    refine Cx.skip ?_
    refine Xx.tn (k2 _ _ _ _ ?_)
    refine Cx.seq (fun K6 k6 => ?_)
    refine Cx.region ?_
    refine Lx.y (asg rfl) rfl ?_
    refine Lx.y (asg rfl) rfl ?_
    refine Lx.nil ?_
    refine Xx.tn (k6 _ _ _ _ ?_)
    refine Cx.seq (fun K7 k7 => ?_)
    refine Cx.seq (fun K8 k8 => ?_)
    refine Cx.region ?_
    refine Lx.y (asg rfl) rfl ?_
    refine Lx.nil ?_
    refine Xx.tn (k8 _ _ _ _ ?_)
    refine Cx.block ?_
    refine Cx.loopK (Sub.cons (s := 0) rfl (Sub.cons (s := 1) rfl (Sub.cons (s := 2) rfl (Sub.cons (s := 8) rfl (Sub.cons (s := 9) rfl (Sub.cons (s := 10) rfl (Sub.nil _))))))) (fun m ρ' B' H' => ∃ (i : Nat) (acc wt : BitVec 64), (i ≤ 9 ∧ acc.toNat < 128 ^ i ∧ wt.toNat = 128 ^ i ∧ udec 0 (c.s.drop c.at') = Ud.comb acc.toNat i (udec i (c.s.drop (c.at' + i)))) ∧ m = 10 - i ∧ ρ' = [(4, u64 acc), (5, u64 wt), (6, i64 i)] ∧ B = B' ∧ row b2 100 [str [], i64 0, i64 0] * (row b1 100 (cvs c) * R) = H') ⟨0, 0#64, 1#64, ⟨by omega, by decide, rfl, by simp only [Nat.add_zero]; cases udec 0 (c.s.drop c.at') with | bad e => rfl | ok n k => simp [Ud.comb]⟩, rfl, rfl, rfl, rfl⟩ (Sub.cons (s := 4) rfl (Sub.cons (s := 5) rfl (Sub.cons (s := 6) rfl (Sub.cons (s := 0) rfl (Sub.cons (s := 1) rfl (Sub.cons (s := 2) rfl (Sub.cons (s := 8) rfl (Sub.cons (s := 9) rfl (Sub.cons (s := 10) rfl (Sub.nil _)))))))))) ?_
    rintro m ρ' B' H' ⟨i, acc, wt, ⟨hi, hacc, hwt, hud⟩, rfl, rfl, rfl, rfl⟩
    refine Cx.seq (fun K9 k9 => ?_)
    refine Cx.seq (fun K10 k10 => ?_)
    refine Cx.region ?_
    refine Lx.y (mv rfl) rfl ?_
    refine Lx.y (lss rfl rfl) rfl ?_
    refine Lx.nil ?_
    refine Xx.tn (k10 _ _ _ _ ?_)
    refine Cx.condD rfl (fun h11 => ?_) (fun h11 => ?_)
    · skip
      refine Cx.skip ?_
      refine Xx.tn (k9 _ _ _ _ ?_)
      refine Cx.seq (fun K12 k12 => ?_)
      refine Cx.block ?_
      refine Cx.seq (fun K13 k13 => ?_)
      refine Cx.seq (fun K14 k14 => ?_)
      refine Cx.region ?_
      refine Lx.y (fa' fo100_1 rfl) rfl ?_
      refine Lx.y (ld Try.underlying3 rfl rfl rfl) rfl ?_
      refine Lx.y (mv rfl) rfl ?_
      refine Lx.y (add rfl rfl (by first | exact wrap64 (by omega) (by omega) | rfl)) rfl ?_
      refine Lx.y (fa' fo100_0 rfl) rfl ?_
      refine Lx.y (ld Try.underlying9 rfl rfl rfl) rfl ?_
      refine Lx.y (lenS Try.underlying9 rfl) rfl ?_
      refine Lx.y (geq rfl rfl) rfl ?_
      refine Lx.nil ?_
      refine Xx.tn (k14 _ _ _ _ ?_)
      refine Cx.condD rfl (fun h15 => ?_) (fun h15 => ?_)
      · skip
        have hu := Cu.uint_eq he (hud.trans (by rw [udec_nil (show c.s.length ≤ c.at' + i by have := h15; omega)]))
        refine Cx.seq (fun K16 k16 => ?_)
        refine Cx.region ?_
        refine Lx.y (ldA Try.underlying100 rfl sz100 rfl (Cells.own (n := 3) PickB.eq rfl) rfl) rfl ?_
        refine Lx.cp rfl rfl rfl (with_ct c _ _) rfl ?_
        refine Lx.st (stA (d := .bool) sz100 rfl rfl rfl rfl (by show 0 + 3 ≤ 3; omega) rfl) ?_
        refine Lx.y (asg rfl) rfl ?_
        refine Lx.nil ?_
        refine Xx.tn (k16 _ _ _ _ ?_)
        refine Cx.ret ?_
        refine Xx.tr ?_
        refine Xx.br ?_
        refine Xx.tr ?_
        refine Xx.tr ?_
        refine Xx.br ?_
        refine Xx.tr ?_
        refine Xx.dropB b1 ?_
        first | exact Xx.rBc rfl Try.underlying100 rfl sz100 rfl rfl rfl ⟨tU hu rfl rfl, rfl⟩ (Frag.le_refl _) | exact Xx.rBc rfl Try.underlying100 rfl sz100 rfl rfl rfl ⟨tU (d := ⟨c.s, c.at' + i + 1, 0⟩) hu (by show Cu.mk _ _ _ = Cu.mk _ _ _; rw [he]; congr 1; omega) (ofNat_u64 (by rw [hor, Nat.mod_eq_of_lt hl9]; show _ = acc.toNat + _; omega)), rfl⟩ (Frag.le_refl _)
      · skip
        have hil : c.at' + i < c.s.length := by have := h15; omega
        have hp9 := pow9 hi
        have hxv := toNat_most (m := (c.s.getD (c.at' + i) 0).toNat) (by have := (c.s.getD (c.at' + i) 0).toNat_lt; omega)
        refine Cx.skip ?_
        refine Xx.tn (k13 _ _ _ _ ?_)
        refine Cx.seq (fun K17 k17 => ?_)
        refine Cx.region ?_
        refine Lx.y (fa' fo100_0 rfl) rfl ?_
        refine Lx.y (ld Try.underlying9 rfl rfl rfl) rfl ?_
        refine Lx.y (fa' fo100_1 rfl) rfl ?_
        refine Lx.y (ld Try.underlying3 rfl rfl rfl) rfl ?_
        refine Lx.y (mv rfl) rfl ?_
        refine Lx.y (add rfl rfl (by first | exact wrap64 (by omega) (by omega) | rfl)) rfl ?_
        refine Lx.y (ixS Try.underlying9 rfl rfl (by first | exact Int.toNat_natCast _ | rfl) (by omega) (by omega)) rfl ?_
        refine Lx.y (cvW64 rfl Try.underlying5 Try.underlying98) rfl ?_
        refine Lx.y (asg rfl) rfl ?_
        refine Lx.nil ?_
        refine Xx.tn (k17 _ _ _ _ ?_)
        refine Cx.seq (fun K18 k18 => ?_)
        refine Cx.seq (fun K19 k19 => ?_)
        refine Cx.region ?_
        refine Lx.y (mv rfl) rfl ?_
        refine Lx.y (eqI rfl rfl) rfl ?_
        refine Lx.y (mv rfl) rfl ?_
        refine Xx.ifD (t := 36) rfl (fun h20 => ?_) (fun h20 => ?_)
        · skip
          refine Lx.gT rfl rfl rfl ?_
          refine Lx.y (mv rfl) rfl ?_
          refine Lx.gT rfl rfl rfl ?_
          refine Lx.y (gtr rfl rfl) rfl ?_
          refine Lx.y (pickT rfl rfl) rfl ?_
          refine Lx.y (mv rfl) rfl ?_
          refine Xx.ifD (t := 40) rfl (fun h21 => ?_) (fun h21 => ?_)
          · skip
            have hu := Cu.uint_eq he (hud.trans (by rw [udec_bad hil (by omega)]))
            refine Lx.gF rfl rfl rfl rfl ?_
            refine Lx.gF rfl rfl rfl rfl ?_
            refine Lx.gF rfl rfl rfl rfl ?_
            refine Lx.gU rfl rfl rfl rfl ?_
            refine Lx.gU rfl rfl rfl rfl ?_
            refine Lx.gF rfl rfl rfl rfl ?_
            refine Lx.y (pickT rfl rfl) rfl ?_
            refine Lx.nil ?_
            refine Xx.tn (k19 _ _ _ _ ?_)
            refine Cx.condT rfl ?_
            refine Cx.seq (fun K22 k22 => ?_)
            refine Cx.region ?_
            refine Lx.y (ldA Try.underlying100 rfl sz100 rfl (Cells.own (n := 3) PickB.eq rfl) rfl) rfl ?_
            refine Lx.cp rfl rfl rfl (with_ct c _ _) rfl ?_
            refine Lx.st (stA (d := .bool) sz100 rfl rfl rfl rfl (by show 0 + 3 ≤ 3; omega) rfl) ?_
            refine Lx.y (asg rfl) rfl ?_
            refine Lx.nil ?_
            refine Xx.tn (k22 _ _ _ _ ?_)
            refine Cx.ret ?_
            refine Xx.tr ?_
            refine Xx.br ?_
            refine Xx.tr ?_
            refine Xx.tr ?_
            refine Xx.br ?_
            refine Xx.tr ?_
            refine Xx.dropB b1 ?_
            first | exact Xx.rBc rfl Try.underlying100 rfl sz100 rfl rfl rfl ⟨tU hu rfl rfl, rfl⟩ (Frag.le_refl _) | exact Xx.rBc rfl Try.underlying100 rfl sz100 rfl rfl rfl ⟨tU (d := ⟨c.s, c.at' + i + 1, 0⟩) hu (by show Cu.mk _ _ _ = Cu.mk _ _ _; rw [he]; congr 1; omega) (ofNat_u64 (by rw [hor, Nat.mod_eq_of_lt hl9]; show _ = acc.toNat + _; omega)), rfl⟩ (Frag.le_refl _)
          · skip
            refine Lx.gT rfl rfl rfl ?_
            refine Lx.y (mv rfl) rfl ?_
            refine Lx.gT rfl rfl rfl ?_
            refine Lx.y (gtr rfl rfl) rfl ?_
            refine Lx.gT rfl rfl rfl ?_
            refine Lx.y (mv rfl) rfl ?_
            refine Xx.ifD (t := 43) rfl (fun h23 => ?_) (fun h23 => ?_)
            · skip
              refine Lx.gT rfl rfl rfl ?_
              refine Lx.y (mv rfl) rfl ?_
              refine Lx.gT rfl rfl rfl ?_
              refine Lx.y (eqW64 (b := 0#64) rfl rfl) rfl ?_
              refine Lx.gT rfl rfl rfl ?_
              refine Lx.y (pickT rfl rfl) rfl ?_
              refine Lx.y (pickF rfl rfl) rfl ?_
              refine Lx.nil ?_
              refine Xx.tn (k19 _ _ _ _ ?_)
              refine Cx.condD rfl (fun h24 => ?_) (fun h24 => ?_)
              · skip
                have hu := Cu.uint_eq he (hud.trans (by rw [udec_bad hil (.inr ⟨by omega, (zero_iff hxv).1 h24⟩)]))
                refine Cx.seq (fun K25 k25 => ?_)
                refine Cx.region ?_
                refine Lx.y (ldA Try.underlying100 rfl sz100 rfl (Cells.own (n := 3) PickB.eq rfl) rfl) rfl ?_
                refine Lx.cp rfl rfl rfl (with_ct c _ _) rfl ?_
                refine Lx.st (stA (d := .bool) sz100 rfl rfl rfl rfl (by show 0 + 3 ≤ 3; omega) rfl) ?_
                refine Lx.y (asg rfl) rfl ?_
                refine Lx.nil ?_
                refine Xx.tn (k25 _ _ _ _ ?_)
                refine Cx.ret ?_
                refine Xx.tr ?_
                refine Xx.br ?_
                refine Xx.tr ?_
                refine Xx.tr ?_
                refine Xx.br ?_
                refine Xx.tr ?_
                refine Xx.dropB b1 ?_
                first | exact Xx.rBc rfl Try.underlying100 rfl sz100 rfl rfl rfl ⟨tU hu rfl rfl, rfl⟩ (Frag.le_refl _) | exact Xx.rBc rfl Try.underlying100 rfl sz100 rfl rfl rfl ⟨tU (d := ⟨c.s, c.at' + i + 1, 0⟩) hu (by show Cu.mk _ _ _ = Cu.mk _ _ _; rw [he]; congr 1; omega) (ofNat_u64 (by rw [hor, Nat.mod_eq_of_lt hl9]; show _ = acc.toNat + _; omega)), rfl⟩ (Frag.le_refl _)
              · skip
                refine Cx.skip ?_
                refine Xx.tn (k18 _ _ _ _ ?_)
                refine Cx.seq (fun K26 k26 => ?_)
                have hnf : ¬ ((i = 9 ∧ 1 < (c.s.getD (c.at' + i) 0).toNat) ∨ (0 < i ∧ (c.s.getD (c.at' + i) 0).toNat = 0)) := fun z => by
                  rcases z with ⟨h1, h2⟩ | ⟨h1, h2⟩
                  · omega
                  · first | omega | exact absurd ((zero_iff hxv).2 h2) (by assumption)
                have hm9 : i = 9 → (c.s.getD (c.at' + i) 0).toNat ≤ 1 := by omega
                have hsum : acc.toNat + 128 ^ i * ((c.s.getD (c.at' + i) 0).toNat % 128) < 18446744073709551616 := acc_bound hi hacc hm9
                have hor := acc_add (x := (c.s.getD (c.at' + i) 0).toNat) hwt hxv hsum
                refine Cx.region ?_
                refine Lx.y (mv rfl) rfl ?_
                refine Lx.y (mv rfl) rfl ?_
                refine Lx.y (remW64 (b := 128#64) rfl rfl (by decide)) rfl ?_
                refine Lx.y (mv rfl) rfl ?_
                refine Lx.y (mulW64 rfl rfl) rfl ?_
                refine Lx.y (addW64 rfl rfl) rfl ?_
                refine Lx.y (asg rfl) rfl ?_
                refine Lx.nil ?_
                refine Xx.tn (k26 _ _ _ _ ?_)
                refine Cx.seq (fun K27 k27 => ?_)
                refine Cx.region ?_
                refine Lx.y (mv rfl) rfl ?_
                refine Lx.y (mulW64 (b := 128#64) rfl rfl) rfl ?_
                refine Lx.y (asg rfl) rfl ?_
                refine Lx.nil ?_
                refine Xx.tn (k27 _ _ _ _ ?_)
                refine Cx.seq (fun K28 k28 => ?_)
                refine Cx.region ?_
                refine Lx.y (mv rfl) rfl ?_
                refine Lx.y (lss rfl rfl) rfl ?_
                refine Lx.nil ?_
                refine Xx.tn (k28 _ _ _ _ ?_)
                refine Cx.condD rfl (fun h29 => ?_) (fun h29 => ?_)
                · skip
                  have hl9 : (c.s.getD (c.at' + i) 0).toNat < 128 := by have := h29; omega
                  have hu := Cu.uint_eq he (hud.trans (by rw [udec_last hil hnf hl9]))
                  refine Cx.seq (fun K30 k30 => ?_)
                  refine Cx.region ?_
                  refine Lx.y (fa' fo100_0 rfl) rfl ?_
                  refine Lx.y (ld Try.underlying9 rfl rfl rfl) rfl ?_
                  refine Lx.y (fa' fo100_1 rfl) rfl ?_
                  refine Lx.y (ld Try.underlying3 rfl rfl rfl) rfl ?_
                  refine Lx.y (mv rfl) rfl ?_
                  refine Lx.y (add rfl rfl (by first | exact wrap64 (by omega) (by omega) | rfl)) rfl ?_
                  refine Lx.y (add rfl rfl (show IntKind.i64.wrap _ = ((c.at' + i + 1 : Nat) : Int) by rw [wrap64 (by omega) (by omega)]; rfl)) rfl ?_
                  refine Lx.y (bld ti100 pl100 rfl rfl) rfl ?_
                  refine Lx.y (mv rfl) rfl ?_
                  refine Lx.st (stA (d := .bool) sz100 rfl rfl rfl rfl (by show 0 + 3 ≤ 3; omega) rfl) ?_
                  refine Lx.y (asg rfl) rfl ?_
                  refine Lx.nil ?_
                  refine Xx.tn (k30 _ _ _ _ ?_)
                  refine Cx.ret ?_
                  refine Xx.br ?_
                  refine Xx.tr ?_
                  refine Xx.tr ?_
                  refine Xx.br ?_
                  refine Xx.tr ?_
                  refine Xx.dropB b1 ?_
                  first | exact Xx.rBc rfl Try.underlying100 rfl sz100 rfl rfl rfl ⟨tU hu rfl rfl, rfl⟩ (Frag.le_refl _) | exact Xx.rBc rfl Try.underlying100 rfl sz100 rfl rfl rfl ⟨tU (d := ⟨c.s, c.at' + i + 1, 0⟩) hu (by show Cu.mk _ _ _ = Cu.mk _ _ _; rw [he]; congr 1; omega) (ofNat_u64 (by rw [hor, Nat.mod_eq_of_lt hl9]; show _ = acc.toNat + _; omega)), rfl⟩ (Frag.le_refl _)
                · skip
                  have hl9 : ¬ (c.s.getD (c.at' + i) 0).toNat < 128 := by have := h29; omega
                  refine Cx.skip ?_
                  refine Xx.bn ?_
                  refine Xx.tn (k12 _ _ _ _ ?_)
                  refine Cx.region ?_
                  refine Lx.y (mv rfl) rfl ?_
                  refine Lx.y (add rfl rfl (by first | exact wrap64 (by omega) (by omega) | rfl)) rfl ?_
                  refine Lx.y (asg rfl) rfl ?_
                  refine Lx.nil ?_
                  exact Xx.againK ⟨i + 1, acc + BitVec.ofInt 64 (((c.s.getD (c.at' + i) 0).toNat : Nat) : Int) % 128#64 * wt, wt * 128#64, ⟨by omega, by rw [hor, Nat.pow_succ]; have : 128 ^ i * ((c.s.getD (c.at' + i) 0).toNat % 128) ≤ 128 ^ i * 127 := Nat.mul_le_mul_left _ (by omega); omega, wt_step hwt (by omega), by rw [hud, udec_more hil hnf hl9, hor]; rfl⟩, rfl, rfl, rfl, rfl⟩ (by omega) (Sub.cons (s := 4) rfl (Sub.cons (s := 5) rfl (Sub.cons (s := 6) rfl (Sub.cons (s := 0) rfl (Sub.cons (s := 1) rfl (Sub.cons (s := 2) rfl (Sub.cons (s := 8) rfl (Sub.cons (s := 9) rfl (Sub.cons (s := 10) rfl (Sub.nil _))))))))))
            · skip
              refine Lx.gF rfl rfl rfl rfl ?_
              refine Lx.gF rfl rfl rfl rfl ?_
              refine Lx.gT rfl rfl rfl ?_
              refine Lx.y (pickF rfl rfl) rfl ?_
              refine Lx.y (pickF rfl rfl) rfl ?_
              refine Lx.nil ?_
              refine Xx.tn (k19 _ _ _ _ ?_)
              refine Cx.condF rfl ?_
              refine Cx.skip ?_
              refine Xx.tn (k18 _ _ _ _ ?_)
              refine Cx.seq (fun K31 k31 => ?_)
              have hnf : ¬ ((i = 9 ∧ 1 < (c.s.getD (c.at' + i) 0).toNat) ∨ (0 < i ∧ (c.s.getD (c.at' + i) 0).toNat = 0)) := fun z => by
                rcases z with ⟨h1, h2⟩ | ⟨h1, h2⟩
                · omega
                · first | omega | exact absurd ((zero_iff hxv).2 h2) (by assumption)
              have hm9 : i = 9 → (c.s.getD (c.at' + i) 0).toNat ≤ 1 := by omega
              have hsum : acc.toNat + 128 ^ i * ((c.s.getD (c.at' + i) 0).toNat % 128) < 18446744073709551616 := acc_bound hi hacc hm9
              have hor := acc_add (x := (c.s.getD (c.at' + i) 0).toNat) hwt hxv hsum
              refine Cx.region ?_
              refine Lx.y (mv rfl) rfl ?_
              refine Lx.y (mv rfl) rfl ?_
              refine Lx.y (remW64 (b := 128#64) rfl rfl (by decide)) rfl ?_
              refine Lx.y (mv rfl) rfl ?_
              refine Lx.y (mulW64 rfl rfl) rfl ?_
              refine Lx.y (addW64 rfl rfl) rfl ?_
              refine Lx.y (asg rfl) rfl ?_
              refine Lx.nil ?_
              refine Xx.tn (k31 _ _ _ _ ?_)
              refine Cx.seq (fun K32 k32 => ?_)
              refine Cx.region ?_
              refine Lx.y (mv rfl) rfl ?_
              refine Lx.y (mulW64 (b := 128#64) rfl rfl) rfl ?_
              refine Lx.y (asg rfl) rfl ?_
              refine Lx.nil ?_
              refine Xx.tn (k32 _ _ _ _ ?_)
              refine Cx.seq (fun K33 k33 => ?_)
              refine Cx.region ?_
              refine Lx.y (mv rfl) rfl ?_
              refine Lx.y (lss rfl rfl) rfl ?_
              refine Lx.nil ?_
              refine Xx.tn (k33 _ _ _ _ ?_)
              refine Cx.condD rfl (fun h34 => ?_) (fun h34 => ?_)
              · skip
                have hl9 : (c.s.getD (c.at' + i) 0).toNat < 128 := by have := h34; omega
                have hu := Cu.uint_eq he (hud.trans (by rw [udec_last hil hnf hl9]))
                refine Cx.seq (fun K35 k35 => ?_)
                refine Cx.region ?_
                refine Lx.y (fa' fo100_0 rfl) rfl ?_
                refine Lx.y (ld Try.underlying9 rfl rfl rfl) rfl ?_
                refine Lx.y (fa' fo100_1 rfl) rfl ?_
                refine Lx.y (ld Try.underlying3 rfl rfl rfl) rfl ?_
                refine Lx.y (mv rfl) rfl ?_
                refine Lx.y (add rfl rfl (by first | exact wrap64 (by omega) (by omega) | rfl)) rfl ?_
                refine Lx.y (add rfl rfl (show IntKind.i64.wrap _ = ((c.at' + i + 1 : Nat) : Int) by rw [wrap64 (by omega) (by omega)]; rfl)) rfl ?_
                refine Lx.y (bld ti100 pl100 rfl rfl) rfl ?_
                refine Lx.y (mv rfl) rfl ?_
                refine Lx.st (stA (d := .bool) sz100 rfl rfl rfl rfl (by show 0 + 3 ≤ 3; omega) rfl) ?_
                refine Lx.y (asg rfl) rfl ?_
                refine Lx.nil ?_
                refine Xx.tn (k35 _ _ _ _ ?_)
                refine Cx.ret ?_
                refine Xx.br ?_
                refine Xx.tr ?_
                refine Xx.tr ?_
                refine Xx.br ?_
                refine Xx.tr ?_
                refine Xx.dropB b1 ?_
                first | exact Xx.rBc rfl Try.underlying100 rfl sz100 rfl rfl rfl ⟨tU hu rfl rfl, rfl⟩ (Frag.le_refl _) | exact Xx.rBc rfl Try.underlying100 rfl sz100 rfl rfl rfl ⟨tU (d := ⟨c.s, c.at' + i + 1, 0⟩) hu (by show Cu.mk _ _ _ = Cu.mk _ _ _; rw [he]; congr 1; omega) (ofNat_u64 (by rw [hor, Nat.mod_eq_of_lt hl9]; show _ = acc.toNat + _; omega)), rfl⟩ (Frag.le_refl _)
              · skip
                have hl9 : ¬ (c.s.getD (c.at' + i) 0).toNat < 128 := by have := h34; omega
                refine Cx.skip ?_
                refine Xx.bn ?_
                refine Xx.tn (k12 _ _ _ _ ?_)
                refine Cx.region ?_
                refine Lx.y (mv rfl) rfl ?_
                refine Lx.y (add rfl rfl (by first | exact wrap64 (by omega) (by omega) | rfl)) rfl ?_
                refine Lx.y (asg rfl) rfl ?_
                refine Lx.nil ?_
                exact Xx.againK ⟨i + 1, acc + BitVec.ofInt 64 (((c.s.getD (c.at' + i) 0).toNat : Nat) : Int) % 128#64 * wt, wt * 128#64, ⟨by omega, by rw [hor, Nat.pow_succ]; have : 128 ^ i * ((c.s.getD (c.at' + i) 0).toNat % 128) ≤ 128 ^ i * 127 := Nat.mul_le_mul_left _ (by omega); omega, wt_step hwt (by omega), by rw [hud, udec_more hil hnf hl9, hor]; rfl⟩, rfl, rfl, rfl, rfl⟩ (by omega) (Sub.cons (s := 4) rfl (Sub.cons (s := 5) rfl (Sub.cons (s := 6) rfl (Sub.cons (s := 0) rfl (Sub.cons (s := 1) rfl (Sub.cons (s := 2) rfl (Sub.cons (s := 8) rfl (Sub.cons (s := 9) rfl (Sub.cons (s := 10) rfl (Sub.nil _))))))))))
        · skip
          refine Lx.gF rfl rfl rfl rfl ?_
          refine Lx.gF rfl rfl rfl rfl ?_
          refine Lx.y (pickF rfl rfl) rfl ?_
          refine Lx.y (mv rfl) rfl ?_
          refine Lx.gT rfl rfl rfl ?_
          refine Lx.y (mv rfl) rfl ?_
          refine Lx.gT rfl rfl rfl ?_
          refine Lx.y (gtr rfl rfl) rfl ?_
          refine Lx.gT rfl rfl rfl ?_
          refine Lx.y (mv rfl) rfl ?_
          refine Xx.ifD (t := 43) rfl (fun h36 => ?_) (fun h36 => ?_)
          · skip
            refine Lx.gT rfl rfl rfl ?_
            refine Lx.y (mv rfl) rfl ?_
            refine Lx.gT rfl rfl rfl ?_
            refine Lx.y (eqW64 (b := 0#64) rfl rfl) rfl ?_
            refine Lx.gT rfl rfl rfl ?_
            refine Lx.y (pickT rfl rfl) rfl ?_
            refine Lx.y (pickF rfl rfl) rfl ?_
            refine Lx.nil ?_
            refine Xx.tn (k19 _ _ _ _ ?_)
            refine Cx.condD rfl (fun h37 => ?_) (fun h37 => ?_)
            · skip
              have hu := Cu.uint_eq he (hud.trans (by rw [udec_bad hil (.inr ⟨by omega, (zero_iff hxv).1 h37⟩)]))
              refine Cx.seq (fun K38 k38 => ?_)
              refine Cx.region ?_
              refine Lx.y (ldA Try.underlying100 rfl sz100 rfl (Cells.own (n := 3) PickB.eq rfl) rfl) rfl ?_
              refine Lx.cp rfl rfl rfl (with_ct c _ _) rfl ?_
              refine Lx.st (stA (d := .bool) sz100 rfl rfl rfl rfl (by show 0 + 3 ≤ 3; omega) rfl) ?_
              refine Lx.y (asg rfl) rfl ?_
              refine Lx.nil ?_
              refine Xx.tn (k38 _ _ _ _ ?_)
              refine Cx.ret ?_
              refine Xx.tr ?_
              refine Xx.br ?_
              refine Xx.tr ?_
              refine Xx.tr ?_
              refine Xx.br ?_
              refine Xx.tr ?_
              refine Xx.dropB b1 ?_
              first | exact Xx.rBc rfl Try.underlying100 rfl sz100 rfl rfl rfl ⟨tU hu rfl rfl, rfl⟩ (Frag.le_refl _) | exact Xx.rBc rfl Try.underlying100 rfl sz100 rfl rfl rfl ⟨tU (d := ⟨c.s, c.at' + i + 1, 0⟩) hu (by show Cu.mk _ _ _ = Cu.mk _ _ _; rw [he]; congr 1; omega) (ofNat_u64 (by rw [hor, Nat.mod_eq_of_lt hl9]; show _ = acc.toNat + _; omega)), rfl⟩ (Frag.le_refl _)
            · skip
              refine Cx.skip ?_
              refine Xx.tn (k18 _ _ _ _ ?_)
              refine Cx.seq (fun K39 k39 => ?_)
              have hnf : ¬ ((i = 9 ∧ 1 < (c.s.getD (c.at' + i) 0).toNat) ∨ (0 < i ∧ (c.s.getD (c.at' + i) 0).toNat = 0)) := fun z => by
                rcases z with ⟨h1, h2⟩ | ⟨h1, h2⟩
                · omega
                · first | omega | exact absurd ((zero_iff hxv).2 h2) (by assumption)
              have hm9 : i = 9 → (c.s.getD (c.at' + i) 0).toNat ≤ 1 := by omega
              have hsum : acc.toNat + 128 ^ i * ((c.s.getD (c.at' + i) 0).toNat % 128) < 18446744073709551616 := acc_bound hi hacc hm9
              have hor := acc_add (x := (c.s.getD (c.at' + i) 0).toNat) hwt hxv hsum
              refine Cx.region ?_
              refine Lx.y (mv rfl) rfl ?_
              refine Lx.y (mv rfl) rfl ?_
              refine Lx.y (remW64 (b := 128#64) rfl rfl (by decide)) rfl ?_
              refine Lx.y (mv rfl) rfl ?_
              refine Lx.y (mulW64 rfl rfl) rfl ?_
              refine Lx.y (addW64 rfl rfl) rfl ?_
              refine Lx.y (asg rfl) rfl ?_
              refine Lx.nil ?_
              refine Xx.tn (k39 _ _ _ _ ?_)
              refine Cx.seq (fun K40 k40 => ?_)
              refine Cx.region ?_
              refine Lx.y (mv rfl) rfl ?_
              refine Lx.y (mulW64 (b := 128#64) rfl rfl) rfl ?_
              refine Lx.y (asg rfl) rfl ?_
              refine Lx.nil ?_
              refine Xx.tn (k40 _ _ _ _ ?_)
              refine Cx.seq (fun K41 k41 => ?_)
              refine Cx.region ?_
              refine Lx.y (mv rfl) rfl ?_
              refine Lx.y (lss rfl rfl) rfl ?_
              refine Lx.nil ?_
              refine Xx.tn (k41 _ _ _ _ ?_)
              refine Cx.condD rfl (fun h42 => ?_) (fun h42 => ?_)
              · skip
                have hl9 : (c.s.getD (c.at' + i) 0).toNat < 128 := by have := h42; omega
                have hu := Cu.uint_eq he (hud.trans (by rw [udec_last hil hnf hl9]))
                refine Cx.seq (fun K43 k43 => ?_)
                refine Cx.region ?_
                refine Lx.y (fa' fo100_0 rfl) rfl ?_
                refine Lx.y (ld Try.underlying9 rfl rfl rfl) rfl ?_
                refine Lx.y (fa' fo100_1 rfl) rfl ?_
                refine Lx.y (ld Try.underlying3 rfl rfl rfl) rfl ?_
                refine Lx.y (mv rfl) rfl ?_
                refine Lx.y (add rfl rfl (by first | exact wrap64 (by omega) (by omega) | rfl)) rfl ?_
                refine Lx.y (add rfl rfl (show IntKind.i64.wrap _ = ((c.at' + i + 1 : Nat) : Int) by rw [wrap64 (by omega) (by omega)]; rfl)) rfl ?_
                refine Lx.y (bld ti100 pl100 rfl rfl) rfl ?_
                refine Lx.y (mv rfl) rfl ?_
                refine Lx.st (stA (d := .bool) sz100 rfl rfl rfl rfl (by show 0 + 3 ≤ 3; omega) rfl) ?_
                refine Lx.y (asg rfl) rfl ?_
                refine Lx.nil ?_
                refine Xx.tn (k43 _ _ _ _ ?_)
                refine Cx.ret ?_
                refine Xx.br ?_
                refine Xx.tr ?_
                refine Xx.tr ?_
                refine Xx.br ?_
                refine Xx.tr ?_
                refine Xx.dropB b1 ?_
                first | exact Xx.rBc rfl Try.underlying100 rfl sz100 rfl rfl rfl ⟨tU hu rfl rfl, rfl⟩ (Frag.le_refl _) | exact Xx.rBc rfl Try.underlying100 rfl sz100 rfl rfl rfl ⟨tU (d := ⟨c.s, c.at' + i + 1, 0⟩) hu (by show Cu.mk _ _ _ = Cu.mk _ _ _; rw [he]; congr 1; omega) (ofNat_u64 (by rw [hor, Nat.mod_eq_of_lt hl9]; show _ = acc.toNat + _; omega)), rfl⟩ (Frag.le_refl _)
              · skip
                have hl9 : ¬ (c.s.getD (c.at' + i) 0).toNat < 128 := by have := h42; omega
                refine Cx.skip ?_
                refine Xx.bn ?_
                refine Xx.tn (k12 _ _ _ _ ?_)
                refine Cx.region ?_
                refine Lx.y (mv rfl) rfl ?_
                refine Lx.y (add rfl rfl (by first | exact wrap64 (by omega) (by omega) | rfl)) rfl ?_
                refine Lx.y (asg rfl) rfl ?_
                refine Lx.nil ?_
                exact Xx.againK ⟨i + 1, acc + BitVec.ofInt 64 (((c.s.getD (c.at' + i) 0).toNat : Nat) : Int) % 128#64 * wt, wt * 128#64, ⟨by omega, by rw [hor, Nat.pow_succ]; have : 128 ^ i * ((c.s.getD (c.at' + i) 0).toNat % 128) ≤ 128 ^ i * 127 := Nat.mul_le_mul_left _ (by omega); omega, wt_step hwt (by omega), by rw [hud, udec_more hil hnf hl9, hor]; rfl⟩, rfl, rfl, rfl, rfl⟩ (by omega) (Sub.cons (s := 4) rfl (Sub.cons (s := 5) rfl (Sub.cons (s := 6) rfl (Sub.cons (s := 0) rfl (Sub.cons (s := 1) rfl (Sub.cons (s := 2) rfl (Sub.cons (s := 8) rfl (Sub.cons (s := 9) rfl (Sub.cons (s := 10) rfl (Sub.nil _))))))))))
          · skip
            refine Lx.gF rfl rfl rfl rfl ?_
            refine Lx.gF rfl rfl rfl rfl ?_
            refine Lx.gT rfl rfl rfl ?_
            refine Lx.y (pickF rfl rfl) rfl ?_
            refine Lx.y (pickF rfl rfl) rfl ?_
            refine Lx.nil ?_
            refine Xx.tn (k19 _ _ _ _ ?_)
            refine Cx.condF rfl ?_
            refine Cx.skip ?_
            refine Xx.tn (k18 _ _ _ _ ?_)
            refine Cx.seq (fun K44 k44 => ?_)
            have hnf : ¬ ((i = 9 ∧ 1 < (c.s.getD (c.at' + i) 0).toNat) ∨ (0 < i ∧ (c.s.getD (c.at' + i) 0).toNat = 0)) := fun z => by
              rcases z with ⟨h1, h2⟩ | ⟨h1, h2⟩
              · omega
              · first | omega | exact absurd ((zero_iff hxv).2 h2) (by assumption)
            have hm9 : i = 9 → (c.s.getD (c.at' + i) 0).toNat ≤ 1 := by omega
            have hsum : acc.toNat + 128 ^ i * ((c.s.getD (c.at' + i) 0).toNat % 128) < 18446744073709551616 := acc_bound hi hacc hm9
            have hor := acc_add (x := (c.s.getD (c.at' + i) 0).toNat) hwt hxv hsum
            refine Cx.region ?_
            refine Lx.y (mv rfl) rfl ?_
            refine Lx.y (mv rfl) rfl ?_
            refine Lx.y (remW64 (b := 128#64) rfl rfl (by decide)) rfl ?_
            refine Lx.y (mv rfl) rfl ?_
            refine Lx.y (mulW64 rfl rfl) rfl ?_
            refine Lx.y (addW64 rfl rfl) rfl ?_
            refine Lx.y (asg rfl) rfl ?_
            refine Lx.nil ?_
            refine Xx.tn (k44 _ _ _ _ ?_)
            refine Cx.seq (fun K45 k45 => ?_)
            refine Cx.region ?_
            refine Lx.y (mv rfl) rfl ?_
            refine Lx.y (mulW64 (b := 128#64) rfl rfl) rfl ?_
            refine Lx.y (asg rfl) rfl ?_
            refine Lx.nil ?_
            refine Xx.tn (k45 _ _ _ _ ?_)
            refine Cx.seq (fun K46 k46 => ?_)
            refine Cx.region ?_
            refine Lx.y (mv rfl) rfl ?_
            refine Lx.y (lss rfl rfl) rfl ?_
            refine Lx.nil ?_
            refine Xx.tn (k46 _ _ _ _ ?_)
            refine Cx.condD rfl (fun h47 => ?_) (fun h47 => ?_)
            · skip
              have hl9 : (c.s.getD (c.at' + i) 0).toNat < 128 := by have := h47; omega
              have hu := Cu.uint_eq he (hud.trans (by rw [udec_last hil hnf hl9]))
              refine Cx.seq (fun K48 k48 => ?_)
              refine Cx.region ?_
              refine Lx.y (fa' fo100_0 rfl) rfl ?_
              refine Lx.y (ld Try.underlying9 rfl rfl rfl) rfl ?_
              refine Lx.y (fa' fo100_1 rfl) rfl ?_
              refine Lx.y (ld Try.underlying3 rfl rfl rfl) rfl ?_
              refine Lx.y (mv rfl) rfl ?_
              refine Lx.y (add rfl rfl (by first | exact wrap64 (by omega) (by omega) | rfl)) rfl ?_
              refine Lx.y (add rfl rfl (show IntKind.i64.wrap _ = ((c.at' + i + 1 : Nat) : Int) by rw [wrap64 (by omega) (by omega)]; rfl)) rfl ?_
              refine Lx.y (bld ti100 pl100 rfl rfl) rfl ?_
              refine Lx.y (mv rfl) rfl ?_
              refine Lx.st (stA (d := .bool) sz100 rfl rfl rfl rfl (by show 0 + 3 ≤ 3; omega) rfl) ?_
              refine Lx.y (asg rfl) rfl ?_
              refine Lx.nil ?_
              refine Xx.tn (k48 _ _ _ _ ?_)
              refine Cx.ret ?_
              refine Xx.br ?_
              refine Xx.tr ?_
              refine Xx.tr ?_
              refine Xx.br ?_
              refine Xx.tr ?_
              refine Xx.dropB b1 ?_
              first | exact Xx.rBc rfl Try.underlying100 rfl sz100 rfl rfl rfl ⟨tU hu rfl rfl, rfl⟩ (Frag.le_refl _) | exact Xx.rBc rfl Try.underlying100 rfl sz100 rfl rfl rfl ⟨tU (d := ⟨c.s, c.at' + i + 1, 0⟩) hu (by show Cu.mk _ _ _ = Cu.mk _ _ _; rw [he]; congr 1; omega) (ofNat_u64 (by rw [hor, Nat.mod_eq_of_lt hl9]; show _ = acc.toNat + _; omega)), rfl⟩ (Frag.le_refl _)
            · skip
              have hl9 : ¬ (c.s.getD (c.at' + i) 0).toNat < 128 := by have := h47; omega
              refine Cx.skip ?_
              refine Xx.bn ?_
              refine Xx.tn (k12 _ _ _ _ ?_)
              refine Cx.region ?_
              refine Lx.y (mv rfl) rfl ?_
              refine Lx.y (add rfl rfl (by first | exact wrap64 (by omega) (by omega) | rfl)) rfl ?_
              refine Lx.y (asg rfl) rfl ?_
              refine Lx.nil ?_
              exact Xx.againK ⟨i + 1, acc + BitVec.ofInt 64 (((c.s.getD (c.at' + i) 0).toNat : Nat) : Int) % 128#64 * wt, wt * 128#64, ⟨by omega, by rw [hor, Nat.pow_succ]; have : 128 ^ i * ((c.s.getD (c.at' + i) 0).toNat % 128) ≤ 128 ^ i * 127 := Nat.mul_le_mul_left _ (by omega); omega, wt_step hwt (by omega), by rw [hud, udec_more hil hnf hl9, hor]; rfl⟩, rfl, rfl, rfl, rfl⟩ (by omega) (Sub.cons (s := 4) rfl (Sub.cons (s := 5) rfl (Sub.cons (s := 6) rfl (Sub.cons (s := 0) rfl (Sub.cons (s := 1) rfl (Sub.cons (s := 2) rfl (Sub.cons (s := 8) rfl (Sub.cons (s := 9) rfl (Sub.cons (s := 10) rfl (Sub.nil _))))))))))
    · skip
      exact absurd h11 (by omega)

set_option maxHeartbeats 1000000 in
theorem RcBytes_ct (c : Cu) (k : Nat) (hk : k ≤ 4611686018427387904) (B : Frag) (h : c.ok) : CtP Try.prog 92 [.agg (cvs c).toArray, i64 (k : Nat)] B (.tuple #[.agg (cvs (c.bytes k).1).toArray, str (c.bytes k).2]) := by
  obtain ⟨hat, hsl⟩ := h
  refine CtB.of_body Try.func92 rfl (nt := 43) rfl (by kernel_rfl) rfl ?_
  intro N0 w0 R
  refine Cx.seq (fun K1 k1 => ?_)
  refine Cx.region ?_
  refine Lx.new (boxA rfl) rfl (fun b1 => ?_)
  refine Lx.new (allocO ti100) rfl (fun b2 => ?_)
  refine Lx.y (asg rfl) rfl ?_
  refine Lx.nil ?_
  refine Xx.tn (k1 _ _ _ _ ?_)
  refine Cx.seq (fun K2 k2 => ?_)
  refine Cx.block ?_
  refine Cx.seq (fun K3 k3 => ?_)
  refine Cx.region ?_
  refine Lx.y (fa' fo100_2 rfl) rfl ?_
  refine Lx.y (ld Try.underlying3 rfl rfl rfl) rfl ?_
  refine Lx.y (neI rfl rfl) rfl ?_
  refine Lx.y (asg rfl) rfl ?_
  refine Lx.nil ?_
  refine Xx.tn (k3 _ _ _ _ ?_)
  refine Cx.condN rfl (fun h4 => ?_) (fun h4 => ?_)
  · skip
    have hu := Cu.bytes_ne (k := k) h4
    refine Cx.seq (fun K5 k5 => ?_)
    refine Cx.region ?_
    refine Lx.y (ldA Try.underlying100 rfl sz100 rfl (Cells.own (n := 3) PickB.eq rfl) rfl) rfl ?_
    refine Lx.st (stA (d := .bool) sz100 rfl rfl rfl rfl (by show 0 + 3 ≤ 3; omega) rfl) ?_
    refine Lx.y (asg rfl) rfl ?_
    refine Lx.nil ?_
    refine Xx.tn (k5 _ _ _ _ ?_)
    refine Cx.ret ?_
    refine Xx.br ?_
    refine Xx.tr ?_
    refine Xx.dropB b1 ?_
    first | exact Xx.rBc rfl Try.underlying100 rfl sz100 rfl rfl rfl ⟨tB hu rfl rfl, rfl⟩ (Frag.le_refl _) | exact Xx.rBc rfl Try.underlying100 rfl sz100 rfl rfl rfl ⟨tB (d := ⟨c.s, c.at' + k, 0⟩) hu (by rw [he]) (congrArg str (dropTakeAdd _ _ _)), rfl⟩ (Frag.le_refl _)
  · skip
    have he : c.e = 0 := h4
    refine Cx.seq (fun K6 k6 => ?_)
    refine Cx.region ?_
    refine Lx.y (mv rfl) rfl ?_
    refine Lx.y (lss rfl rfl) rfl ?_
    refine Lx.y (asg rfl) rfl ?_
    refine Lx.nil ?_
    refine Xx.tn (k6 _ _ _ _ ?_)
    refine Cx.condD rfl (fun h7 => ?_) (fun h7 => ?_)
    · skip
      exact absurd h7 (by omega)
    · skip
      refine Cx.seq (fun K8 k8 => ?_)
      refine Cx.region ?_
      refine Lx.y (mv rfl) rfl ?_
      refine Lx.y (fa' fo100_0 rfl) rfl ?_
      refine Lx.y (ld Try.underlying9 rfl rfl rfl) rfl ?_
      refine Lx.y (lenS Try.underlying9 rfl) rfl ?_
      refine Lx.y (fa' fo100_1 rfl) rfl ?_
      refine Lx.y (ld Try.underlying3 rfl rfl rfl) rfl ?_
      refine Lx.y (sub rfl rfl (by first | exact wrap64 (by omega) (by omega) | rfl)) rfl ?_
      refine Lx.y (gtr rfl rfl) rfl ?_
      refine Lx.y (asg rfl) rfl ?_
      refine Lx.nil ?_
      refine Xx.tn (k8 _ _ _ _ ?_)
      refine Cx.condD rfl (fun h9 => ?_) (fun h9 => ?_)
      · skip
        have hu := Cu.bytes_short (k := k) he (by have := h9; omega)
        refine Cx.seq (fun K10 k10 => ?_)
        refine Cx.region ?_
        refine Lx.y (ldA Try.underlying100 rfl sz100 rfl (Cells.own (n := 3) PickB.eq rfl) rfl) rfl ?_
        refine Lx.cp rfl rfl rfl (with_ct c _ _) rfl ?_
        refine Lx.st (stA (d := .bool) sz100 rfl rfl rfl rfl (by show 0 + 3 ≤ 3; omega) rfl) ?_
        refine Lx.y (asg rfl) rfl ?_
        refine Lx.nil ?_
        refine Xx.tn (k10 _ _ _ _ ?_)
        refine Cx.ret ?_
        refine Xx.br ?_
        refine Xx.tr ?_
        refine Xx.dropB b1 ?_
        first | exact Xx.rBc rfl Try.underlying100 rfl sz100 rfl rfl rfl ⟨tB hu rfl rfl, rfl⟩ (Frag.le_refl _) | exact Xx.rBc rfl Try.underlying100 rfl sz100 rfl rfl rfl ⟨tB (d := ⟨c.s, c.at' + k, 0⟩) hu (by rw [he]) (congrArg str (dropTakeAdd _ _ _)), rfl⟩ (Frag.le_refl _)
      · skip
        have hle : k ≤ c.s.length - c.at' := by have := h9; omega
        have hu := Cu.bytes_eq he hle
        refine Cx.skip ?_
        refine Xx.bn ?_
        refine Xx.tn (k2 _ _ _ _ ?_)
        refine Cx.seq (fun K11 k11 => ?_)
        refine Cx.drawn (by kernel_rfl) ?_
        refine Dx.p (i := 0) rfl (by kernel_rfl) (fa' fo100_0 rfl) rfl ?_
        refine Dx.r (i := 1) rfl (by kernel_rfl) (ld Try.underlying9 rfl rfl rfl) rfl ?_
        refine Dx.p (i := 2) rfl (by kernel_rfl) (fa' fo100_1 rfl) rfl ?_
        refine Dx.r (i := 3) rfl (by kernel_rfl) (ld Try.underlying3 rfl rfl rfl) rfl ?_
        refine Dx.p (i := 4) rfl (by kernel_rfl) (mv rfl) rfl ?_
        refine Dx.p (i := 5) rfl (by kernel_rfl) (add rfl rfl (by first | exact wrap64 (by omega) (by omega) | rfl)) rfl ?_
        refine Dx.p (i := 6) rfl (by kernel_rfl) (bld ti100 pl100 rfl rfl) rfl ?_
        refine Dx.p (i := 7) rfl (by kernel_rfl) (fa' fo100_0 rfl) rfl ?_
        refine Dx.r (i := 8) rfl (by kernel_rfl) (ld Try.underlying9 rfl rfl rfl) rfl ?_
        refine Dx.p (i := 9) rfl (by kernel_rfl) (fa' fo100_1 rfl) rfl ?_
        refine Dx.r (i := 10) rfl (by kernel_rfl) (ld Try.underlying3 rfl rfl rfl) rfl ?_
        refine Dx.p (i := 11) rfl (by kernel_rfl) (fa' fo100_1 rfl) rfl ?_
        refine Dx.r (i := 12) rfl (by kernel_rfl) (ld Try.underlying3 rfl rfl rfl) rfl ?_
        refine Dx.p (i := 13) rfl (by kernel_rfl) (mv rfl) rfl ?_
        refine Dx.p (i := 14) rfl (by kernel_rfl) (add rfl rfl (by first | exact wrap64 (by omega) (by omega) | rfl)) rfl ?_
        refine Dx.p (i := 15) rfl (by kernel_rfl) (sl3S Try.underlying9 rfl rfl rfl (by first | exact Int.toNat_natCast _ | rfl) (by first | exact Int.toNat_natCast _ | rfl) (by omega) (by omega) (by omega)) rfl ?_
        refine Dx.one (i := 16) (by kernel_rfl) ?_
        refine Dstep.o0 (i := 16) rfl (stA (d := .bool) sz100 rfl rfl rfl rfl (by show 0 + 3 ≤ 3; omega) rfl) (fun v B' H' hΦ hB => ?_)
        obtain ⟨rfl, rfl⟩ := hΦ; clear hB v
        refine ⟨JOk.yes (JOk.yes (JOk.yes (JOk.edge (JOk.edge (JOk.top) (by kernel_rfl)) (by kernel_rfl)) (ld Try.underlying9 rfl rfl rfl)) (ld Try.underlying3 rfl rfl rfl)) (ld Try.underlying3 rfl rfl rfl), ?_⟩
        refine Dx.p (i := 17) rfl (by kernel_rfl) (asg rfl) rfl ?_
        refine Dx.done (by kernel_rfl) ?_
        refine Xx.tn (k11 _ _ _ _ ?_)
        refine Cx.ret ?_
        refine Xx.dropB b1 ?_
        first | exact Xx.rBc rfl Try.underlying100 rfl sz100 rfl rfl rfl ⟨tB hu rfl rfl, rfl⟩ (Frag.le_refl _) | exact Xx.rBc rfl Try.underlying100 rfl sz100 rfl rfl rfl ⟨tB (d := ⟨c.s, c.at' + k, 0⟩) hu (by rw [he]) (congrArg str (dropTakeAdd _ _ _)), rfl⟩ (Frag.le_refl _)

set_option maxHeartbeats 1000000 in
theorem RcBool_ct (c : Cu) (B : Frag) (h : c.ok) : CtP Try.prog 93 [.agg (cvs c).toArray] B (.tuple #[.agg (cvs c.bool.1).toArray, .bool c.bool.2]) := by
  obtain ⟨hat, hsl⟩ := h
  refine CtB.of_body Try.func93 rfl (nt := 24) rfl (by kernel_rfl) rfl ?_
  intro N0 w0 R
  refine Cx.seq (fun K1 k1 => ?_)
  refine Cx.region ?_
  refine Lx.new (boxA rfl) rfl (fun b1 => ?_)
  refine Lx.new (allocO ti100) rfl (fun b2 => ?_)
  refine Lx.y (asg rfl) rfl ?_
  refine Lx.nil ?_
  refine Xx.tn (k1 _ _ _ _ ?_)
  refine Cx.seq (fun K2 k2 => ?_)
  refine Cx.region ?_
  refine Lx.y (ldA Try.underlying100 rfl sz100 rfl (Cells.own (n := 3) PickB.eq rfl) rfl) rfl ?_
  refine Lx.cp rfl rfl rfl (RcBytes_ct c 1 (by decide) _ ⟨hat, hsl⟩) rfl ?_
  refine Lx.y (mv rfl) rfl ?_
  refine Lx.y (ext rfl rfl) rfl ?_
  refine Lx.y (ext rfl rfl) rfl ?_
  refine Lx.new (allocO ti100) rfl (fun b5 => ?_)
  refine Lx.st (stA (d := .bool) sz100 rfl rfl rfl rfl (by show 0 + 3 ≤ 3; omega) rfl) ?_
  refine Lx.y (asg rfl) rfl ?_
  refine Lx.nil ?_
  refine Xx.tn (k2 _ _ _ _ ?_)
  refine Cx.seq (fun K3 k3 => ?_)
  refine Cx.seq (fun K4 k4 => ?_)
  refine Cx.region ?_
  refine Lx.y (fa' fo100_2 rfl) rfl ?_
  refine Lx.y (ld Try.underlying3 rfl rfl rfl) rfl ?_
  refine Lx.y (eqI rfl rfl) rfl ?_
  refine Lx.y (mv rfl) rfl ?_
  refine Xx.ifD (t := 14) rfl (fun h5 => ?_) (fun h5 => ?_)
  · skip
    have he1 : (c.bytes 1).1.e = 0 := h5
    have hl1 := Cu.bytes_len he1
    refine Lx.gT rfl rfl rfl ?_
    refine Lx.y (mv rfl) rfl ?_
    refine Lx.gT rfl rfl rfl ?_
    refine Lx.y (ixS Try.underlying9 rfl rfl (show Int.toNat _ = 0 from rfl) (by omega) (by omega)) rfl ?_
    refine Lx.gT rfl rfl rfl ?_
    refine Lx.y (gtr rfl rfl) rfl ?_
    refine Lx.y (pickT rfl rfl) rfl ?_
    refine Lx.nil ?_
    refine Xx.tn (k4 _ _ _ _ ?_)
    refine Cx.condD rfl (fun h6 => ?_) (fun h6 => ?_)
    · skip
      have hu := bool_big (c := c) ⟨he1, by have := h6; omega⟩
      refine Cx.seq (fun K7 k7 => ?_)
      refine Cx.region ?_
      refine Lx.y (ldA Try.underlying100 rfl sz100 rfl (Cells.own (n := 3) PickB.eq rfl) rfl) rfl ?_
      refine Lx.cp rfl rfl rfl (with_ct c _ _) rfl ?_
      refine Lx.st (stA (d := .bool) sz100 rfl rfl rfl rfl (by show 0 + 3 ≤ 3; omega) rfl) ?_
      refine Lx.y (asg rfl) rfl ?_
      refine Lx.nil ?_
      refine Xx.tn (k7 _ _ _ _ ?_)
      refine Cx.ret ?_
      refine Xx.tr ?_
      refine Xx.dropB b1 (Xx.dropB b5 ?_)
      first | exact Xx.rBc rfl Try.underlying100 rfl sz100 rfl rfl rfl ⟨tBo hu rfl rfl, rfl⟩ (Frag.le_refl _)
    · skip
      have hu := bool_else (c := c) (fun z => h6 (by omega))
      refine Cx.skip ?_
      refine Xx.tn (k3 _ _ _ _ ?_)
      refine Cx.seq (fun K8 k8 => ?_)
      refine Cx.region ?_
      refine Lx.y (ldA Try.underlying100 rfl sz100 rfl (Cells.own (n := 3) PickB.eq rfl) rfl) rfl ?_
      refine Lx.y (mv rfl) rfl ?_
      refine Lx.y (eqS rfl rfl) rfl ?_
      refine Lx.st (stA (d := .bool) sz100 rfl rfl rfl rfl (by show 0 + 3 ≤ 3; omega) rfl) ?_
      refine Lx.y (asg rfl) rfl ?_
      refine Lx.nil ?_
      refine Xx.tn (k8 _ _ _ _ ?_)
      refine Cx.ret ?_
      refine Xx.dropB b1 (Xx.dropB b5 ?_)
      first | exact Xx.rBc rfl Try.underlying100 rfl sz100 rfl rfl rfl ⟨tBo hu rfl rfl, rfl⟩ (Frag.le_refl _)
  · skip
    have he1 : ¬ (c.bytes 1).1.e = 0 := h5
    have hu := bool_else (c := c) (fun z => he1 z.1)
    refine Lx.gF rfl rfl rfl rfl ?_
    refine Lx.gF rfl rfl rfl rfl ?_
    refine Lx.gF rfl rfl rfl rfl ?_
    refine Lx.y (pickF rfl rfl) rfl ?_
    refine Lx.nil ?_
    refine Xx.tn (k4 _ _ _ _ ?_)
    refine Cx.condF rfl ?_
    refine Cx.skip ?_
    refine Xx.tn (k3 _ _ _ _ ?_)
    refine Cx.seq (fun K9 k9 => ?_)
    refine Cx.region ?_
    refine Lx.y (ldA Try.underlying100 rfl sz100 rfl (Cells.own (n := 3) PickB.eq rfl) rfl) rfl ?_
    refine Lx.y (mv rfl) rfl ?_
    refine Lx.y (eqS rfl rfl) rfl ?_
    refine Lx.st (stA (d := .bool) sz100 rfl rfl rfl rfl (by show 0 + 3 ≤ 3; omega) rfl) ?_
    refine Lx.y (asg rfl) rfl ?_
    refine Lx.nil ?_
    refine Xx.tn (k9 _ _ _ _ ?_)
    refine Cx.ret ?_
    refine Xx.dropB b1 (Xx.dropB b5 ?_)
    first | exact Xx.rBc rfl Try.underlying100 rfl sz100 rfl rfl rfl ⟨tBo hu rfl rfl, rfl⟩ (Frag.le_refl _)

set_option maxHeartbeats 1000000 in
theorem RcInt_ct (c : Cu) (B : Frag) (h : c.ok) : CtP Try.prog 94 [.agg (cvs c).toArray] B (.tuple #[.agg (cvs c.uint.1).toArray, i64 (zig c.uint.2)]) := by
  obtain ⟨hat, hsl⟩ := h
  refine CtB.of_body Try.func94 rfl (nt := 24) rfl (by kernel_rfl) rfl ?_
  intro N0 w0 R
  refine Cx.seq (fun K1 k1 => ?_)
  refine Cx.region ?_
  refine Lx.new (boxA rfl) rfl (fun b1 => ?_)
  refine Lx.new (allocO ti100) rfl (fun b2 => ?_)
  refine Lx.y (asg rfl) rfl ?_
  refine Lx.nil ?_
  refine Xx.tn (k1 _ _ _ _ ?_)
  refine Cx.seq (fun K2 k2 => ?_)
  refine Cx.region ?_
  refine Lx.y (ldA Try.underlying100 rfl sz100 rfl (Cells.own (n := 3) PickB.eq rfl) rfl) rfl ?_
  refine Lx.cp rfl rfl rfl (RcUint_ct c _ ⟨hat, hsl⟩) rfl ?_
  refine Lx.y (mv rfl) rfl ?_
  refine Lx.y (ext rfl rfl) rfl ?_
  refine Lx.y (ext rfl rfl) rfl ?_
  refine Lx.new (allocO ti100) rfl (fun b5 => ?_)
  refine Lx.st (stA (d := .bool) sz100 rfl rfl rfl rfl (by show 0 + 3 ≤ 3; omega) rfl) ?_
  refine Lx.y (asg rfl) rfl ?_
  refine Lx.nil ?_
  refine Xx.tn (k2 _ _ _ _ ?_)
  refine Cx.seq (fun K3 k3 => ?_)
  refine Cx.seq (fun K4 k4 => ?_)
  obtain ⟨hz1, hz2⟩ := zig_hi c.uint_lt
  have hlt := c.uint_lt
  refine Cx.region ?_
  refine Lx.y (mv rfl) rfl ?_
  refine Lx.y (remW64 (b := 2#64) rfl rfl (by decide)) rfl ?_
  refine Lx.y (eqW64 (b := 1#64) rfl rfl) rfl ?_
  refine Lx.nil ?_
  refine Xx.tn (k4 _ _ _ _ ?_)
  refine Cx.condD rfl (fun h5 => ?_) (fun h5 => ?_)
  · skip
    have hodd : c.uint.2 % 2 = 1 := by have := congrArg BitVec.toNat h5; rw [hz1] at this; exact this
    refine Cx.seq (fun K6 k6 => ?_)
    refine Cx.region ?_
    refine Lx.y (ldA Try.underlying100 rfl sz100 rfl (Cells.own (n := 3) PickB.eq rfl) rfl) rfl ?_
    refine Lx.y (mv rfl) rfl ?_
    refine Lx.y (quoW64 (b := 2#64) rfl rfl (by decide)) rfl ?_
    refine Lx.y (cvI rfl Try.underlying98 Try.underlying2 (by first | exact wrap64 (by omega) (by omega) | rfl)) rfl ?_
    refine Lx.y (neg rfl (by first | exact wrap64 (by omega) (by omega) | rfl)) rfl ?_
    refine Lx.y (Yx.val (sub rfl rfl (by first | exact wrap64 (by omega) (by omega) | rfl)) (show i64 _ = i64 (zig c.uint.2) by rw [hz2]; unfold zig; rw [if_pos hodd]; congr 1; omega)) rfl ?_
    refine Lx.st (stA (d := .bool) sz100 rfl rfl rfl rfl (by show 0 + 3 ≤ 3; omega) rfl) ?_
    refine Lx.y (asg rfl) rfl ?_
    refine Lx.nil ?_
    refine Xx.tn (k6 _ _ _ _ ?_)
    refine Cx.ret ?_
    refine Xx.tr ?_
    refine Xx.dropB b1 (Xx.dropB b5 ?_)
    exact Xx.rBc rfl Try.underlying100 rfl sz100 rfl rfl rfl ⟨rfl, rfl⟩ (Frag.le_refl _)
  · skip
    have hodd : ¬ c.uint.2 % 2 = 1 := fun z => h5 (by apply BitVec.eq_of_toNat_eq; rw [hz1, z]; rfl)
    refine Cx.skip ?_
    refine Xx.tn (k3 _ _ _ _ ?_)
    refine Cx.seq (fun K7 k7 => ?_)
    refine Cx.region ?_
    refine Lx.y (ldA Try.underlying100 rfl sz100 rfl (Cells.own (n := 3) PickB.eq rfl) rfl) rfl ?_
    refine Lx.y (mv rfl) rfl ?_
    refine Lx.y (quoW64 (b := 2#64) rfl rfl (by decide)) rfl ?_
    refine Lx.y (Yx.val (cvI rfl Try.underlying98 Try.underlying2 (by first | exact wrap64 (by omega) (by omega) | rfl)) (show i64 _ = i64 (zig c.uint.2) by rw [hz2]; unfold zig; rw [if_neg hodd])) rfl ?_
    refine Lx.st (stA (d := .bool) sz100 rfl rfl rfl rfl (by show 0 + 3 ≤ 3; omega) rfl) ?_
    refine Lx.y (asg rfl) rfl ?_
    refine Lx.nil ?_
    refine Xx.tn (k7 _ _ _ _ ?_)
    refine Cx.ret ?_
    refine Xx.dropB b1 (Xx.dropB b5 ?_)
    exact Xx.rBc rfl Try.underlying100 rfl sz100 rfl rfl rfl ⟨rfl, rfl⟩ (Frag.le_refl _)

set_option maxHeartbeats 1000000 in
theorem RcCount_ct (c : Cu) (most : Nat) (hm : most ≤ 4611686018427387904) (B : Frag) (h : c.ok) : CtP Try.prog 96 [.agg (cvs c).toArray, i64 (most : Nat)] B (.tuple #[.agg (cvs (c.count most).1).toArray, i64 ((c.count most).2 : Nat)]) := by
  obtain ⟨hat, hsl⟩ := h
  refine CtB.of_body Try.func96 rfl (nt := 31) rfl (by kernel_rfl) rfl ?_
  intro N0 w0 R
  refine Cx.seq (fun K1 k1 => ?_)
  refine Cx.region ?_
  refine Lx.new (boxA rfl) rfl (fun b2 => ?_)
  refine Lx.new (allocO ti100) rfl (fun b4 => ?_)
  refine Lx.y (asg rfl) rfl ?_
  refine Lx.nil ?_
  refine Xx.tn (k1 _ _ _ _ ?_)
  refine Cx.seq (fun K2 k2 => ?_)
  refine Cx.region ?_
  refine Lx.y (ldA Try.underlying100 rfl sz100 rfl (Cells.own (n := 3) PickB.eq rfl) rfl) rfl ?_
  refine Lx.cp rfl rfl rfl (RcUint_ct c _ ⟨hat, hsl⟩) rfl ?_
  refine Lx.y (mv rfl) rfl ?_
  refine Lx.y (ext rfl rfl) rfl ?_
  refine Lx.y (ext rfl rfl) rfl ?_
  refine Lx.new (allocO ti100) rfl (fun b6 => ?_)
  refine Lx.st (stA (d := .bool) sz100 rfl rfl rfl rfl (by show 0 + 3 ≤ 3; omega) rfl) ?_
  refine Lx.y (asg rfl) rfl ?_
  refine Lx.nil ?_
  refine Xx.tn (k2 _ _ _ _ ?_)
  refine Cx.seq (fun K3 k3 => ?_)
  refine Cx.seq (fun K4 k4 => ?_)
  have hmt := toNat_most hm
  have hnt := toNat_uint c
  refine Cx.region ?_
  refine Lx.y (fa' fo100_2 rfl) rfl ?_
  refine Lx.y (ld Try.underlying3 rfl rfl rfl) rfl ?_
  refine Lx.y (eqI rfl rfl) rfl ?_
  refine Lx.y (mv rfl) rfl ?_
  refine Xx.ifD (t := 16) rfl (fun h5 => ?_) (fun h5 => ?_)
  · skip
    have he1 : c.uint.1.e = 0 := h5
    refine Lx.gT rfl rfl rfl ?_
    refine Lx.y (mv rfl) rfl ?_
    refine Lx.gT rfl rfl rfl ?_
    refine Lx.y (lss rfl rfl) rfl ?_
    refine Lx.gT rfl rfl rfl ?_
    refine Lx.y (mv rfl) rfl ?_
    refine Xx.ifD (t := 19) rfl (fun h6 => ?_) (fun h6 => ?_)
    · skip
      exact absurd h6 (by omega)
    · skip
      refine Lx.gT rfl rfl rfl ?_
      refine Lx.y (mv rfl) rfl ?_
      refine Lx.gT rfl rfl rfl ?_
      refine Lx.y (mv rfl) rfl ?_
      refine Lx.gT rfl rfl rfl ?_
      refine Lx.y (cvW64 rfl Try.underlying3 Try.underlying98) rfl ?_
      refine Lx.gT rfl rfl rfl ?_
      refine Lx.y (gtr rfl rfl) rfl ?_
      refine Lx.gT rfl rfl rfl ?_
      refine Lx.y (pickF rfl rfl) rfl ?_
      refine Lx.y (pickT rfl rfl) rfl ?_
      refine Lx.nil ?_
      refine Xx.tn (k4 _ _ _ _ ?_)
      refine Cx.condD rfl (fun h7 => ?_) (fun h7 => ?_)
      · skip
        have hu := count_lim (c := c) (m := most) ⟨he1, by have := h7; omega⟩
        refine Cx.seq (fun K8 k8 => ?_)
        refine Cx.region ?_
        refine Lx.y (ldA Try.underlying100 rfl sz100 rfl (Cells.own (n := 3) PickB.eq rfl) rfl) rfl ?_
        refine Lx.cp rfl rfl rfl (with_ct c _ _) rfl ?_
        refine Lx.st (stA (d := .bool) sz100 rfl rfl rfl rfl (by show 0 + 3 ≤ 3; omega) rfl) ?_
        refine Lx.y (asg rfl) rfl ?_
        refine Lx.nil ?_
        refine Xx.tn (k8 _ _ _ _ ?_)
        refine Cx.ret ?_
        refine Xx.tr ?_
        refine Xx.dropB b2 (Xx.dropB b6 ?_)
        exact Xx.rBc rfl Try.underlying100 rfl sz100 rfl rfl rfl ⟨tC hu rfl rfl, rfl⟩ (Frag.le_refl _)
      · skip
        have hlim := h7
        have hu := count_else (c := c) (m := most) (fun z => hlim (by omega))
        have hle : c.uint.2 ≤ 4611686018427387904 := by omega
        refine Cx.skip ?_
        refine Xx.tn (k3 _ _ _ _ ?_)
        refine Cx.seq (fun K9 k9 => ?_)
        refine Cx.region ?_
        refine Lx.y (ldA Try.underlying100 rfl sz100 rfl (Cells.own (n := 3) PickB.eq rfl) rfl) rfl ?_
        refine Lx.y (mv rfl) rfl ?_
        refine Lx.y (Yx.val (cvI rfl Try.underlying98 Try.underlying3 (by first | exact wrap64 (by omega) (by omega) | rfl)) (show i64 _ = i64 ((c.uint.2 : Nat) : Int) by rw [hnt])) rfl ?_
        refine Lx.st (stA (d := .bool) sz100 rfl rfl rfl rfl (by show 0 + 3 ≤ 3; omega) rfl) ?_
        refine Lx.y (asg rfl) rfl ?_
        refine Lx.nil ?_
        refine Xx.tn (k9 _ _ _ _ ?_)
        refine Cx.ret ?_
        refine Xx.dropB b2 (Xx.dropB b6 ?_)
        exact Xx.rBc rfl Try.underlying100 rfl sz100 rfl rfl rfl ⟨tC hu rfl rfl, rfl⟩ (Frag.le_refl _)
  · skip
    have he1 : ¬ c.uint.1.e = 0 := h5
    have hu := count_else (c := c) (m := most) (fun z => he1 z.1)
    have hle : c.uint.2 ≤ 4611686018427387904 := by rw [c.uint_err he1]; omega
    refine Lx.gF rfl rfl rfl rfl ?_
    refine Lx.gF rfl rfl rfl rfl ?_
    refine Lx.gF rfl rfl rfl rfl ?_
    refine Lx.gU rfl rfl rfl rfl ?_
    refine Lx.gU rfl rfl rfl rfl ?_
    refine Lx.gU rfl rfl rfl rfl ?_
    refine Lx.gU rfl rfl rfl rfl ?_
    refine Lx.gF rfl rfl rfl rfl ?_
    refine Lx.y (pickF rfl rfl) rfl ?_
    refine Lx.nil ?_
    refine Xx.tn (k4 _ _ _ _ ?_)
    refine Cx.condF rfl ?_
    refine Cx.skip ?_
    refine Xx.tn (k3 _ _ _ _ ?_)
    refine Cx.seq (fun K10 k10 => ?_)
    refine Cx.region ?_
    refine Lx.y (ldA Try.underlying100 rfl sz100 rfl (Cells.own (n := 3) PickB.eq rfl) rfl) rfl ?_
    refine Lx.y (mv rfl) rfl ?_
    refine Lx.y (Yx.val (cvI rfl Try.underlying98 Try.underlying3 (by first | exact wrap64 (by omega) (by omega) | rfl)) (show i64 _ = i64 ((c.uint.2 : Nat) : Int) by rw [hnt])) rfl ?_
    refine Lx.st (stA (d := .bool) sz100 rfl rfl rfl rfl (by show 0 + 3 ≤ 3; omega) rfl) ?_
    refine Lx.y (asg rfl) rfl ?_
    refine Lx.nil ?_
    refine Xx.tn (k10 _ _ _ _ ?_)
    refine Cx.ret ?_
    refine Xx.dropB b2 (Xx.dropB b6 ?_)
    exact Xx.rBc rfl Try.underlying100 rfl sz100 rfl rfl rfl ⟨tC hu rfl rfl, rfl⟩ (Frag.le_refl _)

set_option maxHeartbeats 1000000 in
theorem RcText_ct (c : Cu) (most : Nat) (hm : most ≤ 1048576) (B : Frag) (h : c.ok) : CtP Try.prog 95 [.agg (cvs c).toArray, i64 (most : Nat)] B (.tuple #[.agg (cvs (c.text most).1).toArray, str (c.text most).2]) := by
  obtain ⟨hat, hsl⟩ := h
  refine CtB.of_body Try.func95 rfl (nt := 38) rfl (by kernel_rfl) rfl ?_
  intro N0 w0 R
  refine Cx.seq (fun K1 k1 => ?_)
  refine Cx.region ?_
  refine Lx.new (boxA rfl) rfl (fun b2 => ?_)
  refine Lx.new (allocO ti100) rfl (fun b4 => ?_)
  refine Lx.y (asg rfl) rfl ?_
  refine Lx.nil ?_
  refine Xx.tn (k1 _ _ _ _ ?_)
  refine Cx.seq (fun K2 k2 => ?_)
  refine Cx.seq (fun K3 k3 => ?_)
  refine Cx.region ?_
  refine Lx.y (mv rfl) rfl ?_
  refine Lx.y (gtr rfl rfl) rfl ?_
  refine Lx.nil ?_
  refine Xx.tn (k3 _ _ _ _ ?_)
  refine Cx.condD rfl (fun h4 => ?_) (fun h4 => ?_)
  · skip
    exact absurd h4 (by omega)
  · skip
    refine Cx.skip ?_
    refine Xx.tn (k2 _ _ _ _ ?_)
    refine Cx.seq (fun K5 k5 => ?_)
    refine Cx.region ?_
    refine Lx.y (ldA Try.underlying100 rfl sz100 rfl (Cells.own (n := 3) PickB.eq rfl) rfl) rfl ?_
    refine Lx.y (mv rfl) rfl ?_
    refine Lx.cp rfl rfl rfl (RcCount_ct c most (by omega) _ ⟨hat, hsl⟩) rfl ?_
    refine Lx.y (mv rfl) rfl ?_
    refine Lx.y (ext rfl rfl) rfl ?_
    refine Lx.y (ext rfl rfl) rfl ?_
    refine Lx.new (allocO ti100) rfl (fun b6 => ?_)
    refine Lx.st (stA (d := .bool) sz100 rfl rfl rfl rfl (by show 0 + 3 ≤ 3; omega) rfl) ?_
    refine Lx.y (asg rfl) rfl ?_
    refine Lx.nil ?_
    refine Xx.tn (k5 _ _ _ _ ?_)
    refine Cx.seq (fun K6 k6 => ?_)
    refine Cx.region ?_
    refine Lx.y (ldA Try.underlying100 rfl sz100 rfl (Cells.own (n := 3) PickB.eq rfl) rfl) rfl ?_
    refine Lx.y (mv rfl) rfl ?_
    refine Lx.cp rfl rfl rfl (RcBytes_ct (c.count most).1 (c.count most).2 (Nat.le_trans (Cu.count_le c most) (by omega)) _ (Cu.count_ok ⟨hat, hsl⟩ most)) rfl ?_
    refine Lx.y (mv rfl) rfl ?_
    refine Lx.y (ext rfl rfl) rfl ?_
    refine Lx.y (ext rfl rfl) rfl ?_
    refine Lx.new (allocO ti100) rfl (fun b8 => ?_)
    refine Lx.st (stA (d := .bool) sz100 rfl rfl rfl rfl (by show 0 + 3 ≤ 3; omega) rfl) ?_
    refine Lx.y (asg rfl) rfl ?_
    refine Lx.nil ?_
    refine Xx.tn (k6 _ _ _ _ ?_)
    refine Cx.seq (fun K7 k7 => ?_)
    refine Cx.seq (fun K8 k8 => ?_)
    refine Cx.region ?_
    refine Lx.y (fa' fo100_2 rfl) rfl ?_
    refine Lx.y (ld Try.underlying3 rfl rfl rfl) rfl ?_
    refine Lx.y (neI rfl rfl) rfl ?_
    refine Lx.y (mv rfl) rfl ?_
    refine Xx.ifN (t := 27) rfl (fun h9 => ?_) (fun h9 => ?_)
    · skip
      have he1 : ¬ ((c.count most).1.bytes (c.count most).2).1.e = 0 := h9
      refine Lx.gT rfl rfl rfl ?_
      refine Lx.y (fa' fo100_2 rfl) rfl ?_
      refine Lx.gT rfl rfl rfl ?_
      refine Lx.y (ld Try.underlying3 rfl rfl rfl) rfl ?_
      refine Lx.gT rfl rfl rfl ?_
      refine Lx.y (eqI rfl rfl) rfl ?_
      refine Lx.y (pickT rfl rfl) rfl ?_
      refine Lx.nil ?_
      refine Xx.tn (k8 _ _ _ _ ?_)
      refine Cx.condD rfl (fun h10 => ?_) (fun h10 => ?_)
      · skip
        have hu := text_err (c := c) (m := most) he1
        refine Cx.seq (fun K11 k11 => ?_)
        refine Cx.region ?_
        refine Lx.y (ldA Try.underlying100 rfl sz100 rfl (Cells.own (n := 3) PickB.eq rfl) rfl) rfl ?_
        refine Lx.y (fa' fo100_2 rfl) rfl ?_
        refine Lx.y (ld Try.underlying3 rfl rfl rfl) rfl ?_
        refine Lx.cp rfl rfl rfl (with_ct c _ _) rfl ?_
        refine Lx.st (stA (d := .bool) sz100 rfl rfl rfl rfl (by show 0 + 3 ≤ 3; omega) rfl) ?_
        refine Lx.y (asg rfl) rfl ?_
        refine Lx.nil ?_
        refine Xx.tn (k11 _ _ _ _ ?_)
        refine Cx.ret ?_
        refine Xx.tr ?_
        refine Xx.dropB b2 (Xx.dropB b6 (Xx.dropB b8 ?_))
        exact Xx.rBc rfl Try.underlying100 rfl sz100 rfl rfl rfl ⟨tT hu rfl rfl, rfl⟩ (Frag.le_refl _)
      · skip
        have hne := h10
        have hu := text_same (c := c) (m := most) (fun z => hne z.2)
        refine Cx.skip ?_
        refine Xx.tn (k7 _ _ _ _ ?_)
        refine Cx.seq (fun K12 k12 => ?_)
        refine Cx.region ?_
        refine Lx.y (ldA Try.underlying100 rfl sz100 rfl (Cells.own (n := 3) PickB.eq rfl) rfl) rfl ?_
        refine Lx.y (mv rfl) rfl ?_
        refine Lx.st (stA (d := .bool) sz100 rfl rfl rfl rfl (by show 0 + 3 ≤ 3; omega) rfl) ?_
        refine Lx.y (asg rfl) rfl ?_
        refine Lx.nil ?_
        refine Xx.tn (k12 _ _ _ _ ?_)
        refine Cx.ret ?_
        refine Xx.dropB b2 (Xx.dropB b6 (Xx.dropB b8 ?_))
        exact Xx.rBc rfl Try.underlying100 rfl sz100 rfl rfl rfl ⟨tT hu rfl rfl, rfl⟩ (Frag.le_refl _)
    · skip
      have he1 : ((c.count most).1.bytes (c.count most).2).1.e = 0 := h9
      have hu := text_same (c := c) (m := most) (fun z => z.1 he1)
      refine Lx.gF rfl rfl rfl rfl ?_
      refine Lx.gF rfl rfl rfl rfl ?_
      refine Lx.gF rfl rfl rfl rfl ?_
      refine Lx.y (pickF rfl rfl) rfl ?_
      refine Lx.nil ?_
      refine Xx.tn (k8 _ _ _ _ ?_)
      refine Cx.condF rfl ?_
      refine Cx.skip ?_
      refine Xx.tn (k7 _ _ _ _ ?_)
      refine Cx.seq (fun K13 k13 => ?_)
      refine Cx.region ?_
      refine Lx.y (ldA Try.underlying100 rfl sz100 rfl (Cells.own (n := 3) PickB.eq rfl) rfl) rfl ?_
      refine Lx.y (mv rfl) rfl ?_
      refine Lx.st (stA (d := .bool) sz100 rfl rfl rfl rfl (by show 0 + 3 ≤ 3; omega) rfl) ?_
      refine Lx.y (asg rfl) rfl ?_
      refine Lx.nil ?_
      refine Xx.tn (k13 _ _ _ _ ?_)
      refine Cx.ret ?_
      refine Xx.dropB b2 (Xx.dropB b6 (Xx.dropB b8 ?_))
      exact Xx.rBc rfl Try.underlying100 rfl sz100 rfl rfl rfl ⟨tT hu rfl rfl, rfl⟩ (Frag.le_refl _)

set_option maxHeartbeats 1000000 in
theorem RcEnd_ct (c : Cu) (B : Frag) (h : c.ok) : CtP Try.prog 59 [.agg (cvs c).toArray] B (.agg (cvs c.fin).toArray) := by
  obtain ⟨hat, hsl⟩ := h
  refine CtB.of_body Try.func59 rfl (nt := 17) rfl (by kernel_rfl) rfl ?_
  intro N0 w0 R
  refine Cx.seq (fun K1 k1 => ?_)
  refine Cx.region ?_
  refine Lx.new (boxA rfl) rfl (fun b1 => ?_)
  refine Lx.new (allocO ti100) rfl (fun b2 => ?_)
  refine Lx.nil ?_
  refine Xx.tn (k1 _ _ _ _ ?_)
  refine Cx.seq (fun K2 k2 => ?_)
  refine Cx.seq (fun K3 k3 => ?_)
  refine Cx.region ?_
  refine Lx.y (fa' fo100_2 rfl) rfl ?_
  refine Lx.y (ld Try.underlying3 rfl rfl rfl) rfl ?_
  refine Lx.y (eqI rfl rfl) rfl ?_
  refine Lx.y (mv rfl) rfl ?_
  refine Xx.ifD (t := 6) rfl (fun h4 => ?_) (fun h4 => ?_)
  · skip
    have he : c.e = 0 := h4
    refine Lx.gT rfl rfl rfl ?_
    refine Lx.y (fa' fo100_1 rfl) rfl ?_
    refine Lx.gT rfl rfl rfl ?_
    refine Lx.y (ld Try.underlying3 rfl rfl rfl) rfl ?_
    refine Lx.gT rfl rfl rfl ?_
    refine Lx.y (fa' fo100_0 rfl) rfl ?_
    refine Lx.gT rfl rfl rfl ?_
    refine Lx.y (ld Try.underlying9 rfl rfl rfl) rfl ?_
    refine Lx.gT rfl rfl rfl ?_
    refine Lx.y (lenS Try.underlying9 rfl) rfl ?_
    refine Lx.gT rfl rfl rfl ?_
    refine Lx.y (lss rfl rfl) rfl ?_
    refine Lx.y (pickT rfl rfl) rfl ?_
    refine Lx.nil ?_
    refine Xx.tn (k3 _ _ _ _ ?_)
    refine Cx.condD rfl (fun h5 => ?_) (fun h5 => ?_)
    · skip
      have hu : ⟨c.s, c.at', 5⟩ = c.fin := by unfold Cu.fin; rw [if_pos (by have := h5; omega), stop_eq he]
      refine Cx.seq (fun K6 k6 => ?_)
      refine Cx.region ?_
      refine Lx.y (ldA Try.underlying100 rfl sz100 rfl (Cells.own (n := 3) PickB.eq rfl) rfl) rfl ?_
      refine Lx.cp rfl rfl rfl (with_ct c _ _) rfl ?_
      refine Lx.st (stA (d := .bool) sz100 rfl rfl rfl rfl (by show 0 + 3 ≤ 3; omega) rfl) ?_
      refine Lx.nil ?_
      refine Xx.tn (k6 _ _ _ _ ?_)
      refine Cx.ret ?_
      refine Xx.tr ?_
      refine Xx.dropB b1 ?_
      exact Xx.rBa rfl Try.underlying100 rfl sz100 rfl rfl ⟨congrArg (fun z : Cu => Value.agg (cvs z).toArray) hu, rfl⟩ (Frag.le_refl _)
    · skip
      have hu : c = c.fin := by unfold Cu.fin; rw [if_neg (by have := h5; omega)]
      refine Cx.skip ?_
      refine Xx.tn (k2 _ _ _ _ ?_)
      refine Cx.seq (fun K7 k7 => ?_)
      refine Cx.region ?_
      refine Lx.y (ldA Try.underlying100 rfl sz100 rfl (Cells.own (n := 3) PickB.eq rfl) rfl) rfl ?_
      refine Lx.st (stA (d := .bool) sz100 rfl rfl rfl rfl (by show 0 + 3 ≤ 3; omega) rfl) ?_
      refine Lx.nil ?_
      refine Xx.tn (k7 _ _ _ _ ?_)
      refine Cx.ret ?_
      refine Xx.dropB b1 ?_
      exact Xx.rBa rfl Try.underlying100 rfl sz100 rfl rfl ⟨congrArg (fun z : Cu => Value.agg (cvs z).toArray) hu, rfl⟩ (Frag.le_refl _)
  · skip
    have he : ¬ c.e = 0 := h4
    have hu : c = c.fin := by unfold Cu.fin; split; unfold Cu.stop; rw [if_neg he]; rfl
    refine Lx.gF rfl rfl rfl rfl ?_
    refine Lx.gF rfl rfl rfl rfl ?_
    refine Lx.gF rfl rfl rfl rfl ?_
    refine Lx.gF rfl rfl rfl rfl ?_
    refine Lx.gF rfl rfl rfl rfl ?_
    refine Lx.gF rfl rfl rfl rfl ?_
    refine Lx.y (pickF rfl rfl) rfl ?_
    refine Lx.nil ?_
    refine Xx.tn (k3 _ _ _ _ ?_)
    refine Cx.condF rfl ?_
    refine Cx.skip ?_
    refine Xx.tn (k2 _ _ _ _ ?_)
    refine Cx.seq (fun K8 k8 => ?_)
    refine Cx.region ?_
    refine Lx.y (ldA Try.underlying100 rfl sz100 rfl (Cells.own (n := 3) PickB.eq rfl) rfl) rfl ?_
    refine Lx.st (stA (d := .bool) sz100 rfl rfl rfl rfl (by show 0 + 3 ≤ 3; omega) rfl) ?_
    refine Lx.nil ?_
    refine Xx.tn (k8 _ _ _ _ ?_)
    refine Cx.ret ?_
    refine Xx.dropB b1 ?_
    exact Xx.rBa rfl Try.underlying100 rfl sz100 rfl rfl ⟨congrArg (fun z : Cu => Value.agg (cvs z).toArray) hu, rfl⟩ (Frag.le_refl _)
end VaE
end Go.Proofs.Ytcoiejmlpinpbaa
