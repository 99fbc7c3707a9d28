/-
  The reference: names, which values may be, their bytes.
-/
import Derived.Test.YtcoiejmlpinpbaaProg
import Derived.Test.YtcoiejmlpinpbaaSlj
import Derived.Test.YtcoiejmlpinpbaaKeF
namespace Go.Proofs.Ytcoiejmlpinpbaa
open Go.SL Go.RowKit
set_option linter.unusedVariables false
set_option linter.unusedSimpArgs false
set_option maxRecDepth 100000
open Ke5 Ke6 Ke7 Ke8 Ke9 KeA KeB KeE KeF
namespace KeG
theorem sz9 : (Try.prog.info? 9).map (·.size) = some 1 := by kernel_rfl
theorem sz53 : (Try.prog.info? 53).map (·.size) = some 6 := by kernel_rfl
theorem ti5 : TI Try.prog 5 [.int .u8 0] 1 1 := TI.of (by kernel_rfl) rfl rfl
theorem fo53_0 : FO Try.prog 53 0 0 1 false := FO.of Try.underlying53 rfl rfl (by kernel_rfl) Try.underlying3 rfl rfl
theorem fo53_1 : FO Try.prog 53 1 1 1 false := FO.of Try.underlying53 rfl rfl (by kernel_rfl) Try.underlying4 rfl rfl
theorem fo53_2 : FO Try.prog 53 2 2 1 false := FO.of Try.underlying53 rfl rfl (by kernel_rfl) Try.underlying2 rfl rfl
theorem fo53_3 : FO Try.prog 53 3 3 1 false := FO.of Try.underlying53 rfl rfl (by kernel_rfl) Try.underlying9 rfl rfl
theorem fo53_4 : FO Try.prog 53 4 4 1 false := FO.of Try.underlying53 rfl rfl (by kernel_rfl) Try.underlying51 rfl rfl
theorem fo53_5 : FO Try.prog 53 5 5 1 false := FO.of Try.underlying53 rfl rfl (by kernel_rfl) Try.underlying22 rfl rfl

theorem hiB_eq (n : BitVec 64) : toB (((n % 128#64 + 128#64).toNat : Nat) : Int) = hiB n := by
  have key : ∀ x : Fin 256, toB ((((x.val % 128 + 128 : Nat)) : Int)) = toB ((((BitVec.ofInt 8 (x.val : Int) ||| BitVec.ofInt 8 128).toNat : Nat)) : Int) := by decide +kernel
  have h1 : (toB ((n.toNat : Nat) : Int)).toNat = n.toNat % 256 := by
    have h : (toB ((n.toNat : Nat) : Int)).toNat = (((n.toNat : Nat) : Int) % 256).toNat % 256 := by simp [toB]
    rw [h]; omega
  have h2 := key ⟨n.toNat % 256, Nat.mod_lt _ (by decide)⟩
  unfold hiB
  rw [h1]
  have h3 : (n % 128#64 + 128#64).toNat = n.toNat % 256 % 128 + 128 := by
    rw [BitVec.toNat_add, BitVec.toNat_umod]
    have e : (128#64).toNat = 128 := rfl
    rw [e]; omega
  rw [h3]
  exact h2
theorem nameB_len2 {s : List UInt8} (h : ∀ i, i < s.length → okAt s i) (h1 : (0 : Int) < (s.length : Nat)) : decide (((s.length : Nat) : Int) < 17) = nameB s := by
  rw [← nameB_len h (by omega)]; exact decide_eq_decide.2 (by omega)
theorem div128 (n : BitVec 64) : n / 128#64 = n >>> 7 := by
  apply BitVec.eq_of_toNat_eq
  rw [BitVec.toNat_udiv, BitVec.toNat_ushiftRight, Nat.shiftRight_eq_div_pow]; rfl
theorem uvF_hi {k : Nat} {n : BitVec 64} (h : 128 ≤ n.toNat) : uvF (k + 1) n = [toB (((n % 128#64 + 128#64).toNat : Nat) : Int)] ++ uvF k (n / 128#64) := by
  rw [hiB_eq, div128]
  conv => lhs; unfold uvF
  rw [if_pos h]; rfl
theorem int_pos {n : Int} (h1 : 0 ≤ n) (h2 : n ≤ 9223372036854775807) : BitVec.ofInt 64 n * 2#64 = BitVec.ofInt 64 n <<< 1 ^^^ BitVec.ofInt 64 (n / 9223372036854775808) := by
  rw [show n / 9223372036854775808 = 0 by omega]
  apply BitVec.eq_of_toNat_eq
  simp [BitVec.toNat_mul, BitVec.toNat_shiftLeft, Nat.shiftLeft_eq]
theorem int_neg {n : Int} (h1 : n < 0) (h2 : -9223372036854775808 ≤ n) : BitVec.ofInt 64 (-(n + 1)) * 2#64 + 1#64 = BitVec.ofInt 64 n <<< 1 ^^^ BitVec.ofInt 64 (n / 9223372036854775808) := by
  rw [show n / 9223372036854775808 = -1 by omega]
  have e : BitVec.ofInt 64 (-1) = BitVec.allOnes 64 := by decide
  rw [e, BitVec.xor_allOnes]
  apply BitVec.eq_of_toNat_eq
  rw [BitVec.toNat_not, BitVec.toNat_add, BitVec.toNat_mul, BitVec.toNat_shiftLeft, BitVec.toNat_ofInt, BitVec.toNat_ofInt, Nat.shiftLeft_eq]
  have e2 : (2#64).toNat = 2 := rfl
  have e1 : (1#64).toNat = 1 := rfl
  rw [e1, e2]
  simp only [Nat.reducePow]
  omega

set_option maxHeartbeats 1000000 in
theorem RUint_step (k : Nat) (n : BitVec 64) (B : Frag) (hk : k ≤ 20) (ih : 128 ≤ n.toNat → CtP Try.prog 57 [u64 (n / 128#64)] B (str (uvF k (n / 128#64)))) : CtP Try.prog 57 [u64 n] B (str (uvF (k + 1) n)) := by
  have hul := uvF_len k (n / 128#64)
  refine CtB.of_body Try.func57 rfl (nt := 19) rfl (by kernel_rfl) rfl ?_
  intro N0 w0 R
  refine Cx.seq (fun K1 k1 => ?_)
  refine Cx.region ?_
  refine Lx.y (asg rfl) rfl ?_
  refine Lx.nil ?_
  refine Xx.tn (k1 _ _ _ _ ?_)
  refine Cx.seq (fun K2 k2 => ?_)
  refine Cx.seq (fun K3 k3 => ?_)
  refine Cx.region ?_
  refine Lx.y (mv rfl) rfl ?_
  refine Lx.y (lss rfl rfl) rfl ?_
  refine Lx.nil ?_
  refine Xx.tn (k3 _ _ _ _ ?_)
  refine Cx.condD rfl (fun h4 => ?_) (fun h4 => ?_)
  · skip
    have z := h4
    refine Cx.seq (fun K5 k5 => ?_)
    refine Cx.region ?_
    refine Lx.y (mv rfl) rfl ?_
    refine Lx.y (cvI rfl Try.underlying98 Try.underlying5 (wrap_u8 _)) rfl ?_
    refine Lx.bsl (bsl1 Try.underlying94 ti5 rfl rfl rfl (by decide)) rfl (fun b7 => ?_)
    refine Lx.y (b2sR Try.underlying94 Try.underlying5 Try.underlying9 rfl (u8s_cons u8s_nil) rfl) rfl ?_
    refine Lx.y (asg rfl) rfl ?_
    refine Lx.nil ?_
    refine Xx.tn (k5 _ _ _ _ ?_)
    refine Cx.ret ?_
    refine Xx.tr ?_
    first | exact Xx.dropB b7 (Xx.rB1 rfl rfl ⟨congrArg str (uv_last (by omega)).symm, rfl⟩ (Frag.le_refl _) rfl) | exact Xx.dropB b13 (Xx.rB1 rfl rfl ⟨congrArg str (uvF_hi (by omega)).symm, rfl⟩ (Frag.le_refl _) rfl)
  · skip
    have z := h4
    refine Cx.skip ?_
    refine Xx.tn (k2 _ _ _ _ ?_)
    refine Cx.seq (fun K6 k6 => ?_)
    refine Cx.drawn (by kernel_rfl) ?_
    refine Dx.p (i := 0) rfl (by kernel_rfl) (mv rfl) rfl ?_
    refine Dx.p (i := 1) rfl (by kernel_rfl) (remW64 (b := 128#64) rfl rfl (by decide)) rfl ?_
    refine Dx.p (i := 2) rfl (by kernel_rfl) (addW64 (b := 128#64) rfl rfl) rfl ?_
    refine Dx.p (i := 3) rfl (by kernel_rfl) (cvI rfl Try.underlying98 Try.underlying5 (wrap_u8 _)) rfl ?_
    refine Dx.p (i := 6) rfl (by kernel_rfl) (mv rfl) rfl ?_
    refine Dx.p (i := 7) rfl (by kernel_rfl) (quoW64 (b := 128#64) rfl rfl (by decide)) rfl ?_
    refine Dx.two (i := 4) (j := 8) (by kernel_rfl) ?_ ?_
    · skip
      refine Dstep.o (i := 4) rfl (bsl1 Try.underlying94 ti5 rfl rfl rfl (by decide)) rfl (fun v B' H' hΦ hB => ?_)
      obtain ⟨b13, rfl, rfl, rfl⟩ := hΦ; clear hB
      refine ⟨JOk.top, ?_⟩
      refine Dx.r (i := 5) rfl (by kernel_rfl) (b2sR Try.underlying94 Try.underlying5 Try.underlying9 rfl (u8s_cons u8s_nil) rfl) rfl ?_
      refine Dx.one (i := 8) (by kernel_rfl) ?_
      refine Dstep.o (i := 8) rfl (Ox.cb rfl rfl rfl (ih (by omega))) rfl (fun v B' H' hΦ hB => ?_)
      obtain ⟨rfl, rfl, rfl⟩ := hΦ; clear hB
      refine ⟨JOk.yes (JOk.top) (b2sR Try.underlying94 Try.underlying5 Try.underlying9 rfl (u8s_cons u8s_nil) rfl), ?_⟩
      refine Dx.p (i := 9) rfl (by kernel_rfl) (catS rfl rfl (by first | omega | (simp <;> omega))) rfl ?_
      refine Dx.p (i := 10) rfl (by kernel_rfl) (asg rfl) rfl ?_
      refine Dx.done (by kernel_rfl) ?_
      refine Xx.tn (k6 _ _ _ _ ?_)
      refine Cx.ret ?_
      first | exact Xx.dropB b7 (Xx.rB1 rfl rfl ⟨congrArg str (uv_last (by omega)).symm, rfl⟩ (Frag.le_refl _) rfl) | exact Xx.dropB b13 (Xx.rB1 rfl rfl ⟨congrArg str (uvF_hi (by omega)).symm, rfl⟩ (Frag.le_refl _) rfl)
    · skip
      refine Dstep.o (i := 8) rfl (Ox.cb rfl rfl rfl (ih (by omega))) rfl (fun v B' H' hΦ hB => ?_)
      obtain ⟨rfl, rfl, rfl⟩ := hΦ; clear hB
      refine ⟨JOk.top, ?_⟩
      refine Dx.one (i := 4) (by kernel_rfl) ?_
      refine Dstep.o (i := 4) rfl (bsl1 Try.underlying94 ti5 rfl rfl rfl (by decide)) rfl (fun v B' H' hΦ hB => ?_)
      obtain ⟨b13, rfl, rfl, rfl⟩ := hΦ; clear hB
      refine ⟨JOk.top, ?_⟩
      refine Dx.r (i := 5) rfl (by kernel_rfl) (b2sR Try.underlying94 Try.underlying5 Try.underlying9 rfl (u8s_cons u8s_nil) rfl) rfl ?_
      refine Dx.p (i := 9) rfl (by kernel_rfl) (catS rfl rfl (by first | omega | (simp <;> omega))) rfl ?_
      refine Dx.p (i := 10) rfl (by kernel_rfl) (asg rfl) rfl ?_
      refine Dx.done (by kernel_rfl) ?_
      refine Xx.tn (k6 _ _ _ _ ?_)
      refine Cx.ret ?_
      first | exact Xx.dropB b7 (Xx.rB1 rfl rfl ⟨congrArg str (uv_last (by omega)).symm, rfl⟩ (Frag.le_refl _) rfl) | exact Xx.dropB b13 (Xx.rB1 rfl rfl ⟨congrArg str (uvF_hi (by omega)).symm, rfl⟩ (Frag.le_refl _) rfl)

theorem RUint_k : ∀ (k : Nat) (n : BitVec 64) (B : Frag), k ≤ 20 → n.toNat < 128 * 128 ^ k → CtP Try.prog 57 [u64 n] B (str (uvF k n)) := by
  intro k
  induction k with
  | zero =>
    intro n B _ hn
    have h := RUint_step 0 n B (by omega) (fun z => by omega)
    rw [uv_last (by omega)] at h
    exact h
  | succ k ih =>
    intro n B hk hn
    refine RUint_step k n B (by omega) (fun _ => ih _ B (by omega) ?_)
    rw [div128, BitVec.toNat_ushiftRight, Nat.shiftRight_eq_div_pow]
    rw [Nat.pow_succ] at hn
    omega
theorem RUint_ct (n : BitVec 64) (B : Frag) : CtP Try.prog 57 [u64 n] B (str (uvL n)) := RUint_k 10 n B (by decide) (Nat.lt_of_lt_of_le n.isLt (by decide))

set_option maxHeartbeats 1000000 in
theorem RBool_ct (b : Bool) (B : Frag) : CtP Try.prog 54 [.bool b] B (str (if b then [1] else [0])) := by
  refine CtB.of_body Try.func54 rfl (nt := 4) rfl (by kernel_rfl) rfl ?_
  intro N0 w0 R
  refine Cx.seq (fun K1 k1 => ?_)
  refine Cx.region ?_
  refine Lx.y (asg rfl) rfl ?_
  refine Lx.nil ?_
  refine Xx.tn (k1 _ _ _ _ ?_)
  refine Cx.seq (fun K2 k2 => ?_)
  refine Cx.seq (fun K3 k3 => ?_)
  refine Cx.region ?_
  refine Lx.y (mv rfl) rfl ?_
  refine Lx.nil ?_
  refine Xx.tn (k3 _ _ _ _ ?_)
  refine Cx.condB rfl (fun h4 => ?_) (fun h4 => ?_)
  · skip
    have z := h4
    refine Cx.seq (fun K5 k5 => ?_)
    refine Cx.region ?_
    refine Lx.y (asg rfl) rfl ?_
    refine Lx.nil ?_
    refine Xx.tn (k5 _ _ _ _ ?_)
    refine Cx.ret ?_
    refine Xx.tr ?_
    exact Xx.rB1 rfl rfl ⟨by rw [z]; rfl, rfl⟩ (Frag.le_refl _) rfl
  · skip
    have z := h4
    refine Cx.skip ?_
    refine Xx.tn (k2 _ _ _ _ ?_)
    refine Cx.seq (fun K6 k6 => ?_)
    refine Cx.region ?_
    refine Lx.y (asg rfl) rfl ?_
    refine Lx.nil ?_
    refine Xx.tn (k6 _ _ _ _ ?_)
    refine Cx.ret ?_
    exact Xx.rB1 rfl rfl ⟨by rw [z]; rfl, rfl⟩ (Frag.le_refl _) rfl

set_option maxHeartbeats 1000000 in
theorem RInt_ct (n : Int) (B : Frag) (h1 : -9223372036854775808 ≤ n) (h2 : n ≤ 9223372036854775807) : CtP Try.prog 55 [i64 n] B (str (intL n)) := by
  refine CtB.of_body Try.func55 rfl (nt := 16) rfl (by kernel_rfl) rfl ?_
  intro N0 w0 R
  refine Cx.seq (fun K1 k1 => ?_)
  refine Cx.region ?_
  refine Lx.y (asg rfl) rfl ?_
  refine Lx.nil ?_
  refine Xx.tn (k1 _ _ _ _ ?_)
  refine Cx.seq (fun K2 k2 => ?_)
  refine Cx.seq (fun K3 k3 => ?_)
  refine Cx.region ?_
  refine Lx.y (mv rfl) rfl ?_
  refine Lx.y (lss rfl rfl) rfl ?_
  refine Lx.nil ?_
  refine Xx.tn (k3 _ _ _ _ ?_)
  refine Cx.condD rfl (fun h4 => ?_) (fun h4 => ?_)
  · skip
    have z := h4
    refine Cx.seq (fun K5 k5 => ?_)
    refine Cx.region ?_
    refine Lx.y (mv rfl) rfl ?_
    refine Lx.y (add rfl rfl (by first | exact wrap64 (by omega) (by omega) | rfl)) rfl ?_
    refine Lx.y (neg rfl (show IntKind.i64.wrap (0 - (n + 1)) = -(n + 1) by rw [wrap64 (by omega) (by omega)]; omega)) rfl ?_
    refine Lx.y (cvW64 rfl Try.underlying2 Try.underlying98) rfl ?_
    refine Lx.y (mulW64 (b := 2#64) rfl rfl) rfl ?_
    refine Lx.y (addW64 (b := 1#64) rfl rfl) rfl ?_
    refine Lx.cp rfl rfl rfl (RUint_ct _ _) rfl ?_
    refine Lx.y (asg rfl) rfl ?_
    refine Lx.nil ?_
    refine Xx.tn (k5 _ _ _ _ ?_)
    refine Cx.ret ?_
    refine Xx.tr ?_
    first | exact Xx.rB1 rfl rfl ⟨congrArg (fun z => str (uvL z)) (int_neg (by omega) (by omega)), rfl⟩ (Frag.le_refl _) rfl | exact Xx.rB1 rfl rfl ⟨congrArg (fun z => str (uvL z)) (int_pos (by omega) (by omega)), rfl⟩ (Frag.le_refl _) rfl
  · skip
    have z := h4
    refine Cx.skip ?_
    refine Xx.tn (k2 _ _ _ _ ?_)
    refine Cx.seq (fun K6 k6 => ?_)
    refine Cx.region ?_
    refine Lx.y (mv rfl) rfl ?_
    refine Lx.y (cvW64 rfl Try.underlying2 Try.underlying98) rfl ?_
    refine Lx.y (mulW64 (b := 2#64) rfl rfl) rfl ?_
    refine Lx.cp rfl rfl rfl (RUint_ct _ _) rfl ?_
    refine Lx.y (asg rfl) rfl ?_
    refine Lx.nil ?_
    refine Xx.tn (k6 _ _ _ _ ?_)
    refine Cx.ret ?_
    first | exact Xx.rB1 rfl rfl ⟨congrArg (fun z => str (uvL z)) (int_neg (by omega) (by omega)), rfl⟩ (Frag.le_refl _) rfl | exact Xx.rB1 rfl rfl ⟨congrArg (fun z => str (uvL z)) (int_pos (by omega) (by omega)), rfl⟩ (Frag.le_refl _) rfl

set_option maxHeartbeats 1000000 in
theorem RText_ct (s : List UInt8) (B : Frag) (hs : s.length ≤ 4611686018427387904) : CtP Try.prog 56 [str s] B (str (txtL s)) := by
  have hu : (uvL (BitVec.ofInt 64 (s.length : Nat))).length ≤ 11 := uvF_len 10 _
  refine CtB.of_body Try.func56 rfl (nt := 9) rfl (by kernel_rfl) rfl ?_
  intro N0 w0 R
  refine Cx.seq (fun K1 k1 => ?_)
  refine Cx.region ?_
  refine Lx.y (asg rfl) rfl ?_
  refine Lx.nil ?_
  refine Xx.tn (k1 _ _ _ _ ?_)
  refine Cx.seq (fun K2 k2 => ?_)
  refine Cx.region ?_
  refine Lx.y (mv rfl) rfl ?_
  refine Lx.y (lenS Try.underlying9 rfl) rfl ?_
  refine Lx.y (cvW64 rfl Try.underlying3 Try.underlying98) rfl ?_
  refine Lx.cp rfl rfl rfl (RUint_ct _ _) rfl ?_
  refine Lx.y (mv rfl) rfl ?_
  refine Lx.y (catS rfl rfl (by first | omega | (simp <;> omega))) rfl ?_
  refine Lx.y (asg rfl) rfl ?_
  refine Lx.nil ?_
  refine Xx.tn (k2 _ _ _ _ ?_)
  refine Cx.ret ?_
  exact Xx.rB1 rfl rfl ⟨rfl, rfl⟩ (Frag.le_refl _) rfl

set_option maxHeartbeats 1000000 in
theorem RName_ct (s : List UInt8) (B : Frag) (hs : s.length ≤ 4611686018427387904) : CtP Try.prog 83 [str s] B (.bool (nameB s)) := by
  refine CtB.of_body Try.func83 rfl (nt := 58) rfl (by kernel_rfl) rfl ?_
  intro N0 w0 R
  refine Cx.seq (fun K1 k1 => ?_)
  refine Cx.region ?_
  refine Lx.y (asg rfl) rfl ?_
  refine Lx.nil ?_
  refine Xx.tn (k1 _ _ _ _ ?_)
  refine Cx.seq (fun K2 k2 => ?_)
  refine Cx.seq (fun K3 k3 => ?_)
  refine Cx.region ?_
  refine Lx.y (asg rfl) rfl ?_
  refine Lx.nil ?_
  refine Xx.tn (k3 _ _ _ _ ?_)
  refine Cx.block ?_
  refine Cx.loopK (Sub.cons (s := 0) rfl (Sub.nil _)) (fun m ρ' B' H' => ∃ (i : Nat), (i ≤ s.length ∧ ∀ k, k < i → okAt s k) ∧ m = s.length - i ∧ ρ' = [(3, i64 i)] ∧ B = B' ∧ R = H') ⟨0, ⟨by omega, fun k h => absurd h (by omega)⟩, rfl, rfl, rfl, rfl⟩ (Sub.cons (s := 3) rfl (Sub.cons (s := 0) rfl (Sub.nil _))) ?_
  rintro m ρ' B' H' ⟨i, ⟨hi, hall⟩, rfl, rfl, rfl, rfl⟩
  refine Cx.seq (fun K4 k4 => ?_)
  refine Cx.seq (fun K5 k5 => ?_)
  refine Cx.region ?_
  refine Lx.y (mv rfl) rfl ?_
  refine Lx.y (mv rfl) rfl ?_
  refine Lx.y (lenS Try.underlying9 rfl) rfl ?_
  refine Lx.y (lss rfl rfl) rfl ?_
  refine Lx.nil ?_
  refine Xx.tn (k5 _ _ _ _ ?_)
  refine Cx.condD rfl (fun h6 => ?_) (fun h6 => ?_)
  · skip
    have hil : i < s.length := by omega
    refine Cx.skip ?_
    refine Xx.tn (k4 _ _ _ _ ?_)
    refine Cx.seq (fun K7 k7 => ?_)
    refine Cx.block ?_
    refine Cx.seq (fun K8 k8 => ?_)
    refine Cx.region ?_
    refine Lx.y (mv rfl) rfl ?_
    refine Lx.y (mv rfl) rfl ?_
    refine Lx.y (ixS Try.underlying9 rfl rfl (by first | exact Int.toNat_natCast _ | rfl) (by omega) (by omega)) rfl ?_
    refine Lx.y (asg rfl) rfl ?_
    refine Lx.nil ?_
    refine Xx.tn (k8 _ _ _ _ ?_)
    refine Cx.cutK (ds' := []) (Sub.cons (s := 0) rfl (Sub.cons (s := 3) rfl (Sub.cons (s := 4) rfl (Sub.cons (s := 7) rfl (Sub.cons (s := 8) rfl (Sub.cons (s := 9) rfl (Sub.cons (s := 10) rfl (Sub.cons (s := 13) rfl (Sub.cons (s := 14) rfl (Sub.cons (s := 15) rfl (Sub.nil _))))))))))) (fun ρ' B' H' => ρ' = [(5, .bool (decide (LP (s.getD i 0))))] ∧ B = B' ∧ R = H') ?_ ?_
    · skip
      refine Cx.region ?_
      refine Lx.y (mv rfl) rfl ?_
      refine Lx.y (eqI rfl rfl) rfl ?_
      refine Lx.y (mv rfl) rfl ?_
      refine Xx.ifD (t := 18) rfl (fun h9 => ?_) (fun h9 => ?_)
      · skip
        refine Lx.gF rfl rfl rfl rfl ?_
        refine Lx.gF rfl rfl rfl rfl ?_
        refine Lx.gF rfl rfl rfl rfl ?_
        refine Lx.gU rfl rfl rfl rfl ?_
        refine Lx.gU rfl rfl rfl rfl ?_
        refine Lx.gF rfl rfl rfl rfl ?_
        refine Lx.y (pickT rfl rfl) rfl ?_
        refine Lx.y (mv rfl) rfl ?_
        refine Lx.gF rfl rfl rfl rfl ?_
        refine Lx.gF rfl rfl rfl rfl ?_
        refine Lx.gF rfl rfl rfl rfl ?_
        refine Lx.gU rfl rfl rfl rfl ?_
        refine Lx.gU rfl rfl rfl rfl ?_
        refine Lx.gF rfl rfl rfl rfl ?_
        refine Lx.y (pickT rfl rfl) rfl ?_
        refine Lx.y (asg rfl) rfl ?_
        refine Lx.nil ?_
        exact Xx.mkK (⟨rfl, rfl, rfl⟩) (Sub.consE (s := 5) rfl (by first | exact congrArg Value.bool (decide_eq_true (by omega)).symm | exact congrArg Value.bool (decide_eq_false (by omega)).symm | exact congrArg Value.bool (decide_eq_decide.2 (by omega))) (Sub.cons (s := 0) rfl (Sub.cons (s := 3) rfl (Sub.cons (s := 4) rfl (Sub.cons (s := 7) rfl (Sub.cons (s := 8) rfl (Sub.cons (s := 9) rfl (Sub.cons (s := 10) rfl (Sub.cons (s := 13) rfl (Sub.cons (s := 14) rfl (Sub.cons (s := 15) rfl (Sub.nil _))))))))))))
      · skip
        refine Lx.gT rfl rfl rfl ?_
        refine Lx.y (mv rfl) rfl ?_
        refine Lx.gT rfl rfl rfl ?_
        refine Lx.y (geq rfl rfl) rfl ?_
        refine Lx.gT rfl rfl rfl ?_
        refine Lx.y (mv rfl) rfl ?_
        refine Xx.ifD (t := 21) rfl (fun h10 => ?_) (fun h10 => ?_)
        · skip
          refine Lx.gT rfl rfl rfl ?_
          refine Lx.y (mv rfl) rfl ?_
          refine Lx.gT rfl rfl rfl ?_
          refine Lx.y (leq rfl rfl) rfl ?_
          refine Lx.gT rfl rfl rfl ?_
          refine Lx.y (pickT rfl rfl) rfl ?_
          refine Lx.y (pickF rfl rfl) rfl ?_
          refine Lx.y (mv rfl) rfl ?_
          refine Xx.ifD (t := 26) rfl (fun h11 => ?_) (fun h11 => ?_)
          · skip
            refine Lx.gF rfl rfl rfl rfl ?_
            refine Lx.gF rfl rfl rfl rfl ?_
            refine Lx.gF rfl rfl rfl rfl ?_
            refine Lx.gU rfl rfl rfl rfl ?_
            refine Lx.gU rfl rfl rfl rfl ?_
            refine Lx.gF rfl rfl rfl rfl ?_
            refine Lx.y (pickT rfl rfl) rfl ?_
            refine Lx.y (asg rfl) rfl ?_
            refine Lx.nil ?_
            exact Xx.mkK (⟨rfl, rfl, rfl⟩) (Sub.consE (s := 5) rfl (by first | exact congrArg Value.bool (decide_eq_true (by omega)).symm | exact congrArg Value.bool (decide_eq_false (by omega)).symm | exact congrArg Value.bool (decide_eq_decide.2 (by omega))) (Sub.cons (s := 0) rfl (Sub.cons (s := 3) rfl (Sub.cons (s := 4) rfl (Sub.cons (s := 7) rfl (Sub.cons (s := 8) rfl (Sub.cons (s := 9) rfl (Sub.cons (s := 10) rfl (Sub.cons (s := 13) rfl (Sub.cons (s := 14) rfl (Sub.cons (s := 15) rfl (Sub.nil _))))))))))))
          · skip
            refine Lx.gT rfl rfl rfl ?_
            refine Lx.y (mv rfl) rfl ?_
            refine Lx.gT rfl rfl rfl ?_
            refine Lx.y (geq rfl rfl) rfl ?_
            refine Lx.gT rfl rfl rfl ?_
            refine Lx.y (mv rfl) rfl ?_
            refine Xx.ifD (t := 29) rfl (fun h12 => ?_) (fun h12 => ?_)
            · skip
              refine Lx.gT rfl rfl rfl ?_
              refine Lx.y (mv rfl) rfl ?_
              refine Lx.gT rfl rfl rfl ?_
              refine Lx.y (leq rfl rfl) rfl ?_
              refine Lx.gT rfl rfl rfl ?_
              refine Lx.y (pickT rfl rfl) rfl ?_
              refine Lx.y (pickF rfl rfl) rfl ?_
              refine Lx.y (asg rfl) rfl ?_
              refine Lx.nil ?_
              exact Xx.mkK (⟨rfl, rfl, rfl⟩) (Sub.consE (s := 5) rfl (by first | exact congrArg Value.bool (decide_eq_true (by omega)).symm | exact congrArg Value.bool (decide_eq_false (by omega)).symm | exact congrArg Value.bool (decide_eq_decide.2 (by omega))) (Sub.cons (s := 0) rfl (Sub.cons (s := 3) rfl (Sub.cons (s := 4) rfl (Sub.cons (s := 7) rfl (Sub.cons (s := 8) rfl (Sub.cons (s := 9) rfl (Sub.cons (s := 10) rfl (Sub.cons (s := 13) rfl (Sub.cons (s := 14) rfl (Sub.cons (s := 15) rfl (Sub.nil _))))))))))))
            · skip
              refine Lx.gF rfl rfl rfl rfl ?_
              refine Lx.gF rfl rfl rfl rfl ?_
              refine Lx.gT rfl rfl rfl ?_
              refine Lx.y (pickF rfl rfl) rfl ?_
              refine Lx.y (pickF rfl rfl) rfl ?_
              refine Lx.y (asg rfl) rfl ?_
              refine Lx.nil ?_
              exact Xx.mkK (⟨rfl, rfl, rfl⟩) (Sub.consE (s := 5) rfl (by first | exact congrArg Value.bool (decide_eq_true (by omega)).symm | exact congrArg Value.bool (decide_eq_false (by omega)).symm | exact congrArg Value.bool (decide_eq_decide.2 (by omega))) (Sub.cons (s := 0) rfl (Sub.cons (s := 3) rfl (Sub.cons (s := 4) rfl (Sub.cons (s := 7) rfl (Sub.cons (s := 8) rfl (Sub.cons (s := 9) rfl (Sub.cons (s := 10) rfl (Sub.cons (s := 13) rfl (Sub.cons (s := 14) rfl (Sub.cons (s := 15) rfl (Sub.nil _))))))))))))
        · skip
          refine Lx.gF rfl rfl rfl rfl ?_
          refine Lx.gF rfl rfl rfl rfl ?_
          refine Lx.gT rfl rfl rfl ?_
          refine Lx.y (pickF rfl rfl) rfl ?_
          refine Lx.y (pickF rfl rfl) rfl ?_
          refine Lx.y (mv rfl) rfl ?_
          refine Lx.gT rfl rfl rfl ?_
          refine Lx.y (mv rfl) rfl ?_
          refine Lx.gT rfl rfl rfl ?_
          refine Lx.y (geq rfl rfl) rfl ?_
          refine Lx.gT rfl rfl rfl ?_
          refine Lx.y (mv rfl) rfl ?_
          refine Xx.ifD (t := 29) rfl (fun h13 => ?_) (fun h13 => ?_)
          · skip
            refine Lx.gT rfl rfl rfl ?_
            refine Lx.y (mv rfl) rfl ?_
            refine Lx.gT rfl rfl rfl ?_
            refine Lx.y (leq rfl rfl) rfl ?_
            refine Lx.gT rfl rfl rfl ?_
            refine Lx.y (pickT rfl rfl) rfl ?_
            refine Lx.y (pickF rfl rfl) rfl ?_
            refine Lx.y (asg rfl) rfl ?_
            refine Lx.nil ?_
            exact Xx.mkK (⟨rfl, rfl, rfl⟩) (Sub.consE (s := 5) rfl (by first | exact congrArg Value.bool (decide_eq_true (by omega)).symm | exact congrArg Value.bool (decide_eq_false (by omega)).symm | exact congrArg Value.bool (decide_eq_decide.2 (by omega))) (Sub.cons (s := 0) rfl (Sub.cons (s := 3) rfl (Sub.cons (s := 4) rfl (Sub.cons (s := 7) rfl (Sub.cons (s := 8) rfl (Sub.cons (s := 9) rfl (Sub.cons (s := 10) rfl (Sub.cons (s := 13) rfl (Sub.cons (s := 14) rfl (Sub.cons (s := 15) rfl (Sub.nil _))))))))))))
          · skip
            refine Lx.gF rfl rfl rfl rfl ?_
            refine Lx.gF rfl rfl rfl rfl ?_
            refine Lx.gT rfl rfl rfl ?_
            refine Lx.y (pickF rfl rfl) rfl ?_
            refine Lx.y (pickF rfl rfl) rfl ?_
            refine Lx.y (asg rfl) rfl ?_
            refine Lx.nil ?_
            exact Xx.mkK (⟨rfl, rfl, rfl⟩) (Sub.consE (s := 5) rfl (by first | exact congrArg Value.bool (decide_eq_true (by omega)).symm | exact congrArg Value.bool (decide_eq_false (by omega)).symm | exact congrArg Value.bool (decide_eq_decide.2 (by omega))) (Sub.cons (s := 0) rfl (Sub.cons (s := 3) rfl (Sub.cons (s := 4) rfl (Sub.cons (s := 7) rfl (Sub.cons (s := 8) rfl (Sub.cons (s := 9) rfl (Sub.cons (s := 10) rfl (Sub.cons (s := 13) rfl (Sub.cons (s := 14) rfl (Sub.cons (s := 15) rfl (Sub.nil _))))))))))))
    · rintro ρ' B' H' ⟨rfl, rfl, rfl⟩
      refine Cx.cutK (ds' := []) (Sub.cons (s := 0) rfl (Sub.cons (s := 3) rfl (Sub.cons (s := 4) rfl (Sub.cons (s := 5) rfl (Sub.cons (s := 7) rfl (Sub.cons (s := 8) rfl (Sub.cons (s := 9) rfl (Sub.cons (s := 10) rfl (Sub.cons (s := 13) rfl (Sub.cons (s := 14) rfl (Sub.cons (s := 15) rfl (Sub.nil _)))))))))))) (fun ρ' B' H' => ρ' = [(6, .bool (decide (48 ≤ (s.getD i 0).toNat ∧ (s.getD i 0).toNat ≤ 57)))] ∧ B = B' ∧ R = H') ?_ ?_
      · skip
        refine Cx.region ?_
        refine Lx.y (mv rfl) rfl ?_
        refine Lx.y (geq rfl rfl) rfl ?_
        refine Lx.y (mv rfl) rfl ?_
        refine Xx.ifD (t := 36) rfl (fun h14 => ?_) (fun h14 => ?_)
        · skip
          refine Lx.gT rfl rfl rfl ?_
          refine Lx.y (mv rfl) rfl ?_
          refine Lx.gT rfl rfl rfl ?_
          refine Lx.y (leq rfl rfl) rfl ?_
          refine Lx.y (pickT rfl rfl) rfl ?_
          refine Lx.y (asg rfl) rfl ?_
          refine Lx.nil ?_
          exact Xx.mkK (⟨rfl, rfl, rfl⟩) (Sub.consE (s := 6) rfl (by first | exact congrArg Value.bool (decide_eq_true (by omega)).symm | exact congrArg Value.bool (decide_eq_false (by omega)).symm | exact congrArg Value.bool (decide_eq_decide.2 (by omega))) (Sub.cons (s := 0) rfl (Sub.cons (s := 3) rfl (Sub.cons (s := 4) rfl (Sub.cons (s := 5) rfl (Sub.cons (s := 7) rfl (Sub.cons (s := 8) rfl (Sub.cons (s := 9) rfl (Sub.cons (s := 10) rfl (Sub.cons (s := 13) rfl (Sub.cons (s := 14) rfl (Sub.cons (s := 15) rfl (Sub.nil _)))))))))))))
        · skip
          refine Lx.gF rfl rfl rfl rfl ?_
          refine Lx.gF rfl rfl rfl rfl ?_
          refine Lx.y (pickF rfl rfl) rfl ?_
          refine Lx.y (asg rfl) rfl ?_
          refine Lx.nil ?_
          exact Xx.mkK (⟨rfl, rfl, rfl⟩) (Sub.consE (s := 6) rfl (by first | exact congrArg Value.bool (decide_eq_true (by omega)).symm | exact congrArg Value.bool (decide_eq_false (by omega)).symm | exact congrArg Value.bool (decide_eq_decide.2 (by omega))) (Sub.cons (s := 0) rfl (Sub.cons (s := 3) rfl (Sub.cons (s := 4) rfl (Sub.cons (s := 5) rfl (Sub.cons (s := 7) rfl (Sub.cons (s := 8) rfl (Sub.cons (s := 9) rfl (Sub.cons (s := 10) rfl (Sub.cons (s := 13) rfl (Sub.cons (s := 14) rfl (Sub.cons (s := 15) rfl (Sub.nil _)))))))))))))
      · rintro ρ' B' H' ⟨rfl, rfl, rfl⟩
        refine Cx.seq (fun K15 k15 => ?_)
        refine Cx.region ?_
        refine Lx.y (mv rfl) rfl ?_
        refine Lx.y (not' rfl) rfl ?_
        refine Lx.y (mv rfl) rfl ?_
        refine Xx.ifN (t := 42) rfl (fun h16 => ?_) (fun h16 => ?_)
        · skip
          refine Lx.gT rfl rfl rfl ?_
          refine Lx.y (mv rfl) rfl ?_
          refine Lx.gT rfl rfl rfl ?_
          refine Lx.y (not' rfl) rfl ?_
          refine Lx.gT rfl rfl rfl ?_
          refine Lx.y (mv rfl) rfl ?_
          refine Xx.ifN (t := 45) rfl (fun h17 => ?_) (fun h17 => ?_)
          · skip
            refine Lx.gF rfl rfl rfl rfl ?_
            refine Lx.gF rfl rfl rfl rfl ?_
            refine Lx.gT rfl rfl rfl ?_
            refine Lx.y (pickT rfl rfl) rfl ?_
            refine Lx.y (pickT rfl rfl) rfl ?_
            refine Lx.nil ?_
            refine Xx.tn (k15 _ _ _ _ ?_)
            refine Cx.condT rfl ?_
            refine Cx.seq (fun K18 k18 => ?_)
            refine Cx.region ?_
            refine Lx.y (asg rfl) rfl ?_
            refine Lx.nil ?_
            refine Xx.tn (k18 _ _ _ _ ?_)
            refine Cx.ret ?_
            refine Xx.br ?_
            refine Xx.tr ?_
            refine Xx.tr ?_
            refine Xx.br ?_
            refine Xx.tr ?_
            first | exact Xx.rB1 rfl rfl ⟨congrArg Value.bool (nameB_no (fun h => by have := h.1 i hil; unfold okAt at this; omega)).symm, rfl⟩ (Frag.le_refl _) rfl | exact Xx.rB1 rfl rfl ⟨congrArg Value.bool (nameB_len2 hall (by omega)), rfl⟩ (Frag.le_refl _) rfl | exact Xx.rB1 rfl rfl ⟨congrArg Value.bool (nameB_no (fun h => by have := h.2.1; omega)).symm, rfl⟩ (Frag.le_refl _) rfl
          · skip
            refine Lx.gT rfl rfl rfl ?_
            refine Lx.y (mv rfl) rfl ?_
            refine Lx.gT rfl rfl rfl ?_
            refine Lx.y (eqI rfl rfl) rfl ?_
            refine Lx.gT rfl rfl rfl ?_
            refine Lx.y (pickF rfl rfl) rfl ?_
            refine Lx.y (pickT rfl rfl) rfl ?_
            refine Lx.nil ?_
            refine Xx.tn (k15 _ _ _ _ ?_)
            refine Cx.condD rfl (fun h19 => ?_) (fun h19 => ?_)
            · skip
              refine Cx.seq (fun K20 k20 => ?_)
              refine Cx.region ?_
              refine Lx.y (asg rfl) rfl ?_
              refine Lx.nil ?_
              refine Xx.tn (k20 _ _ _ _ ?_)
              refine Cx.ret ?_
              refine Xx.br ?_
              refine Xx.tr ?_
              refine Xx.tr ?_
              refine Xx.br ?_
              refine Xx.tr ?_
              first | exact Xx.rB1 rfl rfl ⟨congrArg Value.bool (nameB_no (fun h => by have := h.1 i hil; unfold okAt at this; omega)).symm, rfl⟩ (Frag.le_refl _) rfl | exact Xx.rB1 rfl rfl ⟨congrArg Value.bool (nameB_len2 hall (by omega)), rfl⟩ (Frag.le_refl _) rfl | exact Xx.rB1 rfl rfl ⟨congrArg Value.bool (nameB_no (fun h => by have := h.2.1; omega)).symm, rfl⟩ (Frag.le_refl _) rfl
            · skip
              refine Cx.skip ?_
              refine Xx.bn ?_
              refine Xx.tn (k7 _ _ _ _ ?_)
              refine Cx.region ?_
              refine Lx.y (mv rfl) rfl ?_
              refine Lx.y (add rfl rfl (by first | exact wrap64 (by omega) (by omega) | rfl)) rfl ?_
              refine Lx.y (asg rfl) rfl ?_
              refine Lx.nil ?_
              exact Xx.againK ⟨i + 1, ⟨by omega, fun k hk => by
  by_cases e : k = i
  · subst e; unfold okAt; omega
  · exact hall k (by omega)⟩, rfl, rfl, rfl, rfl⟩ (by omega) (Sub.cons (s := 3) rfl (Sub.cons (s := 0) rfl (Sub.nil _)))
        · skip
          refine Lx.gF rfl rfl rfl rfl ?_
          refine Lx.gF rfl rfl rfl rfl ?_
          refine Lx.gF rfl rfl rfl rfl ?_
          refine Lx.gU rfl rfl rfl rfl ?_
          refine Lx.gU rfl rfl rfl rfl ?_
          refine Lx.gF rfl rfl rfl rfl ?_
          refine Lx.y (pickF rfl rfl) rfl ?_
          refine Lx.nil ?_
          refine Xx.tn (k15 _ _ _ _ ?_)
          refine Cx.condF rfl ?_
          refine Cx.skip ?_
          refine Xx.bn ?_
          refine Xx.tn (k7 _ _ _ _ ?_)
          refine Cx.region ?_
          refine Lx.y (mv rfl) rfl ?_
          refine Lx.y (add rfl rfl (by first | exact wrap64 (by omega) (by omega) | rfl)) rfl ?_
          refine Lx.y (asg rfl) rfl ?_
          refine Lx.nil ?_
          exact Xx.againK ⟨i + 1, ⟨by omega, fun k hk => by
  by_cases e : k = i
  · subst e; unfold okAt; omega
  · exact hall k (by omega)⟩, rfl, rfl, rfl, rfl⟩ (by omega) (Sub.cons (s := 3) rfl (Sub.cons (s := 0) rfl (Sub.nil _)))
  · skip
    obtain rfl : i = s.length := by omega
    refine Cx.exit ?_
    refine Xx.te ?_
    refine Xx.te ?_
    refine Xx.bh ?_
    refine Xx.tn (k2 _ _ _ _ ?_)
    refine Cx.seq (fun K21 k21 => ?_)
    refine Cx.region ?_
    refine Lx.y (mv rfl) rfl ?_
    refine Lx.y (lenS Try.underlying9 rfl) rfl ?_
    refine Lx.y (gtr rfl rfl) rfl ?_
    refine Lx.y (mv rfl) rfl ?_
    refine Xx.ifD (t := 53) rfl (fun h22 => ?_) (fun h22 => ?_)
    · skip
      refine Lx.gT rfl rfl rfl ?_
      refine Lx.y (mv rfl) rfl ?_
      refine Lx.gT rfl rfl rfl ?_
      refine Lx.y (lenS Try.underlying9 rfl) rfl ?_
      refine Lx.gT rfl rfl rfl ?_
      refine Lx.y (lss rfl rfl) rfl ?_
      refine Lx.y (pickT rfl rfl) rfl ?_
      refine Lx.y (asg rfl) rfl ?_
      refine Lx.nil ?_
      refine Xx.tn (k21 _ _ _ _ ?_)
      refine Cx.ret ?_
      first | exact Xx.rB1 rfl rfl ⟨congrArg Value.bool (nameB_no (fun h => by have := h.1 i hil; unfold okAt at this; omega)).symm, rfl⟩ (Frag.le_refl _) rfl | exact Xx.rB1 rfl rfl ⟨congrArg Value.bool (nameB_len2 hall (by omega)), rfl⟩ (Frag.le_refl _) rfl | exact Xx.rB1 rfl rfl ⟨congrArg Value.bool (nameB_no (fun h => by have := h.2.1; omega)).symm, rfl⟩ (Frag.le_refl _) rfl
    · skip
      refine Lx.gF rfl rfl rfl rfl ?_
      refine Lx.gF rfl rfl rfl rfl ?_
      refine Lx.gF rfl rfl rfl rfl ?_
      refine Lx.y (pickF rfl rfl) rfl ?_
      refine Lx.y (asg rfl) rfl ?_
      refine Lx.nil ?_
      refine Xx.tn (k21 _ _ _ _ ?_)
      refine Cx.ret ?_
      first | exact Xx.rB1 rfl rfl ⟨congrArg Value.bool (nameB_no (fun h => by have := h.1 i hil; unfold okAt at this; omega)).symm, rfl⟩ (Frag.le_refl _) rfl | exact Xx.rB1 rfl rfl ⟨congrArg Value.bool (nameB_len2 hall (by omega)), rfl⟩ (Frag.le_refl _) rfl | exact Xx.rB1 rfl rfl ⟨congrArg Value.bool (nameB_no (fun h => by have := h.2.1; omega)).symm, rfl⟩ (Frag.le_refl _) rfl

def badP (v : V) : Prop := v.kind < 0 ∨ 6 < v.kind ∨ ¬ BareP v
instance (v : V) : Decidable (badP v) := by unfold badP; infer_instance
theorem namesB_six_no {v : V} (hk : v.kind = 6) (h : v.names.length ≠ v.parts.length) : namesB v = false := namesB_no fun z => h (z.2 hk)
theorem namesB_six_yes {v : V} (h : ∀ i, i < v.names.length → nOk v.names i) (hl : v.names.length = v.parts.length) : namesB v = true := namesB_yes ⟨h, fun _ => hl⟩
theorem namesB_bare {v : V} (h : ¬ badP v) (hk : ¬ v.kind = 6) : namesB v = true := by
  have hb : BareP v := Classical.byContradiction fun z => h (.inr (.inr z))
  have h0 : v.names.length = 0 := hb.2.2.2.2.resolve_left hk
  exact namesB_yes ⟨fun i hi => absurd hi (by omega), fun z => absurd z hk⟩

set_option maxHeartbeats 4000000 in
theorem shape_step (d : Nat) (ih : ∀ (v : V) (cs : List Value) (deep : Int) (B : Frag), ValR B d v cs → 0 ≤ deep → deep ≤ 100 → CtP Try.prog 49 [.agg cs.toArray, i64 deep] B (i64 (checkF d v deep))) (v : V) (cs : List Value) (deep : Int) (B : Frag) (h : ValR B (d + 1) v cs) (h0 : 0 ≤ deep) (h1 : deep ≤ 100) : CtP Try.prog 49 [.agg cs.toArray, i64 deep] B (i64 (checkF (d + 1) v deep)) := by
  obtain ⟨Ap, cp, An, cn, rfl, ⟨hsl, hn1, hn2, hcn, hcp⟩, hpl, hnl, hns, hnx, hps⟩ := h
  refine CtB.of_body Try.func49 rfl (nt := 132) rfl (by kernel_rfl) rfl ?_
  intro N0 w0 R
  refine Cx.seq (fun K1 k1 => ?_)
  refine Cx.region ?_
  refine Lx.new (boxA rfl) rfl (fun b2 => ?_)
  refine Lx.y (asg rfl) rfl ?_
  refine Lx.nil ?_
  refine Xx.tn (k1 _ _ _ _ ?_)
  refine Cx.seq (fun K2 k2 => ?_)
  refine Cx.seq (fun K3 k3 => ?_)
  refine Cx.region ?_
  refine Lx.y (mv rfl) rfl ?_
  refine Lx.y (gtr rfl rfl) rfl ?_
  refine Lx.nil ?_
  refine Xx.tn (k3 _ _ _ _ ?_)
  refine Cx.condD rfl (fun h4 => ?_) (fun h4 => ?_)
  · skip
    have z0 := h4
    refine Cx.seq (fun K5 k5 => ?_)
    refine Cx.region ?_
    refine Lx.y (asg rfl) rfl ?_
    refine Lx.nil ?_
    refine Xx.tn (k5 _ _ _ _ ?_)
    refine Cx.ret ?_
    refine Xx.tr ?_
    refine Xx.dropB b2 (Xx.rB1 rfl rfl ⟨congrArg (fun z : Int => i64 z) ?_, rfl⟩ (Frag.le_refl _) rfl)
    first | exact (chk1 (by omega)).symm | exact (chk2 (by omega) z1).symm | exact (chk3 (by omega) z1 (by omega)).symm | exact (chk4 (by omega) z1 (by omega) (namesB_no fun z => hno (z.1 i hil))).symm | exact (chk4 (by omega) z1 (by omega) (namesB_six_no z3 (by omega))).symm | exact (chk5 (by omega) z1 (by omega) hnb hil hall hze).symm | exact (chk6 (by omega) z1 (by omega) hnb (fun k hk => hall k hk hk)).symm
  · skip
    have z0 := h4
    refine Cx.skip ?_
    refine Xx.tn (k2 _ _ _ _ ?_)
    refine Cx.seq (fun K6 k6 => ?_)
    refine Cx.region ?_
    refine Lx.y (fa' fo53_0 rfl) rfl ?_
    refine Lx.y (ld Try.underlying3 rfl rfl rfl) rfl ?_
    refine Lx.y (asg rfl) rfl ?_
    refine Lx.nil ?_
    refine Xx.tn (k6 _ _ _ _ ?_)
    refine Cx.seq (fun K7 k7 => ?_)
    refine Cx.cutK (ds' := []) (Sub.cons (s := 0) rfl (Sub.cons (s := 1) rfl (Sub.cons (s := 2) rfl (Sub.cons (s := 4) rfl (Sub.cons (s := 5) rfl (Sub.cons (s := 9) rfl (Sub.cons (s := 10) rfl (Sub.cons (s := 11) rfl (Sub.cons (s := 12) rfl (Sub.nil _)))))))))) (fun ρ' B' H' => ρ' = [(68, .bool (decide (badP v)))] ∧ B = B' ∧ row b2 53 (vcs v Ap cp An cn) * R = H') ?_ ?_
    · skip
      refine Cx.region ?_
      refine Lx.y (mv rfl) rfl ?_
      refine Lx.y (lss rfl rfl) rfl ?_
      refine Lx.y (mv rfl) rfl ?_
      refine Xx.ifD (t := 15) rfl (fun h8 => ?_) (fun h8 => ?_)
      · skip
        refine Lx.gF rfl rfl rfl rfl ?_
        refine Lx.gF rfl rfl rfl rfl ?_
        refine Lx.y (pickT rfl rfl) rfl ?_
        refine Lx.y (mv rfl) rfl ?_
        refine Lx.gF rfl rfl rfl rfl ?_
        refine Lx.gF rfl rfl rfl rfl ?_
        refine Lx.gF rfl rfl rfl rfl ?_
        refine Lx.gU rfl rfl rfl rfl ?_
        refine Lx.gU rfl rfl rfl rfl ?_
        refine Lx.gF rfl rfl rfl rfl ?_
        refine Lx.y (pickT rfl rfl) rfl ?_
        refine Lx.y (mv rfl) rfl ?_
        refine Lx.gF rfl rfl rfl rfl ?_
        refine Lx.gF rfl rfl rfl rfl ?_
        refine Lx.gF rfl rfl rfl rfl ?_
        refine Lx.gU rfl rfl rfl rfl ?_
        refine Lx.gU rfl rfl rfl rfl ?_
        refine Lx.gU rfl rfl rfl rfl ?_
        refine Lx.gF rfl rfl rfl rfl ?_
        refine Lx.y (pickT rfl rfl) rfl ?_
        refine Lx.y (mv rfl) rfl ?_
        refine Lx.gF rfl rfl rfl rfl ?_
        refine Lx.gF rfl rfl rfl rfl ?_
        refine Lx.gF rfl rfl rfl rfl ?_
        refine Lx.gU rfl rfl rfl rfl ?_
        refine Lx.gU rfl rfl rfl rfl ?_
        refine Lx.gF rfl rfl rfl rfl ?_
        refine Lx.gF rfl rfl rfl rfl ?_
        refine Lx.gU rfl rfl rfl rfl ?_
        refine Lx.gU rfl rfl rfl rfl ?_
        refine Lx.gU rfl rfl rfl rfl ?_
        refine Lx.gF rfl rfl rfl rfl ?_
        refine Lx.y (pickT rfl rfl) rfl ?_
        refine Lx.y (mv rfl) rfl ?_
        refine Lx.gF rfl rfl rfl rfl ?_
        refine Lx.gF rfl rfl rfl rfl ?_
        refine Lx.gF rfl rfl rfl rfl ?_
        refine Lx.gU rfl rfl rfl rfl ?_
        refine Lx.gU rfl rfl rfl rfl ?_
        refine Lx.gU rfl rfl rfl rfl ?_
        refine Lx.gU rfl rfl rfl rfl ?_
        refine Lx.gF rfl rfl rfl rfl ?_
        refine Lx.y (pickT rfl rfl) rfl ?_
        refine Lx.y (mv rfl) rfl ?_
        refine Lx.gF rfl rfl rfl rfl ?_
        refine Lx.gF rfl rfl rfl rfl ?_
        refine Lx.gF rfl rfl rfl rfl ?_
        refine Lx.gU rfl rfl rfl rfl ?_
        refine Lx.gU rfl rfl rfl rfl ?_
        refine Lx.gU rfl rfl rfl rfl ?_
        refine Lx.gU rfl rfl rfl rfl ?_
        refine Lx.gF rfl rfl rfl rfl ?_
        refine Lx.y (pickT rfl rfl) rfl ?_
        refine Lx.nil ?_
        exact Xx.mkK (⟨rfl, rfl, rfl⟩) (Sub.consE (s := 68) rfl (by unfold badP; first | exact congrArg Value.bool (decide_eq_true (by unfold BareP; grind)).symm | exact congrArg Value.bool (decide_eq_false (by unfold BareP; grind)).symm | exact congrArg Value.bool (decide_eq_decide.2 (by unfold BareP; grind)) | exact congrArg Value.bool (by unfold BareP; grind)) (Sub.cons (s := 0) rfl (Sub.cons (s := 1) rfl (Sub.cons (s := 2) rfl (Sub.cons (s := 4) rfl (Sub.cons (s := 5) rfl (Sub.cons (s := 9) rfl (Sub.cons (s := 10) rfl (Sub.cons (s := 11) rfl (Sub.cons (s := 12) rfl (Sub.nil _)))))))))))
      · skip
        refine Lx.gT rfl rfl rfl ?_
        refine Lx.y (mv rfl) rfl ?_
        refine Lx.gT rfl rfl rfl ?_
        refine Lx.y (gtr rfl rfl) rfl ?_
        refine Lx.y (pickF rfl rfl) rfl ?_
        refine Lx.y (mv rfl) rfl ?_
        refine Xx.ifD (t := 19) rfl (fun h9 => ?_) (fun h9 => ?_)
        · skip
          refine Lx.gF rfl rfl rfl rfl ?_
          refine Lx.gF rfl rfl rfl rfl ?_
          refine Lx.gF rfl rfl rfl rfl ?_
          refine Lx.gU rfl rfl rfl rfl ?_
          refine Lx.gU rfl rfl rfl rfl ?_
          refine Lx.gF rfl rfl rfl rfl ?_
          refine Lx.y (pickT rfl rfl) rfl ?_
          refine Lx.y (mv rfl) rfl ?_
          refine Lx.gF rfl rfl rfl rfl ?_
          refine Lx.gF rfl rfl rfl rfl ?_
          refine Lx.gF rfl rfl rfl rfl ?_
          refine Lx.gU rfl rfl rfl rfl ?_
          refine Lx.gU rfl rfl rfl rfl ?_
          refine Lx.gU rfl rfl rfl rfl ?_
          refine Lx.gF rfl rfl rfl rfl ?_
          refine Lx.y (pickT rfl rfl) rfl ?_
          refine Lx.y (mv rfl) rfl ?_
          refine Lx.gF rfl rfl rfl rfl ?_
          refine Lx.gF rfl rfl rfl rfl ?_
          refine Lx.gF rfl rfl rfl rfl ?_
          refine Lx.gU rfl rfl rfl rfl ?_
          refine Lx.gU rfl rfl rfl rfl ?_
          refine Lx.gF rfl rfl rfl rfl ?_
          refine Lx.gF rfl rfl rfl rfl ?_
          refine Lx.gU rfl rfl rfl rfl ?_
          refine Lx.gU rfl rfl rfl rfl ?_
          refine Lx.gU rfl rfl rfl rfl ?_
          refine Lx.gF rfl rfl rfl rfl ?_
          refine Lx.y (pickT rfl rfl) rfl ?_
          refine Lx.y (mv rfl) rfl ?_
          refine Lx.gF rfl rfl rfl rfl ?_
          refine Lx.gF rfl rfl rfl rfl ?_
          refine Lx.gF rfl rfl rfl rfl ?_
          refine Lx.gU rfl rfl rfl rfl ?_
          refine Lx.gU rfl rfl rfl rfl ?_
          refine Lx.gU rfl rfl rfl rfl ?_
          refine Lx.gU rfl rfl rfl rfl ?_
          refine Lx.gF rfl rfl rfl rfl ?_
          refine Lx.y (pickT rfl rfl) rfl ?_
          refine Lx.y (mv rfl) rfl ?_
          refine Lx.gF rfl rfl rfl rfl ?_
          refine Lx.gF rfl rfl rfl rfl ?_
          refine Lx.gF rfl rfl rfl rfl ?_
          refine Lx.gU rfl rfl rfl rfl ?_
          refine Lx.gU rfl rfl rfl rfl ?_
          refine Lx.gU rfl rfl rfl rfl ?_
          refine Lx.gU rfl rfl rfl rfl ?_
          refine Lx.gF rfl rfl rfl rfl ?_
          refine Lx.y (pickT rfl rfl) rfl ?_
          refine Lx.nil ?_
          exact Xx.mkK (⟨rfl, rfl, rfl⟩) (Sub.consE (s := 68) rfl (by unfold badP; first | exact congrArg Value.bool (decide_eq_true (by unfold BareP; grind)).symm | exact congrArg Value.bool (decide_eq_false (by unfold BareP; grind)).symm | exact congrArg Value.bool (decide_eq_decide.2 (by unfold BareP; grind)) | exact congrArg Value.bool (by unfold BareP; grind)) (Sub.cons (s := 0) rfl (Sub.cons (s := 1) rfl (Sub.cons (s := 2) rfl (Sub.cons (s := 4) rfl (Sub.cons (s := 5) rfl (Sub.cons (s := 9) rfl (Sub.cons (s := 10) rfl (Sub.cons (s := 11) rfl (Sub.cons (s := 12) rfl (Sub.nil _)))))))))))
        · skip
          refine Lx.gT rfl rfl rfl ?_
          refine Lx.y (mv rfl) rfl ?_
          refine Lx.gT rfl rfl rfl ?_
          refine Lx.y (neI rfl rfl) rfl ?_
          refine Lx.gT rfl rfl rfl ?_
          refine Lx.y (mv rfl) rfl ?_
          refine Xx.ifN (t := 22) rfl (fun h10 => ?_) (fun h10 => ?_)
          · skip
            refine Lx.gT rfl rfl rfl ?_
            refine Lx.y (fa' fo53_1 rfl) rfl ?_
            refine Lx.gT rfl rfl rfl ?_
            refine Lx.y (ld Try.underlying4 rfl rfl rfl) rfl ?_
            refine Lx.gT rfl rfl rfl ?_
            refine Lx.y (pickT rfl rfl) rfl ?_
            refine Lx.y (pickF rfl rfl) rfl ?_
            refine Lx.y (mv rfl) rfl ?_
            refine Xx.ifB (t := 27) rfl (fun h11 => ?_) (fun h11 => ?_)
            · skip
              refine Lx.gF rfl rfl rfl rfl ?_
              refine Lx.gF rfl rfl rfl rfl ?_
              refine Lx.gF rfl rfl rfl rfl ?_
              refine Lx.gU rfl rfl rfl rfl ?_
              refine Lx.gU rfl rfl rfl rfl ?_
              refine Lx.gU rfl rfl rfl rfl ?_
              refine Lx.gF rfl rfl rfl rfl ?_
              refine Lx.y (pickT rfl rfl) rfl ?_
              refine Lx.y (mv rfl) rfl ?_
              refine Lx.gF rfl rfl rfl rfl ?_
              refine Lx.gF rfl rfl rfl rfl ?_
              refine Lx.gF rfl rfl rfl rfl ?_
              refine Lx.gU rfl rfl rfl rfl ?_
              refine Lx.gU rfl rfl rfl rfl ?_
              refine Lx.gF rfl rfl rfl rfl ?_
              refine Lx.gF rfl rfl rfl rfl ?_
              refine Lx.gU rfl rfl rfl rfl ?_
              refine Lx.gU rfl rfl rfl rfl ?_
              refine Lx.gU rfl rfl rfl rfl ?_
              refine Lx.gF rfl rfl rfl rfl ?_
              refine Lx.y (pickT rfl rfl) rfl ?_
              refine Lx.y (mv rfl) rfl ?_
              refine Lx.gF rfl rfl rfl rfl ?_
              refine Lx.gF rfl rfl rfl rfl ?_
              refine Lx.gF rfl rfl rfl rfl ?_
              refine Lx.gU rfl rfl rfl rfl ?_
              refine Lx.gU rfl rfl rfl rfl ?_
              refine Lx.gU rfl rfl rfl rfl ?_
              refine Lx.gU rfl rfl rfl rfl ?_
              refine Lx.gF rfl rfl rfl rfl ?_
              refine Lx.y (pickT rfl rfl) rfl ?_
              refine Lx.y (mv rfl) rfl ?_
              refine Lx.gF rfl rfl rfl rfl ?_
              refine Lx.gF rfl rfl rfl rfl ?_
              refine Lx.gF rfl rfl rfl rfl ?_
              refine Lx.gU rfl rfl rfl rfl ?_
              refine Lx.gU rfl rfl rfl rfl ?_
              refine Lx.gU rfl rfl rfl rfl ?_
              refine Lx.gU rfl rfl rfl rfl ?_
              refine Lx.gF rfl rfl rfl rfl ?_
              refine Lx.y (pickT rfl rfl) rfl ?_
              refine Lx.nil ?_
              exact Xx.mkK (⟨rfl, rfl, rfl⟩) (Sub.consE (s := 68) rfl (by unfold badP; first | exact congrArg Value.bool (decide_eq_true (by unfold BareP; grind)).symm | exact congrArg Value.bool (decide_eq_false (by unfold BareP; grind)).symm | exact congrArg Value.bool (decide_eq_decide.2 (by unfold BareP; grind)) | exact congrArg Value.bool (by unfold BareP; grind)) (Sub.cons (s := 0) rfl (Sub.cons (s := 1) rfl (Sub.cons (s := 2) rfl (Sub.cons (s := 4) rfl (Sub.cons (s := 5) rfl (Sub.cons (s := 9) rfl (Sub.cons (s := 10) rfl (Sub.cons (s := 11) rfl (Sub.cons (s := 12) rfl (Sub.nil _)))))))))))
            · skip
              refine Lx.gT rfl rfl rfl ?_
              refine Lx.y (mv rfl) rfl ?_
              refine Lx.gT rfl rfl rfl ?_
              refine Lx.y (neI rfl rfl) rfl ?_
              refine Lx.gT rfl rfl rfl ?_
              refine Lx.y (mv rfl) rfl ?_
              refine Xx.ifN (t := 30) rfl (fun h12 => ?_) (fun h12 => ?_)
              · skip
                refine Lx.gT rfl rfl rfl ?_
                refine Lx.y (fa' fo53_2 rfl) rfl ?_
                refine Lx.gT rfl rfl rfl ?_
                refine Lx.y (ld Try.underlying2 rfl rfl rfl) rfl ?_
                refine Lx.gT rfl rfl rfl ?_
                refine Lx.y (neI rfl rfl) rfl ?_
                refine Lx.gT rfl rfl rfl ?_
                refine Lx.y (pickT rfl rfl) rfl ?_
                refine Lx.y (pickF rfl rfl) rfl ?_
                refine Lx.y (mv rfl) rfl ?_
                refine Xx.ifN (t := 36) rfl (fun h13 => ?_) (fun h13 => ?_)
                · skip
                  refine Lx.gF rfl rfl rfl rfl ?_
                  refine Lx.gF rfl rfl rfl rfl ?_
                  refine Lx.gF rfl rfl rfl rfl ?_
                  refine Lx.gU rfl rfl rfl rfl ?_
                  refine Lx.gU rfl rfl rfl rfl ?_
                  refine Lx.gF rfl rfl rfl rfl ?_
                  refine Lx.gF rfl rfl rfl rfl ?_
                  refine Lx.gU rfl rfl rfl rfl ?_
                  refine Lx.gU rfl rfl rfl rfl ?_
                  refine Lx.gU rfl rfl rfl rfl ?_
                  refine Lx.gF rfl rfl rfl rfl ?_
                  refine Lx.y (pickT rfl rfl) rfl ?_
                  refine Lx.y (mv rfl) rfl ?_
                  refine Lx.gF rfl rfl rfl rfl ?_
                  refine Lx.gF rfl rfl rfl rfl ?_
                  refine Lx.gF rfl rfl rfl rfl ?_
                  refine Lx.gU rfl rfl rfl rfl ?_
                  refine Lx.gU rfl rfl rfl rfl ?_
                  refine Lx.gU rfl rfl rfl rfl ?_
                  refine Lx.gU rfl rfl rfl rfl ?_
                  refine Lx.gF rfl rfl rfl rfl ?_
                  refine Lx.y (pickT rfl rfl) rfl ?_
                  refine Lx.y (mv rfl) rfl ?_
                  refine Lx.gF rfl rfl rfl rfl ?_
                  refine Lx.gF rfl rfl rfl rfl ?_
                  refine Lx.gF rfl rfl rfl rfl ?_
                  refine Lx.gU rfl rfl rfl rfl ?_
                  refine Lx.gU rfl rfl rfl rfl ?_
                  refine Lx.gU rfl rfl rfl rfl ?_
                  refine Lx.gU rfl rfl rfl rfl ?_
                  refine Lx.gF rfl rfl rfl rfl ?_
                  refine Lx.y (pickT rfl rfl) rfl ?_
                  refine Lx.nil ?_
                  exact Xx.mkK (⟨rfl, rfl, rfl⟩) (Sub.consE (s := 68) rfl (by unfold badP; first | exact congrArg Value.bool (decide_eq_true (by unfold BareP; grind)).symm | exact congrArg Value.bool (decide_eq_false (by unfold BareP; grind)).symm | exact congrArg Value.bool (decide_eq_decide.2 (by unfold BareP; grind)) | exact congrArg Value.bool (by unfold BareP; grind)) (Sub.cons (s := 0) rfl (Sub.cons (s := 1) rfl (Sub.cons (s := 2) rfl (Sub.cons (s := 4) rfl (Sub.cons (s := 5) rfl (Sub.cons (s := 9) rfl (Sub.cons (s := 10) rfl (Sub.cons (s := 11) rfl (Sub.cons (s := 12) rfl (Sub.nil _)))))))))))
                · skip
                  refine Lx.gT rfl rfl rfl ?_
                  refine Lx.y (mv rfl) rfl ?_
                  refine Lx.gT rfl rfl rfl ?_
                  refine Lx.y (neI rfl rfl) rfl ?_
                  refine Lx.gT rfl rfl rfl ?_
                  refine Lx.y (mv rfl) rfl ?_
                  refine Xx.ifN (t := 39) rfl (fun h14 => ?_) (fun h14 => ?_)
                  · skip
                    refine Lx.gT rfl rfl rfl ?_
                    refine Lx.y (mv rfl) rfl ?_
                    refine Lx.gT rfl rfl rfl ?_
                    refine Lx.y (neI rfl rfl) rfl ?_
                    refine Lx.gT rfl rfl rfl ?_
                    refine Lx.y (pickT rfl rfl) rfl ?_
                    refine Lx.gT rfl rfl rfl ?_
                    refine Lx.y (mv rfl) rfl ?_
                    refine Xx.ifN (t := 43) rfl (fun h15 => ?_) (fun h15 => ?_)
                    · skip
                      refine Lx.gT rfl rfl rfl ?_
                      refine Lx.y (fa' fo53_3 rfl) rfl ?_
                      refine Lx.gT rfl rfl rfl ?_
                      refine Lx.y (ld Try.underlying9 rfl rfl rfl) rfl ?_
                      refine Lx.gT rfl rfl rfl ?_
                      refine Lx.y (neS rfl rfl) rfl ?_
                      refine Lx.gT rfl rfl rfl ?_
                      refine Lx.y (pickT rfl rfl) rfl ?_
                      refine Lx.y (pickF rfl rfl) rfl ?_
                      refine Lx.y (mv rfl) rfl ?_
                      refine Xx.ifN (t := 49) rfl (fun h16 => ?_) (fun h16 => ?_)
                      · skip
                        refine Lx.gF rfl rfl rfl rfl ?_
                        refine Lx.gF rfl rfl rfl rfl ?_
                        refine Lx.gF rfl rfl rfl rfl ?_
                        refine Lx.gU rfl rfl rfl rfl ?_
                        refine Lx.gU rfl rfl rfl rfl ?_
                        refine Lx.gU rfl rfl rfl rfl ?_
                        refine Lx.gU rfl rfl rfl rfl ?_
                        refine Lx.gF rfl rfl rfl rfl ?_
                        refine Lx.y (pickT rfl rfl) rfl ?_
                        refine Lx.y (mv rfl) rfl ?_
                        refine Lx.gF rfl rfl rfl rfl ?_
                        refine Lx.gF rfl rfl rfl rfl ?_
                        refine Lx.gF rfl rfl rfl rfl ?_
                        refine Lx.gU rfl rfl rfl rfl ?_
                        refine Lx.gU rfl rfl rfl rfl ?_
                        refine Lx.gU rfl rfl rfl rfl ?_
                        refine Lx.gU rfl rfl rfl rfl ?_
                        refine Lx.gF rfl rfl rfl rfl ?_
                        refine Lx.y (pickT rfl rfl) rfl ?_
                        refine Lx.nil ?_
                        exact Xx.mkK (⟨rfl, rfl, rfl⟩) (Sub.consE (s := 68) rfl (by unfold badP; first | exact congrArg Value.bool (decide_eq_true (by unfold BareP; grind)).symm | exact congrArg Value.bool (decide_eq_false (by unfold BareP; grind)).symm | exact congrArg Value.bool (decide_eq_decide.2 (by unfold BareP; grind)) | exact congrArg Value.bool (by unfold BareP; grind)) (Sub.cons (s := 0) rfl (Sub.cons (s := 1) rfl (Sub.cons (s := 2) rfl (Sub.cons (s := 4) rfl (Sub.cons (s := 5) rfl (Sub.cons (s := 9) rfl (Sub.cons (s := 10) rfl (Sub.cons (s := 11) rfl (Sub.cons (s := 12) rfl (Sub.nil _)))))))))))
                      · skip
                        refine Lx.gT rfl rfl rfl ?_
                        refine Lx.y (mv rfl) rfl ?_
                        refine Lx.gT rfl rfl rfl ?_
                        refine Lx.y (lss rfl rfl) rfl ?_
                        refine Lx.gT rfl rfl rfl ?_
                        refine Lx.y (mv rfl) rfl ?_
                        refine Xx.ifD (t := 52) rfl (fun h17 => ?_) (fun h17 => ?_)
                        · skip
                          refine Lx.gT rfl rfl rfl ?_
                          refine Lx.y (fa' fo53_4 rfl) rfl ?_
                          refine Lx.gT rfl rfl rfl ?_
                          refine Lx.y (ld Try.underlying51 rfl rfl rfl) rfl ?_
                          refine Lx.gT rfl rfl rfl ?_
                          refine Lx.y (lenV (ty' := 0) Try.underlying51 rfl) rfl ?_
                          refine Lx.gT rfl rfl rfl ?_
                          refine Lx.y (gtr rfl rfl) rfl ?_
                          refine Lx.gT rfl rfl rfl ?_
                          refine Lx.y (pickT rfl rfl) rfl ?_
                          refine Lx.y (pickF rfl rfl) rfl ?_
                          refine Lx.y (mv rfl) rfl ?_
                          refine Xx.ifD (t := 59) rfl (fun h18 => ?_) (fun h18 => ?_)
                          · skip
                            refine Lx.gF rfl rfl rfl rfl ?_
                            refine Lx.gF rfl rfl rfl rfl ?_
                            refine Lx.gF rfl rfl rfl rfl ?_
                            refine Lx.gU rfl rfl rfl rfl ?_
                            refine Lx.gU rfl rfl rfl rfl ?_
                            refine Lx.gU rfl rfl rfl rfl ?_
                            refine Lx.gU rfl rfl rfl rfl ?_
                            refine Lx.gF rfl rfl rfl rfl ?_
                            refine Lx.y (pickT rfl rfl) rfl ?_
                            refine Lx.nil ?_
                            exact Xx.mkK (⟨rfl, rfl, rfl⟩) (Sub.consE (s := 68) rfl (by unfold badP; first | exact congrArg Value.bool (decide_eq_true (by unfold BareP; grind)).symm | exact congrArg Value.bool (decide_eq_false (by unfold BareP; grind)).symm | exact congrArg Value.bool (decide_eq_decide.2 (by unfold BareP; grind)) | exact congrArg Value.bool (by unfold BareP; grind)) (Sub.cons (s := 0) rfl (Sub.cons (s := 1) rfl (Sub.cons (s := 2) rfl (Sub.cons (s := 4) rfl (Sub.cons (s := 5) rfl (Sub.cons (s := 9) rfl (Sub.cons (s := 10) rfl (Sub.cons (s := 11) rfl (Sub.cons (s := 12) rfl (Sub.nil _)))))))))))
                          · skip
                            refine Lx.gT rfl rfl rfl ?_
                            refine Lx.y (mv rfl) rfl ?_
                            refine Lx.gT rfl rfl rfl ?_
                            refine Lx.y (neI rfl rfl) rfl ?_
                            refine Lx.gT rfl rfl rfl ?_
                            refine Lx.y (mv rfl) rfl ?_
                            refine Xx.ifN (t := 62) rfl (fun h19 => ?_) (fun h19 => ?_)
                            · skip
                              refine Lx.gT rfl rfl rfl ?_
                              refine Lx.y (fa' fo53_5 rfl) rfl ?_
                              refine Lx.gT rfl rfl rfl ?_
                              refine Lx.y (ld Try.underlying22 rfl rfl rfl) rfl ?_
                              refine Lx.gT rfl rfl rfl ?_
                              refine Lx.y (lenV (ty' := 0) Try.underlying22 rfl) rfl ?_
                              refine Lx.gT rfl rfl rfl ?_
                              refine Lx.y (gtr rfl rfl) rfl ?_
                              refine Lx.gT rfl rfl rfl ?_
                              refine Lx.y (pickT rfl rfl) rfl ?_
                              refine Lx.y (pickF rfl rfl) rfl ?_
                              refine Lx.nil ?_
                              exact Xx.mkK (⟨rfl, rfl, rfl⟩) (Sub.consE (s := 68) rfl (by unfold badP; first | exact congrArg Value.bool (decide_eq_true (by unfold BareP; grind)).symm | exact congrArg Value.bool (decide_eq_false (by unfold BareP; grind)).symm | exact congrArg Value.bool (decide_eq_decide.2 (by unfold BareP; grind)) | exact congrArg Value.bool (by unfold BareP; grind)) (Sub.cons (s := 0) rfl (Sub.cons (s := 1) rfl (Sub.cons (s := 2) rfl (Sub.cons (s := 4) rfl (Sub.cons (s := 5) rfl (Sub.cons (s := 9) rfl (Sub.cons (s := 10) rfl (Sub.cons (s := 11) rfl (Sub.cons (s := 12) rfl (Sub.nil _)))))))))))
                            · skip
                              refine Lx.gF rfl rfl rfl rfl ?_
                              refine Lx.gF rfl rfl rfl rfl ?_
                              refine Lx.gF rfl rfl rfl rfl ?_
                              refine Lx.gF rfl rfl rfl rfl ?_
                              refine Lx.gT rfl rfl rfl ?_
                              refine Lx.y (pickF rfl rfl) rfl ?_
                              refine Lx.y (pickF rfl rfl) rfl ?_
                              refine Lx.nil ?_
                              exact Xx.mkK (⟨rfl, rfl, rfl⟩) (Sub.consE (s := 68) rfl (by unfold badP; first | exact congrArg Value.bool (decide_eq_true (by unfold BareP; grind)).symm | exact congrArg Value.bool (decide_eq_false (by unfold BareP; grind)).symm | exact congrArg Value.bool (decide_eq_decide.2 (by unfold BareP; grind)) | exact congrArg Value.bool (by unfold BareP; grind)) (Sub.cons (s := 0) rfl (Sub.cons (s := 1) rfl (Sub.cons (s := 2) rfl (Sub.cons (s := 4) rfl (Sub.cons (s := 5) rfl (Sub.cons (s := 9) rfl (Sub.cons (s := 10) rfl (Sub.cons (s := 11) rfl (Sub.cons (s := 12) rfl (Sub.nil _)))))))))))
                        · skip
                          refine Lx.gF rfl rfl rfl rfl ?_
                          refine Lx.gF rfl rfl rfl rfl ?_
                          refine Lx.gF rfl rfl rfl rfl ?_
                          refine Lx.gF rfl rfl rfl rfl ?_
                          refine Lx.gT rfl rfl rfl ?_
                          refine Lx.y (pickF rfl rfl) rfl ?_
                          refine Lx.y (pickF rfl rfl) rfl ?_
                          refine Lx.y (mv rfl) rfl ?_
                          refine Lx.gT rfl rfl rfl ?_
                          refine Lx.y (mv rfl) rfl ?_
                          refine Lx.gT rfl rfl rfl ?_
                          refine Lx.y (neI rfl rfl) rfl ?_
                          refine Lx.gT rfl rfl rfl ?_
                          refine Lx.y (mv rfl) rfl ?_
                          refine Xx.ifN (t := 62) rfl (fun h20 => ?_) (fun h20 => ?_)
                          · skip
                            refine Lx.gT rfl rfl rfl ?_
                            refine Lx.y (fa' fo53_5 rfl) rfl ?_
                            refine Lx.gT rfl rfl rfl ?_
                            refine Lx.y (ld Try.underlying22 rfl rfl rfl) rfl ?_
                            refine Lx.gT rfl rfl rfl ?_
                            refine Lx.y (lenV (ty' := 0) Try.underlying22 rfl) rfl ?_
                            refine Lx.gT rfl rfl rfl ?_
                            refine Lx.y (gtr rfl rfl) rfl ?_
                            refine Lx.gT rfl rfl rfl ?_
                            refine Lx.y (pickT rfl rfl) rfl ?_
                            refine Lx.y (pickF rfl rfl) rfl ?_
                            refine Lx.nil ?_
                            exact Xx.mkK (⟨rfl, rfl, rfl⟩) (Sub.consE (s := 68) rfl (by unfold badP; first | exact congrArg Value.bool (decide_eq_true (by unfold BareP; grind)).symm | exact congrArg Value.bool (decide_eq_false (by unfold BareP; grind)).symm | exact congrArg Value.bool (decide_eq_decide.2 (by unfold BareP; grind)) | exact congrArg Value.bool (by unfold BareP; grind)) (Sub.cons (s := 0) rfl (Sub.cons (s := 1) rfl (Sub.cons (s := 2) rfl (Sub.cons (s := 4) rfl (Sub.cons (s := 5) rfl (Sub.cons (s := 9) rfl (Sub.cons (s := 10) rfl (Sub.cons (s := 11) rfl (Sub.cons (s := 12) rfl (Sub.nil _)))))))))))
                          · skip
                            refine Lx.gF rfl rfl rfl rfl ?_
                            refine Lx.gF rfl rfl rfl rfl ?_
                            refine Lx.gF rfl rfl rfl rfl ?_
                            refine Lx.gF rfl rfl rfl rfl ?_
                            refine Lx.gT rfl rfl rfl ?_
                            refine Lx.y (pickF rfl rfl) rfl ?_
                            refine Lx.y (pickF rfl rfl) rfl ?_
                            refine Lx.nil ?_
                            exact Xx.mkK (⟨rfl, rfl, rfl⟩) (Sub.consE (s := 68) rfl (by unfold badP; first | exact congrArg Value.bool (decide_eq_true (by unfold BareP; grind)).symm | exact congrArg Value.bool (decide_eq_false (by unfold BareP; grind)).symm | exact congrArg Value.bool (decide_eq_decide.2 (by unfold BareP; grind)) | exact congrArg Value.bool (by unfold BareP; grind)) (Sub.cons (s := 0) rfl (Sub.cons (s := 1) rfl (Sub.cons (s := 2) rfl (Sub.cons (s := 4) rfl (Sub.cons (s := 5) rfl (Sub.cons (s := 9) rfl (Sub.cons (s := 10) rfl (Sub.cons (s := 11) rfl (Sub.cons (s := 12) rfl (Sub.nil _)))))))))))
                    · skip
                      refine Lx.gF rfl rfl rfl rfl ?_
                      refine Lx.gF rfl rfl rfl rfl ?_
                      refine Lx.gF rfl rfl rfl rfl ?_
                      refine Lx.gT rfl rfl rfl ?_
                      refine Lx.y (pickF rfl rfl) rfl ?_
                      refine Lx.y (pickF rfl rfl) rfl ?_
                      refine Lx.y (mv rfl) rfl ?_
                      refine Lx.gT rfl rfl rfl ?_
                      refine Lx.y (mv rfl) rfl ?_
                      refine Lx.gT rfl rfl rfl ?_
                      refine Lx.y (lss rfl rfl) rfl ?_
                      refine Lx.gT rfl rfl rfl ?_
                      refine Lx.y (mv rfl) rfl ?_
                      refine Xx.ifD (t := 52) rfl (fun h21 => ?_) (fun h21 => ?_)
                      · skip
                        refine Lx.gT rfl rfl rfl ?_
                        refine Lx.y (fa' fo53_4 rfl) rfl ?_
                        refine Lx.gT rfl rfl rfl ?_
                        refine Lx.y (ld Try.underlying51 rfl rfl rfl) rfl ?_
                        refine Lx.gT rfl rfl rfl ?_
                        refine Lx.y (lenV (ty' := 0) Try.underlying51 rfl) rfl ?_
                        refine Lx.gT rfl rfl rfl ?_
                        refine Lx.y (gtr rfl rfl) rfl ?_
                        refine Lx.gT rfl rfl rfl ?_
                        refine Lx.y (pickT rfl rfl) rfl ?_
                        refine Lx.y (pickF rfl rfl) rfl ?_
                        refine Lx.y (mv rfl) rfl ?_
                        refine Xx.ifD (t := 59) rfl (fun h22 => ?_) (fun h22 => ?_)
                        · skip
                          refine Lx.gF rfl rfl rfl rfl ?_
                          refine Lx.gF rfl rfl rfl rfl ?_
                          refine Lx.gF rfl rfl rfl rfl ?_
                          refine Lx.gU rfl rfl rfl rfl ?_
                          refine Lx.gU rfl rfl rfl rfl ?_
                          refine Lx.gU rfl rfl rfl rfl ?_
                          refine Lx.gU rfl rfl rfl rfl ?_
                          refine Lx.gF rfl rfl rfl rfl ?_
                          refine Lx.y (pickT rfl rfl) rfl ?_
                          refine Lx.nil ?_
                          exact Xx.mkK (⟨rfl, rfl, rfl⟩) (Sub.consE (s := 68) rfl (by unfold badP; first | exact congrArg Value.bool (decide_eq_true (by unfold BareP; grind)).symm | exact congrArg Value.bool (decide_eq_false (by unfold BareP; grind)).symm | exact congrArg Value.bool (decide_eq_decide.2 (by unfold BareP; grind)) | exact congrArg Value.bool (by unfold BareP; grind)) (Sub.cons (s := 0) rfl (Sub.cons (s := 1) rfl (Sub.cons (s := 2) rfl (Sub.cons (s := 4) rfl (Sub.cons (s := 5) rfl (Sub.cons (s := 9) rfl (Sub.cons (s := 10) rfl (Sub.cons (s := 11) rfl (Sub.cons (s := 12) rfl (Sub.nil _)))))))))))
                        · skip
                          refine Lx.gT rfl rfl rfl ?_
                          refine Lx.y (mv rfl) rfl ?_
                          refine Lx.gT rfl rfl rfl ?_
                          refine Lx.y (neI rfl rfl) rfl ?_
                          refine Lx.gT rfl rfl rfl ?_
                          refine Lx.y (mv rfl) rfl ?_
                          refine Xx.ifN (t := 62) rfl (fun h23 => ?_) (fun h23 => ?_)
                          · skip
                            refine Lx.gT rfl rfl rfl ?_
                            refine Lx.y (fa' fo53_5 rfl) rfl ?_
                            refine Lx.gT rfl rfl rfl ?_
                            refine Lx.y (ld Try.underlying22 rfl rfl rfl) rfl ?_
                            refine Lx.gT rfl rfl rfl ?_
                            refine Lx.y (lenV (ty' := 0) Try.underlying22 rfl) rfl ?_
                            refine Lx.gT rfl rfl rfl ?_
                            refine Lx.y (gtr rfl rfl) rfl ?_
                            refine Lx.gT rfl rfl rfl ?_
                            refine Lx.y (pickT rfl rfl) rfl ?_
                            refine Lx.y (pickF rfl rfl) rfl ?_
                            refine Lx.nil ?_
                            exact Xx.mkK (⟨rfl, rfl, rfl⟩) (Sub.consE (s := 68) rfl (by unfold badP; first | exact congrArg Value.bool (decide_eq_true (by unfold BareP; grind)).symm | exact congrArg Value.bool (decide_eq_false (by unfold BareP; grind)).symm | exact congrArg Value.bool (decide_eq_decide.2 (by unfold BareP; grind)) | exact congrArg Value.bool (by unfold BareP; grind)) (Sub.cons (s := 0) rfl (Sub.cons (s := 1) rfl (Sub.cons (s := 2) rfl (Sub.cons (s := 4) rfl (Sub.cons (s := 5) rfl (Sub.cons (s := 9) rfl (Sub.cons (s := 10) rfl (Sub.cons (s := 11) rfl (Sub.cons (s := 12) rfl (Sub.nil _)))))))))))
                          · skip
                            refine Lx.gF rfl rfl rfl rfl ?_
                            refine Lx.gF rfl rfl rfl rfl ?_
                            refine Lx.gF rfl rfl rfl rfl ?_
                            refine Lx.gF rfl rfl rfl rfl ?_
                            refine Lx.gT rfl rfl rfl ?_
                            refine Lx.y (pickF rfl rfl) rfl ?_
                            refine Lx.y (pickF rfl rfl) rfl ?_
                            refine Lx.nil ?_
                            exact Xx.mkK (⟨rfl, rfl, rfl⟩) (Sub.consE (s := 68) rfl (by unfold badP; first | exact congrArg Value.bool (decide_eq_true (by unfold BareP; grind)).symm | exact congrArg Value.bool (decide_eq_false (by unfold BareP; grind)).symm | exact congrArg Value.bool (decide_eq_decide.2 (by unfold BareP; grind)) | exact congrArg Value.bool (by unfold BareP; grind)) (Sub.cons (s := 0) rfl (Sub.cons (s := 1) rfl (Sub.cons (s := 2) rfl (Sub.cons (s := 4) rfl (Sub.cons (s := 5) rfl (Sub.cons (s := 9) rfl (Sub.cons (s := 10) rfl (Sub.cons (s := 11) rfl (Sub.cons (s := 12) rfl (Sub.nil _)))))))))))
                      · skip
                        refine Lx.gF rfl rfl rfl rfl ?_
                        refine Lx.gF rfl rfl rfl rfl ?_
                        refine Lx.gF rfl rfl rfl rfl ?_
                        refine Lx.gF rfl rfl rfl rfl ?_
                        refine Lx.gT rfl rfl rfl ?_
                        refine Lx.y (pickF rfl rfl) rfl ?_
                        refine Lx.y (pickF rfl rfl) rfl ?_
                        refine Lx.y (mv rfl) rfl ?_
                        refine Lx.gT rfl rfl rfl ?_
                        refine Lx.y (mv rfl) rfl ?_
                        refine Lx.gT rfl rfl rfl ?_
                        refine Lx.y (neI rfl rfl) rfl ?_
                        refine Lx.gT rfl rfl rfl ?_
                        refine Lx.y (mv rfl) rfl ?_
                        refine Xx.ifN (t := 62) rfl (fun h24 => ?_) (fun h24 => ?_)
                        · skip
                          refine Lx.gT rfl rfl rfl ?_
                          refine Lx.y (fa' fo53_5 rfl) rfl ?_
                          refine Lx.gT rfl rfl rfl ?_
                          refine Lx.y (ld Try.underlying22 rfl rfl rfl) rfl ?_
                          refine Lx.gT rfl rfl rfl ?_
                          refine Lx.y (lenV (ty' := 0) Try.underlying22 rfl) rfl ?_
                          refine Lx.gT rfl rfl rfl ?_
                          refine Lx.y (gtr rfl rfl) rfl ?_
                          refine Lx.gT rfl rfl rfl ?_
                          refine Lx.y (pickT rfl rfl) rfl ?_
                          refine Lx.y (pickF rfl rfl) rfl ?_
                          refine Lx.nil ?_
                          exact Xx.mkK (⟨rfl, rfl, rfl⟩) (Sub.consE (s := 68) rfl (by unfold badP; first | exact congrArg Value.bool (decide_eq_true (by unfold BareP; grind)).symm | exact congrArg Value.bool (decide_eq_false (by unfold BareP; grind)).symm | exact congrArg Value.bool (decide_eq_decide.2 (by unfold BareP; grind)) | exact congrArg Value.bool (by unfold BareP; grind)) (Sub.cons (s := 0) rfl (Sub.cons (s := 1) rfl (Sub.cons (s := 2) rfl (Sub.cons (s := 4) rfl (Sub.cons (s := 5) rfl (Sub.cons (s := 9) rfl (Sub.cons (s := 10) rfl (Sub.cons (s := 11) rfl (Sub.cons (s := 12) rfl (Sub.nil _)))))))))))
                        · skip
                          refine Lx.gF rfl rfl rfl rfl ?_
                          refine Lx.gF rfl rfl rfl rfl ?_
                          refine Lx.gF rfl rfl rfl rfl ?_
                          refine Lx.gF rfl rfl rfl rfl ?_
                          refine Lx.gT rfl rfl rfl ?_
                          refine Lx.y (pickF rfl rfl) rfl ?_
                          refine Lx.y (pickF rfl rfl) rfl ?_
                          refine Lx.nil ?_
                          exact Xx.mkK (⟨rfl, rfl, rfl⟩) (Sub.consE (s := 68) rfl (by unfold badP; first | exact congrArg Value.bool (decide_eq_true (by unfold BareP; grind)).symm | exact congrArg Value.bool (decide_eq_false (by unfold BareP; grind)).symm | exact congrArg Value.bool (decide_eq_decide.2 (by unfold BareP; grind)) | exact congrArg Value.bool (by unfold BareP; grind)) (Sub.cons (s := 0) rfl (Sub.cons (s := 1) rfl (Sub.cons (s := 2) rfl (Sub.cons (s := 4) rfl (Sub.cons (s := 5) rfl (Sub.cons (s := 9) rfl (Sub.cons (s := 10) rfl (Sub.cons (s := 11) rfl (Sub.cons (s := 12) rfl (Sub.nil _)))))))))))
                  · skip
                    refine Lx.gF rfl rfl rfl rfl ?_
                    refine Lx.gF rfl rfl rfl rfl ?_
                    refine Lx.gT rfl rfl rfl ?_
                    refine Lx.y (pickF rfl rfl) rfl ?_
                    refine Lx.gT rfl rfl rfl ?_
                    refine Lx.y (mv rfl) rfl ?_
                    refine Lx.gF rfl rfl rfl rfl ?_
                    refine Lx.gF rfl rfl rfl rfl ?_
                    refine Lx.gF rfl rfl rfl rfl ?_
                    refine Lx.gT rfl rfl rfl ?_
                    refine Lx.y (pickF rfl rfl) rfl ?_
                    refine Lx.y (pickF rfl rfl) rfl ?_
                    refine Lx.y (mv rfl) rfl ?_
                    refine Lx.gT rfl rfl rfl ?_
                    refine Lx.y (mv rfl) rfl ?_
                    refine Lx.gT rfl rfl rfl ?_
                    refine Lx.y (lss rfl rfl) rfl ?_
                    refine Lx.gT rfl rfl rfl ?_
                    refine Lx.y (mv rfl) rfl ?_
                    refine Xx.ifD (t := 52) rfl (fun h25 => ?_) (fun h25 => ?_)
                    · skip
                      refine Lx.gT rfl rfl rfl ?_
                      refine Lx.y (fa' fo53_4 rfl) rfl ?_
                      refine Lx.gT rfl rfl rfl ?_
                      refine Lx.y (ld Try.underlying51 rfl rfl rfl) rfl ?_
                      refine Lx.gT rfl rfl rfl ?_
                      refine Lx.y (lenV (ty' := 0) Try.underlying51 rfl) rfl ?_
                      refine Lx.gT rfl rfl rfl ?_
                      refine Lx.y (gtr rfl rfl) rfl ?_
                      refine Lx.gT rfl rfl rfl ?_
                      refine Lx.y (pickT rfl rfl) rfl ?_
                      refine Lx.y (pickF rfl rfl) rfl ?_
                      refine Lx.y (mv rfl) rfl ?_
                      refine Xx.ifD (t := 59) rfl (fun h26 => ?_) (fun h26 => ?_)
                      · skip
                        refine Lx.gF rfl rfl rfl rfl ?_
                        refine Lx.gF rfl rfl rfl rfl ?_
                        refine Lx.gF rfl rfl rfl rfl ?_
                        refine Lx.gU rfl rfl rfl rfl ?_
                        refine Lx.gU rfl rfl rfl rfl ?_
                        refine Lx.gU rfl rfl rfl rfl ?_
                        refine Lx.gU rfl rfl rfl rfl ?_
                        refine Lx.gF rfl rfl rfl rfl ?_
                        refine Lx.y (pickT rfl rfl) rfl ?_
                        refine Lx.nil ?_
                        exact Xx.mkK (⟨rfl, rfl, rfl⟩) (Sub.consE (s := 68) rfl (by unfold badP; first | exact congrArg Value.bool (decide_eq_true (by unfold BareP; grind)).symm | exact congrArg Value.bool (decide_eq_false (by unfold BareP; grind)).symm | exact congrArg Value.bool (decide_eq_decide.2 (by unfold BareP; grind)) | exact congrArg Value.bool (by unfold BareP; grind)) (Sub.cons (s := 0) rfl (Sub.cons (s := 1) rfl (Sub.cons (s := 2) rfl (Sub.cons (s := 4) rfl (Sub.cons (s := 5) rfl (Sub.cons (s := 9) rfl (Sub.cons (s := 10) rfl (Sub.cons (s := 11) rfl (Sub.cons (s := 12) rfl (Sub.nil _)))))))))))
                      · skip
                        refine Lx.gT rfl rfl rfl ?_
                        refine Lx.y (mv rfl) rfl ?_
                        refine Lx.gT rfl rfl rfl ?_
                        refine Lx.y (neI rfl rfl) rfl ?_
                        refine Lx.gT rfl rfl rfl ?_
                        refine Lx.y (mv rfl) rfl ?_
                        refine Xx.ifN (t := 62) rfl (fun h27 => ?_) (fun h27 => ?_)
                        · skip
                          refine Lx.gT rfl rfl rfl ?_
                          refine Lx.y (fa' fo53_5 rfl) rfl ?_
                          refine Lx.gT rfl rfl rfl ?_
                          refine Lx.y (ld Try.underlying22 rfl rfl rfl) rfl ?_
                          refine Lx.gT rfl rfl rfl ?_
                          refine Lx.y (lenV (ty' := 0) Try.underlying22 rfl) rfl ?_
                          refine Lx.gT rfl rfl rfl ?_
                          refine Lx.y (gtr rfl rfl) rfl ?_
                          refine Lx.gT rfl rfl rfl ?_
                          refine Lx.y (pickT rfl rfl) rfl ?_
                          refine Lx.y (pickF rfl rfl) rfl ?_
                          refine Lx.nil ?_
                          exact Xx.mkK (⟨rfl, rfl, rfl⟩) (Sub.consE (s := 68) rfl (by unfold badP; first | exact congrArg Value.bool (decide_eq_true (by unfold BareP; grind)).symm | exact congrArg Value.bool (decide_eq_false (by unfold BareP; grind)).symm | exact congrArg Value.bool (decide_eq_decide.2 (by unfold BareP; grind)) | exact congrArg Value.bool (by unfold BareP; grind)) (Sub.cons (s := 0) rfl (Sub.cons (s := 1) rfl (Sub.cons (s := 2) rfl (Sub.cons (s := 4) rfl (Sub.cons (s := 5) rfl (Sub.cons (s := 9) rfl (Sub.cons (s := 10) rfl (Sub.cons (s := 11) rfl (Sub.cons (s := 12) rfl (Sub.nil _)))))))))))
                        · skip
                          refine Lx.gF rfl rfl rfl rfl ?_
                          refine Lx.gF rfl rfl rfl rfl ?_
                          refine Lx.gF rfl rfl rfl rfl ?_
                          refine Lx.gF rfl rfl rfl rfl ?_
                          refine Lx.gT rfl rfl rfl ?_
                          refine Lx.y (pickF rfl rfl) rfl ?_
                          refine Lx.y (pickF rfl rfl) rfl ?_
                          refine Lx.nil ?_
                          exact Xx.mkK (⟨rfl, rfl, rfl⟩) (Sub.consE (s := 68) rfl (by unfold badP; first | exact congrArg Value.bool (decide_eq_true (by unfold BareP; grind)).symm | exact congrArg Value.bool (decide_eq_false (by unfold BareP; grind)).symm | exact congrArg Value.bool (decide_eq_decide.2 (by unfold BareP; grind)) | exact congrArg Value.bool (by unfold BareP; grind)) (Sub.cons (s := 0) rfl (Sub.cons (s := 1) rfl (Sub.cons (s := 2) rfl (Sub.cons (s := 4) rfl (Sub.cons (s := 5) rfl (Sub.cons (s := 9) rfl (Sub.cons (s := 10) rfl (Sub.cons (s := 11) rfl (Sub.cons (s := 12) rfl (Sub.nil _)))))))))))
                    · skip
                      refine Lx.gF rfl rfl rfl rfl ?_
                      refine Lx.gF rfl rfl rfl rfl ?_
                      refine Lx.gF rfl rfl rfl rfl ?_
                      refine Lx.gF rfl rfl rfl rfl ?_
                      refine Lx.gT rfl rfl rfl ?_
                      refine Lx.y (pickF rfl rfl) rfl ?_
                      refine Lx.y (pickF rfl rfl) rfl ?_
                      refine Lx.y (mv rfl) rfl ?_
                      refine Lx.gT rfl rfl rfl ?_
                      refine Lx.y (mv rfl) rfl ?_
                      refine Lx.gT rfl rfl rfl ?_
                      refine Lx.y (neI rfl rfl) rfl ?_
                      refine Lx.gT rfl rfl rfl ?_
                      refine Lx.y (mv rfl) rfl ?_
                      refine Xx.ifN (t := 62) rfl (fun h28 => ?_) (fun h28 => ?_)
                      · skip
                        refine Lx.gT rfl rfl rfl ?_
                        refine Lx.y (fa' fo53_5 rfl) rfl ?_
                        refine Lx.gT rfl rfl rfl ?_
                        refine Lx.y (ld Try.underlying22 rfl rfl rfl) rfl ?_
                        refine Lx.gT rfl rfl rfl ?_
                        refine Lx.y (lenV (ty' := 0) Try.underlying22 rfl) rfl ?_
                        refine Lx.gT rfl rfl rfl ?_
                        refine Lx.y (gtr rfl rfl) rfl ?_
                        refine Lx.gT rfl rfl rfl ?_
                        refine Lx.y (pickT rfl rfl) rfl ?_
                        refine Lx.y (pickF rfl rfl) rfl ?_
                        refine Lx.nil ?_
                        exact Xx.mkK (⟨rfl, rfl, rfl⟩) (Sub.consE (s := 68) rfl (by unfold badP; first | exact congrArg Value.bool (decide_eq_true (by unfold BareP; grind)).symm | exact congrArg Value.bool (decide_eq_false (by unfold BareP; grind)).symm | exact congrArg Value.bool (decide_eq_decide.2 (by unfold BareP; grind)) | exact congrArg Value.bool (by unfold BareP; grind)) (Sub.cons (s := 0) rfl (Sub.cons (s := 1) rfl (Sub.cons (s := 2) rfl (Sub.cons (s := 4) rfl (Sub.cons (s := 5) rfl (Sub.cons (s := 9) rfl (Sub.cons (s := 10) rfl (Sub.cons (s := 11) rfl (Sub.cons (s := 12) rfl (Sub.nil _)))))))))))
                      · skip
                        refine Lx.gF rfl rfl rfl rfl ?_
                        refine Lx.gF rfl rfl rfl rfl ?_
                        refine Lx.gF rfl rfl rfl rfl ?_
                        refine Lx.gF rfl rfl rfl rfl ?_
                        refine Lx.gT rfl rfl rfl ?_
                        refine Lx.y (pickF rfl rfl) rfl ?_
                        refine Lx.y (pickF rfl rfl) rfl ?_
                        refine Lx.nil ?_
                        exact Xx.mkK (⟨rfl, rfl, rfl⟩) (Sub.consE (s := 68) rfl (by unfold badP; first | exact congrArg Value.bool (decide_eq_true (by unfold BareP; grind)).symm | exact congrArg Value.bool (decide_eq_false (by unfold BareP; grind)).symm | exact congrArg Value.bool (decide_eq_decide.2 (by unfold BareP; grind)) | exact congrArg Value.bool (by unfold BareP; grind)) (Sub.cons (s := 0) rfl (Sub.cons (s := 1) rfl (Sub.cons (s := 2) rfl (Sub.cons (s := 4) rfl (Sub.cons (s := 5) rfl (Sub.cons (s := 9) rfl (Sub.cons (s := 10) rfl (Sub.cons (s := 11) rfl (Sub.cons (s := 12) rfl (Sub.nil _)))))))))))
              · skip
                refine Lx.gF rfl rfl rfl rfl ?_
                refine Lx.gF rfl rfl rfl rfl ?_
                refine Lx.gF rfl rfl rfl rfl ?_
                refine Lx.gT rfl rfl rfl ?_
                refine Lx.y (pickF rfl rfl) rfl ?_
                refine Lx.y (pickF rfl rfl) rfl ?_
                refine Lx.y (mv rfl) rfl ?_
                refine Lx.gT rfl rfl rfl ?_
                refine Lx.y (mv rfl) rfl ?_
                refine Lx.gT rfl rfl rfl ?_
                refine Lx.y (neI rfl rfl) rfl ?_
                refine Lx.gT rfl rfl rfl ?_
                refine Lx.y (mv rfl) rfl ?_
                refine Xx.ifN (t := 39) rfl (fun h29 => ?_) (fun h29 => ?_)
                · skip
                  refine Lx.gT rfl rfl rfl ?_
                  refine Lx.y (mv rfl) rfl ?_
                  refine Lx.gT rfl rfl rfl ?_
                  refine Lx.y (neI rfl rfl) rfl ?_
                  refine Lx.gT rfl rfl rfl ?_
                  refine Lx.y (pickT rfl rfl) rfl ?_
                  refine Lx.gT rfl rfl rfl ?_
                  refine Lx.y (mv rfl) rfl ?_
                  refine Xx.ifN (t := 43) rfl (fun h30 => ?_) (fun h30 => ?_)
                  · skip
                    refine Lx.gT rfl rfl rfl ?_
                    refine Lx.y (fa' fo53_3 rfl) rfl ?_
                    refine Lx.gT rfl rfl rfl ?_
                    refine Lx.y (ld Try.underlying9 rfl rfl rfl) rfl ?_
                    refine Lx.gT rfl rfl rfl ?_
                    refine Lx.y (neS rfl rfl) rfl ?_
                    refine Lx.gT rfl rfl rfl ?_
                    refine Lx.y (pickT rfl rfl) rfl ?_
                    refine Lx.y (pickF rfl rfl) rfl ?_
                    refine Lx.y (mv rfl) rfl ?_
                    refine Xx.ifN (t := 49) rfl (fun h31 => ?_) (fun h31 => ?_)
                    · skip
                      refine Lx.gF rfl rfl rfl rfl ?_
                      refine Lx.gF rfl rfl rfl rfl ?_
                      refine Lx.gF rfl rfl rfl rfl ?_
                      refine Lx.gU rfl rfl rfl rfl ?_
                      refine Lx.gU rfl rfl rfl rfl ?_
                      refine Lx.gU rfl rfl rfl rfl ?_
                      refine Lx.gU rfl rfl rfl rfl ?_
                      refine Lx.gF rfl rfl rfl rfl ?_
                      refine Lx.y (pickT rfl rfl) rfl ?_
                      refine Lx.y (mv rfl) rfl ?_
                      refine Lx.gF rfl rfl rfl rfl ?_
                      refine Lx.gF rfl rfl rfl rfl ?_
                      refine Lx.gF rfl rfl rfl rfl ?_
                      refine Lx.gU rfl rfl rfl rfl ?_
                      refine Lx.gU rfl rfl rfl rfl ?_
                      refine Lx.gU rfl rfl rfl rfl ?_
                      refine Lx.gU rfl rfl rfl rfl ?_
                      refine Lx.gF rfl rfl rfl rfl ?_
                      refine Lx.y (pickT rfl rfl) rfl ?_
                      refine Lx.nil ?_
                      exact Xx.mkK (⟨rfl, rfl, rfl⟩) (Sub.consE (s := 68) rfl (by unfold badP; first | exact congrArg Value.bool (decide_eq_true (by unfold BareP; grind)).symm | exact congrArg Value.bool (decide_eq_false (by unfold BareP; grind)).symm | exact congrArg Value.bool (decide_eq_decide.2 (by unfold BareP; grind)) | exact congrArg Value.bool (by unfold BareP; grind)) (Sub.cons (s := 0) rfl (Sub.cons (s := 1) rfl (Sub.cons (s := 2) rfl (Sub.cons (s := 4) rfl (Sub.cons (s := 5) rfl (Sub.cons (s := 9) rfl (Sub.cons (s := 10) rfl (Sub.cons (s := 11) rfl (Sub.cons (s := 12) rfl (Sub.nil _)))))))))))
                    · skip
                      refine Lx.gT rfl rfl rfl ?_
                      refine Lx.y (mv rfl) rfl ?_
                      refine Lx.gT rfl rfl rfl ?_
                      refine Lx.y (lss rfl rfl) rfl ?_
                      refine Lx.gT rfl rfl rfl ?_
                      refine Lx.y (mv rfl) rfl ?_
                      refine Xx.ifD (t := 52) rfl (fun h32 => ?_) (fun h32 => ?_)
                      · skip
                        refine Lx.gT rfl rfl rfl ?_
                        refine Lx.y (fa' fo53_4 rfl) rfl ?_
                        refine Lx.gT rfl rfl rfl ?_
                        refine Lx.y (ld Try.underlying51 rfl rfl rfl) rfl ?_
                        refine Lx.gT rfl rfl rfl ?_
                        refine Lx.y (lenV (ty' := 0) Try.underlying51 rfl) rfl ?_
                        refine Lx.gT rfl rfl rfl ?_
                        refine Lx.y (gtr rfl rfl) rfl ?_
                        refine Lx.gT rfl rfl rfl ?_
                        refine Lx.y (pickT rfl rfl) rfl ?_
                        refine Lx.y (pickF rfl rfl) rfl ?_
                        refine Lx.y (mv rfl) rfl ?_
                        refine Xx.ifD (t := 59) rfl (fun h33 => ?_) (fun h33 => ?_)
                        · skip
                          refine Lx.gF rfl rfl rfl rfl ?_
                          refine Lx.gF rfl rfl rfl rfl ?_
                          refine Lx.gF rfl rfl rfl rfl ?_
                          refine Lx.gU rfl rfl rfl rfl ?_
                          refine Lx.gU rfl rfl rfl rfl ?_
                          refine Lx.gU rfl rfl rfl rfl ?_
                          refine Lx.gU rfl rfl rfl rfl ?_
                          refine Lx.gF rfl rfl rfl rfl ?_
                          refine Lx.y (pickT rfl rfl) rfl ?_
                          refine Lx.nil ?_
                          exact Xx.mkK (⟨rfl, rfl, rfl⟩) (Sub.consE (s := 68) rfl (by unfold badP; first | exact congrArg Value.bool (decide_eq_true (by unfold BareP; grind)).symm | exact congrArg Value.bool (decide_eq_false (by unfold BareP; grind)).symm | exact congrArg Value.bool (decide_eq_decide.2 (by unfold BareP; grind)) | exact congrArg Value.bool (by unfold BareP; grind)) (Sub.cons (s := 0) rfl (Sub.cons (s := 1) rfl (Sub.cons (s := 2) rfl (Sub.cons (s := 4) rfl (Sub.cons (s := 5) rfl (Sub.cons (s := 9) rfl (Sub.cons (s := 10) rfl (Sub.cons (s := 11) rfl (Sub.cons (s := 12) rfl (Sub.nil _)))))))))))
                        · skip
                          refine Lx.gT rfl rfl rfl ?_
                          refine Lx.y (mv rfl) rfl ?_
                          refine Lx.gT rfl rfl rfl ?_
                          refine Lx.y (neI rfl rfl) rfl ?_
                          refine Lx.gT rfl rfl rfl ?_
                          refine Lx.y (mv rfl) rfl ?_
                          refine Xx.ifN (t := 62) rfl (fun h34 => ?_) (fun h34 => ?_)
                          · skip
                            refine Lx.gT rfl rfl rfl ?_
                            refine Lx.y (fa' fo53_5 rfl) rfl ?_
                            refine Lx.gT rfl rfl rfl ?_
                            refine Lx.y (ld Try.underlying22 rfl rfl rfl) rfl ?_
                            refine Lx.gT rfl rfl rfl ?_
                            refine Lx.y (lenV (ty' := 0) Try.underlying22 rfl) rfl ?_
                            refine Lx.gT rfl rfl rfl ?_
                            refine Lx.y (gtr rfl rfl) rfl ?_
                            refine Lx.gT rfl rfl rfl ?_
                            refine Lx.y (pickT rfl rfl) rfl ?_
                            refine Lx.y (pickF rfl rfl) rfl ?_
                            refine Lx.nil ?_
                            exact Xx.mkK (⟨rfl, rfl, rfl⟩) (Sub.consE (s := 68) rfl (by unfold badP; first | exact congrArg Value.bool (decide_eq_true (by unfold BareP; grind)).symm | exact congrArg Value.bool (decide_eq_false (by unfold BareP; grind)).symm | exact congrArg Value.bool (decide_eq_decide.2 (by unfold BareP; grind)) | exact congrArg Value.bool (by unfold BareP; grind)) (Sub.cons (s := 0) rfl (Sub.cons (s := 1) rfl (Sub.cons (s := 2) rfl (Sub.cons (s := 4) rfl (Sub.cons (s := 5) rfl (Sub.cons (s := 9) rfl (Sub.cons (s := 10) rfl (Sub.cons (s := 11) rfl (Sub.cons (s := 12) rfl (Sub.nil _)))))))))))
                          · skip
                            refine Lx.gF rfl rfl rfl rfl ?_
                            refine Lx.gF rfl rfl rfl rfl ?_
                            refine Lx.gF rfl rfl rfl rfl ?_
                            refine Lx.gF rfl rfl rfl rfl ?_
                            refine Lx.gT rfl rfl rfl ?_
                            refine Lx.y (pickF rfl rfl) rfl ?_
                            refine Lx.y (pickF rfl rfl) rfl ?_
                            refine Lx.nil ?_
                            exact Xx.mkK (⟨rfl, rfl, rfl⟩) (Sub.consE (s := 68) rfl (by unfold badP; first | exact congrArg Value.bool (decide_eq_true (by unfold BareP; grind)).symm | exact congrArg Value.bool (decide_eq_false (by unfold BareP; grind)).symm | exact congrArg Value.bool (decide_eq_decide.2 (by unfold BareP; grind)) | exact congrArg Value.bool (by unfold BareP; grind)) (Sub.cons (s := 0) rfl (Sub.cons (s := 1) rfl (Sub.cons (s := 2) rfl (Sub.cons (s := 4) rfl (Sub.cons (s := 5) rfl (Sub.cons (s := 9) rfl (Sub.cons (s := 10) rfl (Sub.cons (s := 11) rfl (Sub.cons (s := 12) rfl (Sub.nil _)))))))))))
                      · skip
                        refine Lx.gF rfl rfl rfl rfl ?_
                        refine Lx.gF rfl rfl rfl rfl ?_
                        refine Lx.gF rfl rfl rfl rfl ?_
                        refine Lx.gF rfl rfl rfl rfl ?_
                        refine Lx.gT rfl rfl rfl ?_
                        refine Lx.y (pickF rfl rfl) rfl ?_
                        refine Lx.y (pickF rfl rfl) rfl ?_
                        refine Lx.y (mv rfl) rfl ?_
                        refine Lx.gT rfl rfl rfl ?_
                        refine Lx.y (mv rfl) rfl ?_
                        refine Lx.gT rfl rfl rfl ?_
                        refine Lx.y (neI rfl rfl) rfl ?_
                        refine Lx.gT rfl rfl rfl ?_
                        refine Lx.y (mv rfl) rfl ?_
                        refine Xx.ifN (t := 62) rfl (fun h35 => ?_) (fun h35 => ?_)
                        · skip
                          refine Lx.gT rfl rfl rfl ?_
                          refine Lx.y (fa' fo53_5 rfl) rfl ?_
                          refine Lx.gT rfl rfl rfl ?_
                          refine Lx.y (ld Try.underlying22 rfl rfl rfl) rfl ?_
                          refine Lx.gT rfl rfl rfl ?_
                          refine Lx.y (lenV (ty' := 0) Try.underlying22 rfl) rfl ?_
                          refine Lx.gT rfl rfl rfl ?_
                          refine Lx.y (gtr rfl rfl) rfl ?_
                          refine Lx.gT rfl rfl rfl ?_
                          refine Lx.y (pickT rfl rfl) rfl ?_
                          refine Lx.y (pickF rfl rfl) rfl ?_
                          refine Lx.nil ?_
                          exact Xx.mkK (⟨rfl, rfl, rfl⟩) (Sub.consE (s := 68) rfl (by unfold badP; first | exact congrArg Value.bool (decide_eq_true (by unfold BareP; grind)).symm | exact congrArg Value.bool (decide_eq_false (by unfold BareP; grind)).symm | exact congrArg Value.bool (decide_eq_decide.2 (by unfold BareP; grind)) | exact congrArg Value.bool (by unfold BareP; grind)) (Sub.cons (s := 0) rfl (Sub.cons (s := 1) rfl (Sub.cons (s := 2) rfl (Sub.cons (s := 4) rfl (Sub.cons (s := 5) rfl (Sub.cons (s := 9) rfl (Sub.cons (s := 10) rfl (Sub.cons (s := 11) rfl (Sub.cons (s := 12) rfl (Sub.nil _)))))))))))
                        · skip
                          refine Lx.gF rfl rfl rfl rfl ?_
                          refine Lx.gF rfl rfl rfl rfl ?_
                          refine Lx.gF rfl rfl rfl rfl ?_
                          refine Lx.gF rfl rfl rfl rfl ?_
                          refine Lx.gT rfl rfl rfl ?_
                          refine Lx.y (pickF rfl rfl) rfl ?_
                          refine Lx.y (pickF rfl rfl) rfl ?_
                          refine Lx.nil ?_
                          exact Xx.mkK (⟨rfl, rfl, rfl⟩) (Sub.consE (s := 68) rfl (by unfold badP; first | exact congrArg Value.bool (decide_eq_true (by unfold BareP; grind)).symm | exact congrArg Value.bool (decide_eq_false (by unfold BareP; grind)).symm | exact congrArg Value.bool (decide_eq_decide.2 (by unfold BareP; grind)) | exact congrArg Value.bool (by unfold BareP; grind)) (Sub.cons (s := 0) rfl (Sub.cons (s := 1) rfl (Sub.cons (s := 2) rfl (Sub.cons (s := 4) rfl (Sub.cons (s := 5) rfl (Sub.cons (s := 9) rfl (Sub.cons (s := 10) rfl (Sub.cons (s := 11) rfl (Sub.cons (s := 12) rfl (Sub.nil _)))))))))))
                  · skip
                    refine Lx.gF rfl rfl rfl rfl ?_
                    refine Lx.gF rfl rfl rfl rfl ?_
                    refine Lx.gF rfl rfl rfl rfl ?_
                    refine Lx.gT rfl rfl rfl ?_
                    refine Lx.y (pickF rfl rfl) rfl ?_
                    refine Lx.y (pickF rfl rfl) rfl ?_
                    refine Lx.y (mv rfl) rfl ?_
                    refine Lx.gT rfl rfl rfl ?_
                    refine Lx.y (mv rfl) rfl ?_
                    refine Lx.gT rfl rfl rfl ?_
                    refine Lx.y (lss rfl rfl) rfl ?_
                    refine Lx.gT rfl rfl rfl ?_
                    refine Lx.y (mv rfl) rfl ?_
                    refine Xx.ifD (t := 52) rfl (fun h36 => ?_) (fun h36 => ?_)
                    · skip
                      refine Lx.gT rfl rfl rfl ?_
                      refine Lx.y (fa' fo53_4 rfl) rfl ?_
                      refine Lx.gT rfl rfl rfl ?_
                      refine Lx.y (ld Try.underlying51 rfl rfl rfl) rfl ?_
                      refine Lx.gT rfl rfl rfl ?_
                      refine Lx.y (lenV (ty' := 0) Try.underlying51 rfl) rfl ?_
                      refine Lx.gT rfl rfl rfl ?_
                      refine Lx.y (gtr rfl rfl) rfl ?_
                      refine Lx.gT rfl rfl rfl ?_
                      refine Lx.y (pickT rfl rfl) rfl ?_
                      refine Lx.y (pickF rfl rfl) rfl ?_
                      refine Lx.y (mv rfl) rfl ?_
                      refine Xx.ifD (t := 59) rfl (fun h37 => ?_) (fun h37 => ?_)
                      · skip
                        refine Lx.gF rfl rfl rfl rfl ?_
                        refine Lx.gF rfl rfl rfl rfl ?_
                        refine Lx.gF rfl rfl rfl rfl ?_
                        refine Lx.gU rfl rfl rfl rfl ?_
                        refine Lx.gU rfl rfl rfl rfl ?_
                        refine Lx.gU rfl rfl rfl rfl ?_
                        refine Lx.gU rfl rfl rfl rfl ?_
                        refine Lx.gF rfl rfl rfl rfl ?_
                        refine Lx.y (pickT rfl rfl) rfl ?_
                        refine Lx.nil ?_
                        exact Xx.mkK (⟨rfl, rfl, rfl⟩) (Sub.consE (s := 68) rfl (by unfold badP; first | exact congrArg Value.bool (decide_eq_true (by unfold BareP; grind)).symm | exact congrArg Value.bool (decide_eq_false (by unfold BareP; grind)).symm | exact congrArg Value.bool (decide_eq_decide.2 (by unfold BareP; grind)) | exact congrArg Value.bool (by unfold BareP; grind)) (Sub.cons (s := 0) rfl (Sub.cons (s := 1) rfl (Sub.cons (s := 2) rfl (Sub.cons (s := 4) rfl (Sub.cons (s := 5) rfl (Sub.cons (s := 9) rfl (Sub.cons (s := 10) rfl (Sub.cons (s := 11) rfl (Sub.cons (s := 12) rfl (Sub.nil _)))))))))))
                      · skip
                        refine Lx.gT rfl rfl rfl ?_
                        refine Lx.y (mv rfl) rfl ?_
                        refine Lx.gT rfl rfl rfl ?_
                        refine Lx.y (neI rfl rfl) rfl ?_
                        refine Lx.gT rfl rfl rfl ?_
                        refine Lx.y (mv rfl) rfl ?_
                        refine Xx.ifN (t := 62) rfl (fun h38 => ?_) (fun h38 => ?_)
                        · skip
                          refine Lx.gT rfl rfl rfl ?_
                          refine Lx.y (fa' fo53_5 rfl) rfl ?_
                          refine Lx.gT rfl rfl rfl ?_
                          refine Lx.y (ld Try.underlying22 rfl rfl rfl) rfl ?_
                          refine Lx.gT rfl rfl rfl ?_
                          refine Lx.y (lenV (ty' := 0) Try.underlying22 rfl) rfl ?_
                          refine Lx.gT rfl rfl rfl ?_
                          refine Lx.y (gtr rfl rfl) rfl ?_
                          refine Lx.gT rfl rfl rfl ?_
                          refine Lx.y (pickT rfl rfl) rfl ?_
                          refine Lx.y (pickF rfl rfl) rfl ?_
                          refine Lx.nil ?_
                          exact Xx.mkK (⟨rfl, rfl, rfl⟩) (Sub.consE (s := 68) rfl (by unfold badP; first | exact congrArg Value.bool (decide_eq_true (by unfold BareP; grind)).symm | exact congrArg Value.bool (decide_eq_false (by unfold BareP; grind)).symm | exact congrArg Value.bool (decide_eq_decide.2 (by unfold BareP; grind)) | exact congrArg Value.bool (by unfold BareP; grind)) (Sub.cons (s := 0) rfl (Sub.cons (s := 1) rfl (Sub.cons (s := 2) rfl (Sub.cons (s := 4) rfl (Sub.cons (s := 5) rfl (Sub.cons (s := 9) rfl (Sub.cons (s := 10) rfl (Sub.cons (s := 11) rfl (Sub.cons (s := 12) rfl (Sub.nil _)))))))))))
                        · skip
                          refine Lx.gF rfl rfl rfl rfl ?_
                          refine Lx.gF rfl rfl rfl rfl ?_
                          refine Lx.gF rfl rfl rfl rfl ?_
                          refine Lx.gF rfl rfl rfl rfl ?_
                          refine Lx.gT rfl rfl rfl ?_
                          refine Lx.y (pickF rfl rfl) rfl ?_
                          refine Lx.y (pickF rfl rfl) rfl ?_
                          refine Lx.nil ?_
                          exact Xx.mkK (⟨rfl, rfl, rfl⟩) (Sub.consE (s := 68) rfl (by unfold badP; first | exact congrArg Value.bool (decide_eq_true (by unfold BareP; grind)).symm | exact congrArg Value.bool (decide_eq_false (by unfold BareP; grind)).symm | exact congrArg Value.bool (decide_eq_decide.2 (by unfold BareP; grind)) | exact congrArg Value.bool (by unfold BareP; grind)) (Sub.cons (s := 0) rfl (Sub.cons (s := 1) rfl (Sub.cons (s := 2) rfl (Sub.cons (s := 4) rfl (Sub.cons (s := 5) rfl (Sub.cons (s := 9) rfl (Sub.cons (s := 10) rfl (Sub.cons (s := 11) rfl (Sub.cons (s := 12) rfl (Sub.nil _)))))))))))
                    · skip
                      refine Lx.gF rfl rfl rfl rfl ?_
                      refine Lx.gF rfl rfl rfl rfl ?_
                      refine Lx.gF rfl rfl rfl rfl ?_
                      refine Lx.gF rfl rfl rfl rfl ?_
                      refine Lx.gT rfl rfl rfl ?_
                      refine Lx.y (pickF rfl rfl) rfl ?_
                      refine Lx.y (pickF rfl rfl) rfl ?_
                      refine Lx.y (mv rfl) rfl ?_
                      refine Lx.gT rfl rfl rfl ?_
                      refine Lx.y (mv rfl) rfl ?_
                      refine Lx.gT rfl rfl rfl ?_
                      refine Lx.y (neI rfl rfl) rfl ?_
                      refine Lx.gT rfl rfl rfl ?_
                      refine Lx.y (mv rfl) rfl ?_
                      refine Xx.ifN (t := 62) rfl (fun h39 => ?_) (fun h39 => ?_)
                      · skip
                        refine Lx.gT rfl rfl rfl ?_
                        refine Lx.y (fa' fo53_5 rfl) rfl ?_
                        refine Lx.gT rfl rfl rfl ?_
                        refine Lx.y (ld Try.underlying22 rfl rfl rfl) rfl ?_
                        refine Lx.gT rfl rfl rfl ?_
                        refine Lx.y (lenV (ty' := 0) Try.underlying22 rfl) rfl ?_
                        refine Lx.gT rfl rfl rfl ?_
                        refine Lx.y (gtr rfl rfl) rfl ?_
                        refine Lx.gT rfl rfl rfl ?_
                        refine Lx.y (pickT rfl rfl) rfl ?_
                        refine Lx.y (pickF rfl rfl) rfl ?_
                        refine Lx.nil ?_
                        exact Xx.mkK (⟨rfl, rfl, rfl⟩) (Sub.consE (s := 68) rfl (by unfold badP; first | exact congrArg Value.bool (decide_eq_true (by unfold BareP; grind)).symm | exact congrArg Value.bool (decide_eq_false (by unfold BareP; grind)).symm | exact congrArg Value.bool (decide_eq_decide.2 (by unfold BareP; grind)) | exact congrArg Value.bool (by unfold BareP; grind)) (Sub.cons (s := 0) rfl (Sub.cons (s := 1) rfl (Sub.cons (s := 2) rfl (Sub.cons (s := 4) rfl (Sub.cons (s := 5) rfl (Sub.cons (s := 9) rfl (Sub.cons (s := 10) rfl (Sub.cons (s := 11) rfl (Sub.cons (s := 12) rfl (Sub.nil _)))))))))))
                      · skip
                        refine Lx.gF rfl rfl rfl rfl ?_
                        refine Lx.gF rfl rfl rfl rfl ?_
                        refine Lx.gF rfl rfl rfl rfl ?_
                        refine Lx.gF rfl rfl rfl rfl ?_
                        refine Lx.gT rfl rfl rfl ?_
                        refine Lx.y (pickF rfl rfl) rfl ?_
                        refine Lx.y (pickF rfl rfl) rfl ?_
                        refine Lx.nil ?_
                        exact Xx.mkK (⟨rfl, rfl, rfl⟩) (Sub.consE (s := 68) rfl (by unfold badP; first | exact congrArg Value.bool (decide_eq_true (by unfold BareP; grind)).symm | exact congrArg Value.bool (decide_eq_false (by unfold BareP; grind)).symm | exact congrArg Value.bool (decide_eq_decide.2 (by unfold BareP; grind)) | exact congrArg Value.bool (by unfold BareP; grind)) (Sub.cons (s := 0) rfl (Sub.cons (s := 1) rfl (Sub.cons (s := 2) rfl (Sub.cons (s := 4) rfl (Sub.cons (s := 5) rfl (Sub.cons (s := 9) rfl (Sub.cons (s := 10) rfl (Sub.cons (s := 11) rfl (Sub.cons (s := 12) rfl (Sub.nil _)))))))))))
                · skip
                  refine Lx.gF rfl rfl rfl rfl ?_
                  refine Lx.gF rfl rfl rfl rfl ?_
                  refine Lx.gT rfl rfl rfl ?_
                  refine Lx.y (pickF rfl rfl) rfl ?_
                  refine Lx.gT rfl rfl rfl ?_
                  refine Lx.y (mv rfl) rfl ?_
                  refine Lx.gF rfl rfl rfl rfl ?_
                  refine Lx.gF rfl rfl rfl rfl ?_
                  refine Lx.gF rfl rfl rfl rfl ?_
                  refine Lx.gT rfl rfl rfl ?_
                  refine Lx.y (pickF rfl rfl) rfl ?_
                  refine Lx.y (pickF rfl rfl) rfl ?_
                  refine Lx.y (mv rfl) rfl ?_
                  refine Lx.gT rfl rfl rfl ?_
                  refine Lx.y (mv rfl) rfl ?_
                  refine Lx.gT rfl rfl rfl ?_
                  refine Lx.y (lss rfl rfl) rfl ?_
                  refine Lx.gT rfl rfl rfl ?_
                  refine Lx.y (mv rfl) rfl ?_
                  refine Xx.ifD (t := 52) rfl (fun h40 => ?_) (fun h40 => ?_)
                  · skip
                    refine Lx.gT rfl rfl rfl ?_
                    refine Lx.y (fa' fo53_4 rfl) rfl ?_
                    refine Lx.gT rfl rfl rfl ?_
                    refine Lx.y (ld Try.underlying51 rfl rfl rfl) rfl ?_
                    refine Lx.gT rfl rfl rfl ?_
                    refine Lx.y (lenV (ty' := 0) Try.underlying51 rfl) rfl ?_
                    refine Lx.gT rfl rfl rfl ?_
                    refine Lx.y (gtr rfl rfl) rfl ?_
                    refine Lx.gT rfl rfl rfl ?_
                    refine Lx.y (pickT rfl rfl) rfl ?_
                    refine Lx.y (pickF rfl rfl) rfl ?_
                    refine Lx.y (mv rfl) rfl ?_
                    refine Xx.ifD (t := 59) rfl (fun h41 => ?_) (fun h41 => ?_)
                    · skip
                      refine Lx.gF rfl rfl rfl rfl ?_
                      refine Lx.gF rfl rfl rfl rfl ?_
                      refine Lx.gF rfl rfl rfl rfl ?_
                      refine Lx.gU rfl rfl rfl rfl ?_
                      refine Lx.gU rfl rfl rfl rfl ?_
                      refine Lx.gU rfl rfl rfl rfl ?_
                      refine Lx.gU rfl rfl rfl rfl ?_
                      refine Lx.gF rfl rfl rfl rfl ?_
                      refine Lx.y (pickT rfl rfl) rfl ?_
                      refine Lx.nil ?_
                      exact Xx.mkK (⟨rfl, rfl, rfl⟩) (Sub.consE (s := 68) rfl (by unfold badP; first | exact congrArg Value.bool (decide_eq_true (by unfold BareP; grind)).symm | exact congrArg Value.bool (decide_eq_false (by unfold BareP; grind)).symm | exact congrArg Value.bool (decide_eq_decide.2 (by unfold BareP; grind)) | exact congrArg Value.bool (by unfold BareP; grind)) (Sub.cons (s := 0) rfl (Sub.cons (s := 1) rfl (Sub.cons (s := 2) rfl (Sub.cons (s := 4) rfl (Sub.cons (s := 5) rfl (Sub.cons (s := 9) rfl (Sub.cons (s := 10) rfl (Sub.cons (s := 11) rfl (Sub.cons (s := 12) rfl (Sub.nil _)))))))))))
                    · skip
                      refine Lx.gT rfl rfl rfl ?_
                      refine Lx.y (mv rfl) rfl ?_
                      refine Lx.gT rfl rfl rfl ?_
                      refine Lx.y (neI rfl rfl) rfl ?_
                      refine Lx.gT rfl rfl rfl ?_
                      refine Lx.y (mv rfl) rfl ?_
                      refine Xx.ifN (t := 62) rfl (fun h42 => ?_) (fun h42 => ?_)
                      · skip
                        refine Lx.gT rfl rfl rfl ?_
                        refine Lx.y (fa' fo53_5 rfl) rfl ?_
                        refine Lx.gT rfl rfl rfl ?_
                        refine Lx.y (ld Try.underlying22 rfl rfl rfl) rfl ?_
                        refine Lx.gT rfl rfl rfl ?_
                        refine Lx.y (lenV (ty' := 0) Try.underlying22 rfl) rfl ?_
                        refine Lx.gT rfl rfl rfl ?_
                        refine Lx.y (gtr rfl rfl) rfl ?_
                        refine Lx.gT rfl rfl rfl ?_
                        refine Lx.y (pickT rfl rfl) rfl ?_
                        refine Lx.y (pickF rfl rfl) rfl ?_
                        refine Lx.nil ?_
                        exact Xx.mkK (⟨rfl, rfl, rfl⟩) (Sub.consE (s := 68) rfl (by unfold badP; first | exact congrArg Value.bool (decide_eq_true (by unfold BareP; grind)).symm | exact congrArg Value.bool (decide_eq_false (by unfold BareP; grind)).symm | exact congrArg Value.bool (decide_eq_decide.2 (by unfold BareP; grind)) | exact congrArg Value.bool (by unfold BareP; grind)) (Sub.cons (s := 0) rfl (Sub.cons (s := 1) rfl (Sub.cons (s := 2) rfl (Sub.cons (s := 4) rfl (Sub.cons (s := 5) rfl (Sub.cons (s := 9) rfl (Sub.cons (s := 10) rfl (Sub.cons (s := 11) rfl (Sub.cons (s := 12) rfl (Sub.nil _)))))))))))
                      · skip
                        refine Lx.gF rfl rfl rfl rfl ?_
                        refine Lx.gF rfl rfl rfl rfl ?_
                        refine Lx.gF rfl rfl rfl rfl ?_
                        refine Lx.gF rfl rfl rfl rfl ?_
                        refine Lx.gT rfl rfl rfl ?_
                        refine Lx.y (pickF rfl rfl) rfl ?_
                        refine Lx.y (pickF rfl rfl) rfl ?_
                        refine Lx.nil ?_
                        exact Xx.mkK (⟨rfl, rfl, rfl⟩) (Sub.consE (s := 68) rfl (by unfold badP; first | exact congrArg Value.bool (decide_eq_true (by unfold BareP; grind)).symm | exact congrArg Value.bool (decide_eq_false (by unfold BareP; grind)).symm | exact congrArg Value.bool (decide_eq_decide.2 (by unfold BareP; grind)) | exact congrArg Value.bool (by unfold BareP; grind)) (Sub.cons (s := 0) rfl (Sub.cons (s := 1) rfl (Sub.cons (s := 2) rfl (Sub.cons (s := 4) rfl (Sub.cons (s := 5) rfl (Sub.cons (s := 9) rfl (Sub.cons (s := 10) rfl (Sub.cons (s := 11) rfl (Sub.cons (s := 12) rfl (Sub.nil _)))))))))))
                  · skip
                    refine Lx.gF rfl rfl rfl rfl ?_
                    refine Lx.gF rfl rfl rfl rfl ?_
                    refine Lx.gF rfl rfl rfl rfl ?_
                    refine Lx.gF rfl rfl rfl rfl ?_
                    refine Lx.gT rfl rfl rfl ?_
                    refine Lx.y (pickF rfl rfl) rfl ?_
                    refine Lx.y (pickF rfl rfl) rfl ?_
                    refine Lx.y (mv rfl) rfl ?_
                    refine Lx.gT rfl rfl rfl ?_
                    refine Lx.y (mv rfl) rfl ?_
                    refine Lx.gT rfl rfl rfl ?_
                    refine Lx.y (neI rfl rfl) rfl ?_
                    refine Lx.gT rfl rfl rfl ?_
                    refine Lx.y (mv rfl) rfl ?_
                    refine Xx.ifN (t := 62) rfl (fun h43 => ?_) (fun h43 => ?_)
                    · skip
                      refine Lx.gT rfl rfl rfl ?_
                      refine Lx.y (fa' fo53_5 rfl) rfl ?_
                      refine Lx.gT rfl rfl rfl ?_
                      refine Lx.y (ld Try.underlying22 rfl rfl rfl) rfl ?_
                      refine Lx.gT rfl rfl rfl ?_
                      refine Lx.y (lenV (ty' := 0) Try.underlying22 rfl) rfl ?_
                      refine Lx.gT rfl rfl rfl ?_
                      refine Lx.y (gtr rfl rfl) rfl ?_
                      refine Lx.gT rfl rfl rfl ?_
                      refine Lx.y (pickT rfl rfl) rfl ?_
                      refine Lx.y (pickF rfl rfl) rfl ?_
                      refine Lx.nil ?_
                      exact Xx.mkK (⟨rfl, rfl, rfl⟩) (Sub.consE (s := 68) rfl (by unfold badP; first | exact congrArg Value.bool (decide_eq_true (by unfold BareP; grind)).symm | exact congrArg Value.bool (decide_eq_false (by unfold BareP; grind)).symm | exact congrArg Value.bool (decide_eq_decide.2 (by unfold BareP; grind)) | exact congrArg Value.bool (by unfold BareP; grind)) (Sub.cons (s := 0) rfl (Sub.cons (s := 1) rfl (Sub.cons (s := 2) rfl (Sub.cons (s := 4) rfl (Sub.cons (s := 5) rfl (Sub.cons (s := 9) rfl (Sub.cons (s := 10) rfl (Sub.cons (s := 11) rfl (Sub.cons (s := 12) rfl (Sub.nil _)))))))))))
                    · skip
                      refine Lx.gF rfl rfl rfl rfl ?_
                      refine Lx.gF rfl rfl rfl rfl ?_
                      refine Lx.gF rfl rfl rfl rfl ?_
                      refine Lx.gF rfl rfl rfl rfl ?_
                      refine Lx.gT rfl rfl rfl ?_
                      refine Lx.y (pickF rfl rfl) rfl ?_
                      refine Lx.y (pickF rfl rfl) rfl ?_
                      refine Lx.nil ?_
                      exact Xx.mkK (⟨rfl, rfl, rfl⟩) (Sub.consE (s := 68) rfl (by unfold badP; first | exact congrArg Value.bool (decide_eq_true (by unfold BareP; grind)).symm | exact congrArg Value.bool (decide_eq_false (by unfold BareP; grind)).symm | exact congrArg Value.bool (decide_eq_decide.2 (by unfold BareP; grind)) | exact congrArg Value.bool (by unfold BareP; grind)) (Sub.cons (s := 0) rfl (Sub.cons (s := 1) rfl (Sub.cons (s := 2) rfl (Sub.cons (s := 4) rfl (Sub.cons (s := 5) rfl (Sub.cons (s := 9) rfl (Sub.cons (s := 10) rfl (Sub.cons (s := 11) rfl (Sub.cons (s := 12) rfl (Sub.nil _)))))))))))
          · skip
            refine Lx.gF rfl rfl rfl rfl ?_
            refine Lx.gF rfl rfl rfl rfl ?_
            refine Lx.gT rfl rfl rfl ?_
            refine Lx.y (pickF rfl rfl) rfl ?_
            refine Lx.y (pickF rfl rfl) rfl ?_
            refine Lx.y (mv rfl) rfl ?_
            refine Lx.gT rfl rfl rfl ?_
            refine Lx.y (mv rfl) rfl ?_
            refine Lx.gT rfl rfl rfl ?_
            refine Lx.y (neI rfl rfl) rfl ?_
            refine Lx.gT rfl rfl rfl ?_
            refine Lx.y (mv rfl) rfl ?_
            refine Xx.ifN (t := 30) rfl (fun h44 => ?_) (fun h44 => ?_)
            · skip
              refine Lx.gT rfl rfl rfl ?_
              refine Lx.y (fa' fo53_2 rfl) rfl ?_
              refine Lx.gT rfl rfl rfl ?_
              refine Lx.y (ld Try.underlying2 rfl rfl rfl) rfl ?_
              refine Lx.gT rfl rfl rfl ?_
              refine Lx.y (neI rfl rfl) rfl ?_
              refine Lx.gT rfl rfl rfl ?_
              refine Lx.y (pickT rfl rfl) rfl ?_
              refine Lx.y (pickF rfl rfl) rfl ?_
              refine Lx.y (mv rfl) rfl ?_
              refine Xx.ifN (t := 36) rfl (fun h45 => ?_) (fun h45 => ?_)
              · skip
                refine Lx.gF rfl rfl rfl rfl ?_
                refine Lx.gF rfl rfl rfl rfl ?_
                refine Lx.gF rfl rfl rfl rfl ?_
                refine Lx.gU rfl rfl rfl rfl ?_
                refine Lx.gU rfl rfl rfl rfl ?_
                refine Lx.gF rfl rfl rfl rfl ?_
                refine Lx.gF rfl rfl rfl rfl ?_
                refine Lx.gU rfl rfl rfl rfl ?_
                refine Lx.gU rfl rfl rfl rfl ?_
                refine Lx.gU rfl rfl rfl rfl ?_
                refine Lx.gF rfl rfl rfl rfl ?_
                refine Lx.y (pickT rfl rfl) rfl ?_
                refine Lx.y (mv rfl) rfl ?_
                refine Lx.gF rfl rfl rfl rfl ?_
                refine Lx.gF rfl rfl rfl rfl ?_
                refine Lx.gF rfl rfl rfl rfl ?_
                refine Lx.gU rfl rfl rfl rfl ?_
                refine Lx.gU rfl rfl rfl rfl ?_
                refine Lx.gU rfl rfl rfl rfl ?_
                refine Lx.gU rfl rfl rfl rfl ?_
                refine Lx.gF rfl rfl rfl rfl ?_
                refine Lx.y (pickT rfl rfl) rfl ?_
                refine Lx.y (mv rfl) rfl ?_
                refine Lx.gF rfl rfl rfl rfl ?_
                refine Lx.gF rfl rfl rfl rfl ?_
                refine Lx.gF rfl rfl rfl rfl ?_
                refine Lx.gU rfl rfl rfl rfl ?_
                refine Lx.gU rfl rfl rfl rfl ?_
                refine Lx.gU rfl rfl rfl rfl ?_
                refine Lx.gU rfl rfl rfl rfl ?_
                refine Lx.gF rfl rfl rfl rfl ?_
                refine Lx.y (pickT rfl rfl) rfl ?_
                refine Lx.nil ?_
                exact Xx.mkK (⟨rfl, rfl, rfl⟩) (Sub.consE (s := 68) rfl (by unfold badP; first | exact congrArg Value.bool (decide_eq_true (by unfold BareP; grind)).symm | exact congrArg Value.bool (decide_eq_false (by unfold BareP; grind)).symm | exact congrArg Value.bool (decide_eq_decide.2 (by unfold BareP; grind)) | exact congrArg Value.bool (by unfold BareP; grind)) (Sub.cons (s := 0) rfl (Sub.cons (s := 1) rfl (Sub.cons (s := 2) rfl (Sub.cons (s := 4) rfl (Sub.cons (s := 5) rfl (Sub.cons (s := 9) rfl (Sub.cons (s := 10) rfl (Sub.cons (s := 11) rfl (Sub.cons (s := 12) rfl (Sub.nil _)))))))))))
              · skip
                refine Lx.gT rfl rfl rfl ?_
                refine Lx.y (mv rfl) rfl ?_
                refine Lx.gT rfl rfl rfl ?_
                refine Lx.y (neI rfl rfl) rfl ?_
                refine Lx.gT rfl rfl rfl ?_
                refine Lx.y (mv rfl) rfl ?_
                refine Xx.ifN (t := 39) rfl (fun h46 => ?_) (fun h46 => ?_)
                · skip
                  refine Lx.gT rfl rfl rfl ?_
                  refine Lx.y (mv rfl) rfl ?_
                  refine Lx.gT rfl rfl rfl ?_
                  refine Lx.y (neI rfl rfl) rfl ?_
                  refine Lx.gT rfl rfl rfl ?_
                  refine Lx.y (pickT rfl rfl) rfl ?_
                  refine Lx.gT rfl rfl rfl ?_
                  refine Lx.y (mv rfl) rfl ?_
                  refine Xx.ifN (t := 43) rfl (fun h47 => ?_) (fun h47 => ?_)
                  · skip
                    refine Lx.gT rfl rfl rfl ?_
                    refine Lx.y (fa' fo53_3 rfl) rfl ?_
                    refine Lx.gT rfl rfl rfl ?_
                    refine Lx.y (ld Try.underlying9 rfl rfl rfl) rfl ?_
                    refine Lx.gT rfl rfl rfl ?_
                    refine Lx.y (neS rfl rfl) rfl ?_
                    refine Lx.gT rfl rfl rfl ?_
                    refine Lx.y (pickT rfl rfl) rfl ?_
                    refine Lx.y (pickF rfl rfl) rfl ?_
                    refine Lx.y (mv rfl) rfl ?_
                    refine Xx.ifN (t := 49) rfl (fun h48 => ?_) (fun h48 => ?_)
                    · skip
                      refine Lx.gF rfl rfl rfl rfl ?_
                      refine Lx.gF rfl rfl rfl rfl ?_
                      refine Lx.gF rfl rfl rfl rfl ?_
                      refine Lx.gU rfl rfl rfl rfl ?_
                      refine Lx.gU rfl rfl rfl rfl ?_
                      refine Lx.gU rfl rfl rfl rfl ?_
                      refine Lx.gU rfl rfl rfl rfl ?_
                      refine Lx.gF rfl rfl rfl rfl ?_
                      refine Lx.y (pickT rfl rfl) rfl ?_
                      refine Lx.y (mv rfl) rfl ?_
                      refine Lx.gF rfl rfl rfl rfl ?_
                      refine Lx.gF rfl rfl rfl rfl ?_
                      refine Lx.gF rfl rfl rfl rfl ?_
                      refine Lx.gU rfl rfl rfl rfl ?_
                      refine Lx.gU rfl rfl rfl rfl ?_
                      refine Lx.gU rfl rfl rfl rfl ?_
                      refine Lx.gU rfl rfl rfl rfl ?_
                      refine Lx.gF rfl rfl rfl rfl ?_
                      refine Lx.y (pickT rfl rfl) rfl ?_
                      refine Lx.nil ?_
                      exact Xx.mkK (⟨rfl, rfl, rfl⟩) (Sub.consE (s := 68) rfl (by unfold badP; first | exact congrArg Value.bool (decide_eq_true (by unfold BareP; grind)).symm | exact congrArg Value.bool (decide_eq_false (by unfold BareP; grind)).symm | exact congrArg Value.bool (decide_eq_decide.2 (by unfold BareP; grind)) | exact congrArg Value.bool (by unfold BareP; grind)) (Sub.cons (s := 0) rfl (Sub.cons (s := 1) rfl (Sub.cons (s := 2) rfl (Sub.cons (s := 4) rfl (Sub.cons (s := 5) rfl (Sub.cons (s := 9) rfl (Sub.cons (s := 10) rfl (Sub.cons (s := 11) rfl (Sub.cons (s := 12) rfl (Sub.nil _)))))))))))
                    · skip
                      refine Lx.gT rfl rfl rfl ?_
                      refine Lx.y (mv rfl) rfl ?_
                      refine Lx.gT rfl rfl rfl ?_
                      refine Lx.y (lss rfl rfl) rfl ?_
                      refine Lx.gT rfl rfl rfl ?_
                      refine Lx.y (mv rfl) rfl ?_
                      refine Xx.ifD (t := 52) rfl (fun h49 => ?_) (fun h49 => ?_)
                      · skip
                        refine Lx.gT rfl rfl rfl ?_
                        refine Lx.y (fa' fo53_4 rfl) rfl ?_
                        refine Lx.gT rfl rfl rfl ?_
                        refine Lx.y (ld Try.underlying51 rfl rfl rfl) rfl ?_
                        refine Lx.gT rfl rfl rfl ?_
                        refine Lx.y (lenV (ty' := 0) Try.underlying51 rfl) rfl ?_
                        refine Lx.gT rfl rfl rfl ?_
                        refine Lx.y (gtr rfl rfl) rfl ?_
                        refine Lx.gT rfl rfl rfl ?_
                        refine Lx.y (pickT rfl rfl) rfl ?_
                        refine Lx.y (pickF rfl rfl) rfl ?_
                        refine Lx.y (mv rfl) rfl ?_
                        refine Xx.ifD (t := 59) rfl (fun h50 => ?_) (fun h50 => ?_)
                        · skip
                          refine Lx.gF rfl rfl rfl rfl ?_
                          refine Lx.gF rfl rfl rfl rfl ?_
                          refine Lx.gF rfl rfl rfl rfl ?_
                          refine Lx.gU rfl rfl rfl rfl ?_
                          refine Lx.gU rfl rfl rfl rfl ?_
                          refine Lx.gU rfl rfl rfl rfl ?_
                          refine Lx.gU rfl rfl rfl rfl ?_
                          refine Lx.gF rfl rfl rfl rfl ?_
                          refine Lx.y (pickT rfl rfl) rfl ?_
                          refine Lx.nil ?_
                          exact Xx.mkK (⟨rfl, rfl, rfl⟩) (Sub.consE (s := 68) rfl (by unfold badP; first | exact congrArg Value.bool (decide_eq_true (by unfold BareP; grind)).symm | exact congrArg Value.bool (decide_eq_false (by unfold BareP; grind)).symm | exact congrArg Value.bool (decide_eq_decide.2 (by unfold BareP; grind)) | exact congrArg Value.bool (by unfold BareP; grind)) (Sub.cons (s := 0) rfl (Sub.cons (s := 1) rfl (Sub.cons (s := 2) rfl (Sub.cons (s := 4) rfl (Sub.cons (s := 5) rfl (Sub.cons (s := 9) rfl (Sub.cons (s := 10) rfl (Sub.cons (s := 11) rfl (Sub.cons (s := 12) rfl (Sub.nil _)))))))))))
                        · skip
                          refine Lx.gT rfl rfl rfl ?_
                          refine Lx.y (mv rfl) rfl ?_
                          refine Lx.gT rfl rfl rfl ?_
                          refine Lx.y (neI rfl rfl) rfl ?_
                          refine Lx.gT rfl rfl rfl ?_
                          refine Lx.y (mv rfl) rfl ?_
                          refine Xx.ifN (t := 62) rfl (fun h51 => ?_) (fun h51 => ?_)
                          · skip
                            refine Lx.gT rfl rfl rfl ?_
                            refine Lx.y (fa' fo53_5 rfl) rfl ?_
                            refine Lx.gT rfl rfl rfl ?_
                            refine Lx.y (ld Try.underlying22 rfl rfl rfl) rfl ?_
                            refine Lx.gT rfl rfl rfl ?_
                            refine Lx.y (lenV (ty' := 0) Try.underlying22 rfl) rfl ?_
                            refine Lx.gT rfl rfl rfl ?_
                            refine Lx.y (gtr rfl rfl) rfl ?_
                            refine Lx.gT rfl rfl rfl ?_
                            refine Lx.y (pickT rfl rfl) rfl ?_
                            refine Lx.y (pickF rfl rfl) rfl ?_
                            refine Lx.nil ?_
                            exact Xx.mkK (⟨rfl, rfl, rfl⟩) (Sub.consE (s := 68) rfl (by unfold badP; first | exact congrArg Value.bool (decide_eq_true (by unfold BareP; grind)).symm | exact congrArg Value.bool (decide_eq_false (by unfold BareP; grind)).symm | exact congrArg Value.bool (decide_eq_decide.2 (by unfold BareP; grind)) | exact congrArg Value.bool (by unfold BareP; grind)) (Sub.cons (s := 0) rfl (Sub.cons (s := 1) rfl (Sub.cons (s := 2) rfl (Sub.cons (s := 4) rfl (Sub.cons (s := 5) rfl (Sub.cons (s := 9) rfl (Sub.cons (s := 10) rfl (Sub.cons (s := 11) rfl (Sub.cons (s := 12) rfl (Sub.nil _)))))))))))
                          · skip
                            refine Lx.gF rfl rfl rfl rfl ?_
                            refine Lx.gF rfl rfl rfl rfl ?_
                            refine Lx.gF rfl rfl rfl rfl ?_
                            refine Lx.gF rfl rfl rfl rfl ?_
                            refine Lx.gT rfl rfl rfl ?_
                            refine Lx.y (pickF rfl rfl) rfl ?_
                            refine Lx.y (pickF rfl rfl) rfl ?_
                            refine Lx.nil ?_
                            exact Xx.mkK (⟨rfl, rfl, rfl⟩) (Sub.consE (s := 68) rfl (by unfold badP; first | exact congrArg Value.bool (decide_eq_true (by unfold BareP; grind)).symm | exact congrArg Value.bool (decide_eq_false (by unfold BareP; grind)).symm | exact congrArg Value.bool (decide_eq_decide.2 (by unfold BareP; grind)) | exact congrArg Value.bool (by unfold BareP; grind)) (Sub.cons (s := 0) rfl (Sub.cons (s := 1) rfl (Sub.cons (s := 2) rfl (Sub.cons (s := 4) rfl (Sub.cons (s := 5) rfl (Sub.cons (s := 9) rfl (Sub.cons (s := 10) rfl (Sub.cons (s := 11) rfl (Sub.cons (s := 12) rfl (Sub.nil _)))))))))))
                      · skip
                        refine Lx.gF rfl rfl rfl rfl ?_
                        refine Lx.gF rfl rfl rfl rfl ?_
                        refine Lx.gF rfl rfl rfl rfl ?_
                        refine Lx.gF rfl rfl rfl rfl ?_
                        refine Lx.gT rfl rfl rfl ?_
                        refine Lx.y (pickF rfl rfl) rfl ?_
                        refine Lx.y (pickF rfl rfl) rfl ?_
                        refine Lx.y (mv rfl) rfl ?_
                        refine Lx.gT rfl rfl rfl ?_
                        refine Lx.y (mv rfl) rfl ?_
                        refine Lx.gT rfl rfl rfl ?_
                        refine Lx.y (neI rfl rfl) rfl ?_
                        refine Lx.gT rfl rfl rfl ?_
                        refine Lx.y (mv rfl) rfl ?_
                        refine Xx.ifN (t := 62) rfl (fun h52 => ?_) (fun h52 => ?_)
                        · skip
                          refine Lx.gT rfl rfl rfl ?_
                          refine Lx.y (fa' fo53_5 rfl) rfl ?_
                          refine Lx.gT rfl rfl rfl ?_
                          refine Lx.y (ld Try.underlying22 rfl rfl rfl) rfl ?_
                          refine Lx.gT rfl rfl rfl ?_
                          refine Lx.y (lenV (ty' := 0) Try.underlying22 rfl) rfl ?_
                          refine Lx.gT rfl rfl rfl ?_
                          refine Lx.y (gtr rfl rfl) rfl ?_
                          refine Lx.gT rfl rfl rfl ?_
                          refine Lx.y (pickT rfl rfl) rfl ?_
                          refine Lx.y (pickF rfl rfl) rfl ?_
                          refine Lx.nil ?_
                          exact Xx.mkK (⟨rfl, rfl, rfl⟩) (Sub.consE (s := 68) rfl (by unfold badP; first | exact congrArg Value.bool (decide_eq_true (by unfold BareP; grind)).symm | exact congrArg Value.bool (decide_eq_false (by unfold BareP; grind)).symm | exact congrArg Value.bool (decide_eq_decide.2 (by unfold BareP; grind)) | exact congrArg Value.bool (by unfold BareP; grind)) (Sub.cons (s := 0) rfl (Sub.cons (s := 1) rfl (Sub.cons (s := 2) rfl (Sub.cons (s := 4) rfl (Sub.cons (s := 5) rfl (Sub.cons (s := 9) rfl (Sub.cons (s := 10) rfl (Sub.cons (s := 11) rfl (Sub.cons (s := 12) rfl (Sub.nil _)))))))))))
                        · skip
                          refine Lx.gF rfl rfl rfl rfl ?_
                          refine Lx.gF rfl rfl rfl rfl ?_
                          refine Lx.gF rfl rfl rfl rfl ?_
                          refine Lx.gF rfl rfl rfl rfl ?_
                          refine Lx.gT rfl rfl rfl ?_
                          refine Lx.y (pickF rfl rfl) rfl ?_
                          refine Lx.y (pickF rfl rfl) rfl ?_
                          refine Lx.nil ?_
                          exact Xx.mkK (⟨rfl, rfl, rfl⟩) (Sub.consE (s := 68) rfl (by unfold badP; first | exact congrArg Value.bool (decide_eq_true (by unfold BareP; grind)).symm | exact congrArg Value.bool (decide_eq_false (by unfold BareP; grind)).symm | exact congrArg Value.bool (decide_eq_decide.2 (by unfold BareP; grind)) | exact congrArg Value.bool (by unfold BareP; grind)) (Sub.cons (s := 0) rfl (Sub.cons (s := 1) rfl (Sub.cons (s := 2) rfl (Sub.cons (s := 4) rfl (Sub.cons (s := 5) rfl (Sub.cons (s := 9) rfl (Sub.cons (s := 10) rfl (Sub.cons (s := 11) rfl (Sub.cons (s := 12) rfl (Sub.nil _)))))))))))
                  · skip
                    refine Lx.gF rfl rfl rfl rfl ?_
                    refine Lx.gF rfl rfl rfl rfl ?_
                    refine Lx.gF rfl rfl rfl rfl ?_
                    refine Lx.gT rfl rfl rfl ?_
                    refine Lx.y (pickF rfl rfl) rfl ?_
                    refine Lx.y (pickF rfl rfl) rfl ?_
                    refine Lx.y (mv rfl) rfl ?_
                    refine Lx.gT rfl rfl rfl ?_
                    refine Lx.y (mv rfl) rfl ?_
                    refine Lx.gT rfl rfl rfl ?_
                    refine Lx.y (lss rfl rfl) rfl ?_
                    refine Lx.gT rfl rfl rfl ?_
                    refine Lx.y (mv rfl) rfl ?_
                    refine Xx.ifD (t := 52) rfl (fun h53 => ?_) (fun h53 => ?_)
                    · skip
                      refine Lx.gT rfl rfl rfl ?_
                      refine Lx.y (fa' fo53_4 rfl) rfl ?_
                      refine Lx.gT rfl rfl rfl ?_
                      refine Lx.y (ld Try.underlying51 rfl rfl rfl) rfl ?_
                      refine Lx.gT rfl rfl rfl ?_
                      refine Lx.y (lenV (ty' := 0) Try.underlying51 rfl) rfl ?_
                      refine Lx.gT rfl rfl rfl ?_
                      refine Lx.y (gtr rfl rfl) rfl ?_
                      refine Lx.gT rfl rfl rfl ?_
                      refine Lx.y (pickT rfl rfl) rfl ?_
                      refine Lx.y (pickF rfl rfl) rfl ?_
                      refine Lx.y (mv rfl) rfl ?_
                      refine Xx.ifD (t := 59) rfl (fun h54 => ?_) (fun h54 => ?_)
                      · skip
                        refine Lx.gF rfl rfl rfl rfl ?_
                        refine Lx.gF rfl rfl rfl rfl ?_
                        refine Lx.gF rfl rfl rfl rfl ?_
                        refine Lx.gU rfl rfl rfl rfl ?_
                        refine Lx.gU rfl rfl rfl rfl ?_
                        refine Lx.gU rfl rfl rfl rfl ?_
                        refine Lx.gU rfl rfl rfl rfl ?_
                        refine Lx.gF rfl rfl rfl rfl ?_
                        refine Lx.y (pickT rfl rfl) rfl ?_
                        refine Lx.nil ?_
                        exact Xx.mkK (⟨rfl, rfl, rfl⟩) (Sub.consE (s := 68) rfl (by unfold badP; first | exact congrArg Value.bool (decide_eq_true (by unfold BareP; grind)).symm | exact congrArg Value.bool (decide_eq_false (by unfold BareP; grind)).symm | exact congrArg Value.bool (decide_eq_decide.2 (by unfold BareP; grind)) | exact congrArg Value.bool (by unfold BareP; grind)) (Sub.cons (s := 0) rfl (Sub.cons (s := 1) rfl (Sub.cons (s := 2) rfl (Sub.cons (s := 4) rfl (Sub.cons (s := 5) rfl (Sub.cons (s := 9) rfl (Sub.cons (s := 10) rfl (Sub.cons (s := 11) rfl (Sub.cons (s := 12) rfl (Sub.nil _)))))))))))
                      · skip
                        refine Lx.gT rfl rfl rfl ?_
                        refine Lx.y (mv rfl) rfl ?_
                        refine Lx.gT rfl rfl rfl ?_
                        refine Lx.y (neI rfl rfl) rfl ?_
                        refine Lx.gT rfl rfl rfl ?_
                        refine Lx.y (mv rfl) rfl ?_
                        refine Xx.ifN (t := 62) rfl (fun h55 => ?_) (fun h55 => ?_)
                        · skip
                          refine Lx.gT rfl rfl rfl ?_
                          refine Lx.y (fa' fo53_5 rfl) rfl ?_
                          refine Lx.gT rfl rfl rfl ?_
                          refine Lx.y (ld Try.underlying22 rfl rfl rfl) rfl ?_
                          refine Lx.gT rfl rfl rfl ?_
                          refine Lx.y (lenV (ty' := 0) Try.underlying22 rfl) rfl ?_
                          refine Lx.gT rfl rfl rfl ?_
                          refine Lx.y (gtr rfl rfl) rfl ?_
                          refine Lx.gT rfl rfl rfl ?_
                          refine Lx.y (pickT rfl rfl) rfl ?_
                          refine Lx.y (pickF rfl rfl) rfl ?_
                          refine Lx.nil ?_
                          exact Xx.mkK (⟨rfl, rfl, rfl⟩) (Sub.consE (s := 68) rfl (by unfold badP; first | exact congrArg Value.bool (decide_eq_true (by unfold BareP; grind)).symm | exact congrArg Value.bool (decide_eq_false (by unfold BareP; grind)).symm | exact congrArg Value.bool (decide_eq_decide.2 (by unfold BareP; grind)) | exact congrArg Value.bool (by unfold BareP; grind)) (Sub.cons (s := 0) rfl (Sub.cons (s := 1) rfl (Sub.cons (s := 2) rfl (Sub.cons (s := 4) rfl (Sub.cons (s := 5) rfl (Sub.cons (s := 9) rfl (Sub.cons (s := 10) rfl (Sub.cons (s := 11) rfl (Sub.cons (s := 12) rfl (Sub.nil _)))))))))))
                        · skip
                          refine Lx.gF rfl rfl rfl rfl ?_
                          refine Lx.gF rfl rfl rfl rfl ?_
                          refine Lx.gF rfl rfl rfl rfl ?_
                          refine Lx.gF rfl rfl rfl rfl ?_
                          refine Lx.gT rfl rfl rfl ?_
                          refine Lx.y (pickF rfl rfl) rfl ?_
                          refine Lx.y (pickF rfl rfl) rfl ?_
                          refine Lx.nil ?_
                          exact Xx.mkK (⟨rfl, rfl, rfl⟩) (Sub.consE (s := 68) rfl (by unfold badP; first | exact congrArg Value.bool (decide_eq_true (by unfold BareP; grind)).symm | exact congrArg Value.bool (decide_eq_false (by unfold BareP; grind)).symm | exact congrArg Value.bool (decide_eq_decide.2 (by unfold BareP; grind)) | exact congrArg Value.bool (by unfold BareP; grind)) (Sub.cons (s := 0) rfl (Sub.cons (s := 1) rfl (Sub.cons (s := 2) rfl (Sub.cons (s := 4) rfl (Sub.cons (s := 5) rfl (Sub.cons (s := 9) rfl (Sub.cons (s := 10) rfl (Sub.cons (s := 11) rfl (Sub.cons (s := 12) rfl (Sub.nil _)))))))))))
                    · skip
                      refine Lx.gF rfl rfl rfl rfl ?_
                      refine Lx.gF rfl rfl rfl rfl ?_
                      refine Lx.gF rfl rfl rfl rfl ?_
                      refine Lx.gF rfl rfl rfl rfl ?_
                      refine Lx.gT rfl rfl rfl ?_
                      refine Lx.y (pickF rfl rfl) rfl ?_
                      refine Lx.y (pickF rfl rfl) rfl ?_
                      refine Lx.y (mv rfl) rfl ?_
                      refine Lx.gT rfl rfl rfl ?_
                      refine Lx.y (mv rfl) rfl ?_
                      refine Lx.gT rfl rfl rfl ?_
                      refine Lx.y (neI rfl rfl) rfl ?_
                      refine Lx.gT rfl rfl rfl ?_
                      refine Lx.y (mv rfl) rfl ?_
                      refine Xx.ifN (t := 62) rfl (fun h56 => ?_) (fun h56 => ?_)
                      · skip
                        refine Lx.gT rfl rfl rfl ?_
                        refine Lx.y (fa' fo53_5 rfl) rfl ?_
                        refine Lx.gT rfl rfl rfl ?_
                        refine Lx.y (ld Try.underlying22 rfl rfl rfl) rfl ?_
                        refine Lx.gT rfl rfl rfl ?_
                        refine Lx.y (lenV (ty' := 0) Try.underlying22 rfl) rfl ?_
                        refine Lx.gT rfl rfl rfl ?_
                        refine Lx.y (gtr rfl rfl) rfl ?_
                        refine Lx.gT rfl rfl rfl ?_
                        refine Lx.y (pickT rfl rfl) rfl ?_
                        refine Lx.y (pickF rfl rfl) rfl ?_
                        refine Lx.nil ?_
                        exact Xx.mkK (⟨rfl, rfl, rfl⟩) (Sub.consE (s := 68) rfl (by unfold badP; first | exact congrArg Value.bool (decide_eq_true (by unfold BareP; grind)).symm | exact congrArg Value.bool (decide_eq_false (by unfold BareP; grind)).symm | exact congrArg Value.bool (decide_eq_decide.2 (by unfold BareP; grind)) | exact congrArg Value.bool (by unfold BareP; grind)) (Sub.cons (s := 0) rfl (Sub.cons (s := 1) rfl (Sub.cons (s := 2) rfl (Sub.cons (s := 4) rfl (Sub.cons (s := 5) rfl (Sub.cons (s := 9) rfl (Sub.cons (s := 10) rfl (Sub.cons (s := 11) rfl (Sub.cons (s := 12) rfl (Sub.nil _)))))))))))
                      · skip
                        refine Lx.gF rfl rfl rfl rfl ?_
                        refine Lx.gF rfl rfl rfl rfl ?_
                        refine Lx.gF rfl rfl rfl rfl ?_
                        refine Lx.gF rfl rfl rfl rfl ?_
                        refine Lx.gT rfl rfl rfl ?_
                        refine Lx.y (pickF rfl rfl) rfl ?_
                        refine Lx.y (pickF rfl rfl) rfl ?_
                        refine Lx.nil ?_
                        exact Xx.mkK (⟨rfl, rfl, rfl⟩) (Sub.consE (s := 68) rfl (by unfold badP; first | exact congrArg Value.bool (decide_eq_true (by unfold BareP; grind)).symm | exact congrArg Value.bool (decide_eq_false (by unfold BareP; grind)).symm | exact congrArg Value.bool (decide_eq_decide.2 (by unfold BareP; grind)) | exact congrArg Value.bool (by unfold BareP; grind)) (Sub.cons (s := 0) rfl (Sub.cons (s := 1) rfl (Sub.cons (s := 2) rfl (Sub.cons (s := 4) rfl (Sub.cons (s := 5) rfl (Sub.cons (s := 9) rfl (Sub.cons (s := 10) rfl (Sub.cons (s := 11) rfl (Sub.cons (s := 12) rfl (Sub.nil _)))))))))))
                · skip
                  refine Lx.gF rfl rfl rfl rfl ?_
                  refine Lx.gF rfl rfl rfl rfl ?_
                  refine Lx.gT rfl rfl rfl ?_
                  refine Lx.y (pickF rfl rfl) rfl ?_
                  refine Lx.gT rfl rfl rfl ?_
                  refine Lx.y (mv rfl) rfl ?_
                  refine Lx.gF rfl rfl rfl rfl ?_
                  refine Lx.gF rfl rfl rfl rfl ?_
                  refine Lx.gF rfl rfl rfl rfl ?_
                  refine Lx.gT rfl rfl rfl ?_
                  refine Lx.y (pickF rfl rfl) rfl ?_
                  refine Lx.y (pickF rfl rfl) rfl ?_
                  refine Lx.y (mv rfl) rfl ?_
                  refine Lx.gT rfl rfl rfl ?_
                  refine Lx.y (mv rfl) rfl ?_
                  refine Lx.gT rfl rfl rfl ?_
                  refine Lx.y (lss rfl rfl) rfl ?_
                  refine Lx.gT rfl rfl rfl ?_
                  refine Lx.y (mv rfl) rfl ?_
                  refine Xx.ifD (t := 52) rfl (fun h57 => ?_) (fun h57 => ?_)
                  · skip
                    refine Lx.gT rfl rfl rfl ?_
                    refine Lx.y (fa' fo53_4 rfl) rfl ?_
                    refine Lx.gT rfl rfl rfl ?_
                    refine Lx.y (ld Try.underlying51 rfl rfl rfl) rfl ?_
                    refine Lx.gT rfl rfl rfl ?_
                    refine Lx.y (lenV (ty' := 0) Try.underlying51 rfl) rfl ?_
                    refine Lx.gT rfl rfl rfl ?_
                    refine Lx.y (gtr rfl rfl) rfl ?_
                    refine Lx.gT rfl rfl rfl ?_
                    refine Lx.y (pickT rfl rfl) rfl ?_
                    refine Lx.y (pickF rfl rfl) rfl ?_
                    refine Lx.y (mv rfl) rfl ?_
                    refine Xx.ifD (t := 59) rfl (fun h58 => ?_) (fun h58 => ?_)
                    · skip
                      refine Lx.gF rfl rfl rfl rfl ?_
                      refine Lx.gF rfl rfl rfl rfl ?_
                      refine Lx.gF rfl rfl rfl rfl ?_
                      refine Lx.gU rfl rfl rfl rfl ?_
                      refine Lx.gU rfl rfl rfl rfl ?_
                      refine Lx.gU rfl rfl rfl rfl ?_
                      refine Lx.gU rfl rfl rfl rfl ?_
                      refine Lx.gF rfl rfl rfl rfl ?_
                      refine Lx.y (pickT rfl rfl) rfl ?_
                      refine Lx.nil ?_
                      exact Xx.mkK (⟨rfl, rfl, rfl⟩) (Sub.consE (s := 68) rfl (by unfold badP; first | exact congrArg Value.bool (decide_eq_true (by unfold BareP; grind)).symm | exact congrArg Value.bool (decide_eq_false (by unfold BareP; grind)).symm | exact congrArg Value.bool (decide_eq_decide.2 (by unfold BareP; grind)) | exact congrArg Value.bool (by unfold BareP; grind)) (Sub.cons (s := 0) rfl (Sub.cons (s := 1) rfl (Sub.cons (s := 2) rfl (Sub.cons (s := 4) rfl (Sub.cons (s := 5) rfl (Sub.cons (s := 9) rfl (Sub.cons (s := 10) rfl (Sub.cons (s := 11) rfl (Sub.cons (s := 12) rfl (Sub.nil _)))))))))))
                    · skip
                      refine Lx.gT rfl rfl rfl ?_
                      refine Lx.y (mv rfl) rfl ?_
                      refine Lx.gT rfl rfl rfl ?_
                      refine Lx.y (neI rfl rfl) rfl ?_
                      refine Lx.gT rfl rfl rfl ?_
                      refine Lx.y (mv rfl) rfl ?_
                      refine Xx.ifN (t := 62) rfl (fun h59 => ?_) (fun h59 => ?_)
                      · skip
                        refine Lx.gT rfl rfl rfl ?_
                        refine Lx.y (fa' fo53_5 rfl) rfl ?_
                        refine Lx.gT rfl rfl rfl ?_
                        refine Lx.y (ld Try.underlying22 rfl rfl rfl) rfl ?_
                        refine Lx.gT rfl rfl rfl ?_
                        refine Lx.y (lenV (ty' := 0) Try.underlying22 rfl) rfl ?_
                        refine Lx.gT rfl rfl rfl ?_
                        refine Lx.y (gtr rfl rfl) rfl ?_
                        refine Lx.gT rfl rfl rfl ?_
                        refine Lx.y (pickT rfl rfl) rfl ?_
                        refine Lx.y (pickF rfl rfl) rfl ?_
                        refine Lx.nil ?_
                        exact Xx.mkK (⟨rfl, rfl, rfl⟩) (Sub.consE (s := 68) rfl (by unfold badP; first | exact congrArg Value.bool (decide_eq_true (by unfold BareP; grind)).symm | exact congrArg Value.bool (decide_eq_false (by unfold BareP; grind)).symm | exact congrArg Value.bool (decide_eq_decide.2 (by unfold BareP; grind)) | exact congrArg Value.bool (by unfold BareP; grind)) (Sub.cons (s := 0) rfl (Sub.cons (s := 1) rfl (Sub.cons (s := 2) rfl (Sub.cons (s := 4) rfl (Sub.cons (s := 5) rfl (Sub.cons (s := 9) rfl (Sub.cons (s := 10) rfl (Sub.cons (s := 11) rfl (Sub.cons (s := 12) rfl (Sub.nil _)))))))))))
                      · skip
                        refine Lx.gF rfl rfl rfl rfl ?_
                        refine Lx.gF rfl rfl rfl rfl ?_
                        refine Lx.gF rfl rfl rfl rfl ?_
                        refine Lx.gF rfl rfl rfl rfl ?_
                        refine Lx.gT rfl rfl rfl ?_
                        refine Lx.y (pickF rfl rfl) rfl ?_
                        refine Lx.y (pickF rfl rfl) rfl ?_
                        refine Lx.nil ?_
                        exact Xx.mkK (⟨rfl, rfl, rfl⟩) (Sub.consE (s := 68) rfl (by unfold badP; first | exact congrArg Value.bool (decide_eq_true (by unfold BareP; grind)).symm | exact congrArg Value.bool (decide_eq_false (by unfold BareP; grind)).symm | exact congrArg Value.bool (decide_eq_decide.2 (by unfold BareP; grind)) | exact congrArg Value.bool (by unfold BareP; grind)) (Sub.cons (s := 0) rfl (Sub.cons (s := 1) rfl (Sub.cons (s := 2) rfl (Sub.cons (s := 4) rfl (Sub.cons (s := 5) rfl (Sub.cons (s := 9) rfl (Sub.cons (s := 10) rfl (Sub.cons (s := 11) rfl (Sub.cons (s := 12) rfl (Sub.nil _)))))))))))
                  · skip
                    refine Lx.gF rfl rfl rfl rfl ?_
                    refine Lx.gF rfl rfl rfl rfl ?_
                    refine Lx.gF rfl rfl rfl rfl ?_
                    refine Lx.gF rfl rfl rfl rfl ?_
                    refine Lx.gT rfl rfl rfl ?_
                    refine Lx.y (pickF rfl rfl) rfl ?_
                    refine Lx.y (pickF rfl rfl) rfl ?_
                    refine Lx.y (mv rfl) rfl ?_
                    refine Lx.gT rfl rfl rfl ?_
                    refine Lx.y (mv rfl) rfl ?_
                    refine Lx.gT rfl rfl rfl ?_
                    refine Lx.y (neI rfl rfl) rfl ?_
                    refine Lx.gT rfl rfl rfl ?_
                    refine Lx.y (mv rfl) rfl ?_
                    refine Xx.ifN (t := 62) rfl (fun h60 => ?_) (fun h60 => ?_)
                    · skip
                      refine Lx.gT rfl rfl rfl ?_
                      refine Lx.y (fa' fo53_5 rfl) rfl ?_
                      refine Lx.gT rfl rfl rfl ?_
                      refine Lx.y (ld Try.underlying22 rfl rfl rfl) rfl ?_
                      refine Lx.gT rfl rfl rfl ?_
                      refine Lx.y (lenV (ty' := 0) Try.underlying22 rfl) rfl ?_
                      refine Lx.gT rfl rfl rfl ?_
                      refine Lx.y (gtr rfl rfl) rfl ?_
                      refine Lx.gT rfl rfl rfl ?_
                      refine Lx.y (pickT rfl rfl) rfl ?_
                      refine Lx.y (pickF rfl rfl) rfl ?_
                      refine Lx.nil ?_
                      exact Xx.mkK (⟨rfl, rfl, rfl⟩) (Sub.consE (s := 68) rfl (by unfold badP; first | exact congrArg Value.bool (decide_eq_true (by unfold BareP; grind)).symm | exact congrArg Value.bool (decide_eq_false (by unfold BareP; grind)).symm | exact congrArg Value.bool (decide_eq_decide.2 (by unfold BareP; grind)) | exact congrArg Value.bool (by unfold BareP; grind)) (Sub.cons (s := 0) rfl (Sub.cons (s := 1) rfl (Sub.cons (s := 2) rfl (Sub.cons (s := 4) rfl (Sub.cons (s := 5) rfl (Sub.cons (s := 9) rfl (Sub.cons (s := 10) rfl (Sub.cons (s := 11) rfl (Sub.cons (s := 12) rfl (Sub.nil _)))))))))))
                    · skip
                      refine Lx.gF rfl rfl rfl rfl ?_
                      refine Lx.gF rfl rfl rfl rfl ?_
                      refine Lx.gF rfl rfl rfl rfl ?_
                      refine Lx.gF rfl rfl rfl rfl ?_
                      refine Lx.gT rfl rfl rfl ?_
                      refine Lx.y (pickF rfl rfl) rfl ?_
                      refine Lx.y (pickF rfl rfl) rfl ?_
                      refine Lx.nil ?_
                      exact Xx.mkK (⟨rfl, rfl, rfl⟩) (Sub.consE (s := 68) rfl (by unfold badP; first | exact congrArg Value.bool (decide_eq_true (by unfold BareP; grind)).symm | exact congrArg Value.bool (decide_eq_false (by unfold BareP; grind)).symm | exact congrArg Value.bool (decide_eq_decide.2 (by unfold BareP; grind)) | exact congrArg Value.bool (by unfold BareP; grind)) (Sub.cons (s := 0) rfl (Sub.cons (s := 1) rfl (Sub.cons (s := 2) rfl (Sub.cons (s := 4) rfl (Sub.cons (s := 5) rfl (Sub.cons (s := 9) rfl (Sub.cons (s := 10) rfl (Sub.cons (s := 11) rfl (Sub.cons (s := 12) rfl (Sub.nil _)))))))))))
            · skip
              refine Lx.gF rfl rfl rfl rfl ?_
              refine Lx.gF rfl rfl rfl rfl ?_
              refine Lx.gF rfl rfl rfl rfl ?_
              refine Lx.gT rfl rfl rfl ?_
              refine Lx.y (pickF rfl rfl) rfl ?_
              refine Lx.y (pickF rfl rfl) rfl ?_
              refine Lx.y (mv rfl) rfl ?_
              refine Lx.gT rfl rfl rfl ?_
              refine Lx.y (mv rfl) rfl ?_
              refine Lx.gT rfl rfl rfl ?_
              refine Lx.y (neI rfl rfl) rfl ?_
              refine Lx.gT rfl rfl rfl ?_
              refine Lx.y (mv rfl) rfl ?_
              refine Xx.ifN (t := 39) rfl (fun h61 => ?_) (fun h61 => ?_)
              · skip
                refine Lx.gT rfl rfl rfl ?_
                refine Lx.y (mv rfl) rfl ?_
                refine Lx.gT rfl rfl rfl ?_
                refine Lx.y (neI rfl rfl) rfl ?_
                refine Lx.gT rfl rfl rfl ?_
                refine Lx.y (pickT rfl rfl) rfl ?_
                refine Lx.gT rfl rfl rfl ?_
                refine Lx.y (mv rfl) rfl ?_
                refine Xx.ifN (t := 43) rfl (fun h62 => ?_) (fun h62 => ?_)
                · skip
                  refine Lx.gT rfl rfl rfl ?_
                  refine Lx.y (fa' fo53_3 rfl) rfl ?_
                  refine Lx.gT rfl rfl rfl ?_
                  refine Lx.y (ld Try.underlying9 rfl rfl rfl) rfl ?_
                  refine Lx.gT rfl rfl rfl ?_
                  refine Lx.y (neS rfl rfl) rfl ?_
                  refine Lx.gT rfl rfl rfl ?_
                  refine Lx.y (pickT rfl rfl) rfl ?_
                  refine Lx.y (pickF rfl rfl) rfl ?_
                  refine Lx.y (mv rfl) rfl ?_
                  refine Xx.ifN (t := 49) rfl (fun h63 => ?_) (fun h63 => ?_)
                  · skip
                    refine Lx.gF rfl rfl rfl rfl ?_
                    refine Lx.gF rfl rfl rfl rfl ?_
                    refine Lx.gF rfl rfl rfl rfl ?_
                    refine Lx.gU rfl rfl rfl rfl ?_
                    refine Lx.gU rfl rfl rfl rfl ?_
                    refine Lx.gU rfl rfl rfl rfl ?_
                    refine Lx.gU rfl rfl rfl rfl ?_
                    refine Lx.gF rfl rfl rfl rfl ?_
                    refine Lx.y (pickT rfl rfl) rfl ?_
                    refine Lx.y (mv rfl) rfl ?_
                    refine Lx.gF rfl rfl rfl rfl ?_
                    refine Lx.gF rfl rfl rfl rfl ?_
                    refine Lx.gF rfl rfl rfl rfl ?_
                    refine Lx.gU rfl rfl rfl rfl ?_
                    refine Lx.gU rfl rfl rfl rfl ?_
                    refine Lx.gU rfl rfl rfl rfl ?_
                    refine Lx.gU rfl rfl rfl rfl ?_
                    refine Lx.gF rfl rfl rfl rfl ?_
                    refine Lx.y (pickT rfl rfl) rfl ?_
                    refine Lx.nil ?_
                    exact Xx.mkK (⟨rfl, rfl, rfl⟩) (Sub.consE (s := 68) rfl (by unfold badP; first | exact congrArg Value.bool (decide_eq_true (by unfold BareP; grind)).symm | exact congrArg Value.bool (decide_eq_false (by unfold BareP; grind)).symm | exact congrArg Value.bool (decide_eq_decide.2 (by unfold BareP; grind)) | exact congrArg Value.bool (by unfold BareP; grind)) (Sub.cons (s := 0) rfl (Sub.cons (s := 1) rfl (Sub.cons (s := 2) rfl (Sub.cons (s := 4) rfl (Sub.cons (s := 5) rfl (Sub.cons (s := 9) rfl (Sub.cons (s := 10) rfl (Sub.cons (s := 11) rfl (Sub.cons (s := 12) rfl (Sub.nil _)))))))))))
                  · skip
                    refine Lx.gT rfl rfl rfl ?_
                    refine Lx.y (mv rfl) rfl ?_
                    refine Lx.gT rfl rfl rfl ?_
                    refine Lx.y (lss rfl rfl) rfl ?_
                    refine Lx.gT rfl rfl rfl ?_
                    refine Lx.y (mv rfl) rfl ?_
                    refine Xx.ifD (t := 52) rfl (fun h64 => ?_) (fun h64 => ?_)
                    · skip
                      refine Lx.gT rfl rfl rfl ?_
                      refine Lx.y (fa' fo53_4 rfl) rfl ?_
                      refine Lx.gT rfl rfl rfl ?_
                      refine Lx.y (ld Try.underlying51 rfl rfl rfl) rfl ?_
                      refine Lx.gT rfl rfl rfl ?_
                      refine Lx.y (lenV (ty' := 0) Try.underlying51 rfl) rfl ?_
                      refine Lx.gT rfl rfl rfl ?_
                      refine Lx.y (gtr rfl rfl) rfl ?_
                      refine Lx.gT rfl rfl rfl ?_
                      refine Lx.y (pickT rfl rfl) rfl ?_
                      refine Lx.y (pickF rfl rfl) rfl ?_
                      refine Lx.y (mv rfl) rfl ?_
                      refine Xx.ifD (t := 59) rfl (fun h65 => ?_) (fun h65 => ?_)
                      · skip
                        refine Lx.gF rfl rfl rfl rfl ?_
                        refine Lx.gF rfl rfl rfl rfl ?_
                        refine Lx.gF rfl rfl rfl rfl ?_
                        refine Lx.gU rfl rfl rfl rfl ?_
                        refine Lx.gU rfl rfl rfl rfl ?_
                        refine Lx.gU rfl rfl rfl rfl ?_
                        refine Lx.gU rfl rfl rfl rfl ?_
                        refine Lx.gF rfl rfl rfl rfl ?_
                        refine Lx.y (pickT rfl rfl) rfl ?_
                        refine Lx.nil ?_
                        exact Xx.mkK (⟨rfl, rfl, rfl⟩) (Sub.consE (s := 68) rfl (by unfold badP; first | exact congrArg Value.bool (decide_eq_true (by unfold BareP; grind)).symm | exact congrArg Value.bool (decide_eq_false (by unfold BareP; grind)).symm | exact congrArg Value.bool (decide_eq_decide.2 (by unfold BareP; grind)) | exact congrArg Value.bool (by unfold BareP; grind)) (Sub.cons (s := 0) rfl (Sub.cons (s := 1) rfl (Sub.cons (s := 2) rfl (Sub.cons (s := 4) rfl (Sub.cons (s := 5) rfl (Sub.cons (s := 9) rfl (Sub.cons (s := 10) rfl (Sub.cons (s := 11) rfl (Sub.cons (s := 12) rfl (Sub.nil _)))))))))))
                      · skip
                        refine Lx.gT rfl rfl rfl ?_
                        refine Lx.y (mv rfl) rfl ?_
                        refine Lx.gT rfl rfl rfl ?_
                        refine Lx.y (neI rfl rfl) rfl ?_
                        refine Lx.gT rfl rfl rfl ?_
                        refine Lx.y (mv rfl) rfl ?_
                        refine Xx.ifN (t := 62) rfl (fun h66 => ?_) (fun h66 => ?_)
                        · skip
                          refine Lx.gT rfl rfl rfl ?_
                          refine Lx.y (fa' fo53_5 rfl) rfl ?_
                          refine Lx.gT rfl rfl rfl ?_
                          refine Lx.y (ld Try.underlying22 rfl rfl rfl) rfl ?_
                          refine Lx.gT rfl rfl rfl ?_
                          refine Lx.y (lenV (ty' := 0) Try.underlying22 rfl) rfl ?_
                          refine Lx.gT rfl rfl rfl ?_
                          refine Lx.y (gtr rfl rfl) rfl ?_
                          refine Lx.gT rfl rfl rfl ?_
                          refine Lx.y (pickT rfl rfl) rfl ?_
                          refine Lx.y (pickF rfl rfl) rfl ?_
                          refine Lx.nil ?_
                          exact Xx.mkK (⟨rfl, rfl, rfl⟩) (Sub.consE (s := 68) rfl (by unfold badP; first | exact congrArg Value.bool (decide_eq_true (by unfold BareP; grind)).symm | exact congrArg Value.bool (decide_eq_false (by unfold BareP; grind)).symm | exact congrArg Value.bool (decide_eq_decide.2 (by unfold BareP; grind)) | exact congrArg Value.bool (by unfold BareP; grind)) (Sub.cons (s := 0) rfl (Sub.cons (s := 1) rfl (Sub.cons (s := 2) rfl (Sub.cons (s := 4) rfl (Sub.cons (s := 5) rfl (Sub.cons (s := 9) rfl (Sub.cons (s := 10) rfl (Sub.cons (s := 11) rfl (Sub.cons (s := 12) rfl (Sub.nil _)))))))))))
                        · skip
                          refine Lx.gF rfl rfl rfl rfl ?_
                          refine Lx.gF rfl rfl rfl rfl ?_
                          refine Lx.gF rfl rfl rfl rfl ?_
                          refine Lx.gF rfl rfl rfl rfl ?_
                          refine Lx.gT rfl rfl rfl ?_
                          refine Lx.y (pickF rfl rfl) rfl ?_
                          refine Lx.y (pickF rfl rfl) rfl ?_
                          refine Lx.nil ?_
                          exact Xx.mkK (⟨rfl, rfl, rfl⟩) (Sub.consE (s := 68) rfl (by unfold badP; first | exact congrArg Value.bool (decide_eq_true (by unfold BareP; grind)).symm | exact congrArg Value.bool (decide_eq_false (by unfold BareP; grind)).symm | exact congrArg Value.bool (decide_eq_decide.2 (by unfold BareP; grind)) | exact congrArg Value.bool (by unfold BareP; grind)) (Sub.cons (s := 0) rfl (Sub.cons (s := 1) rfl (Sub.cons (s := 2) rfl (Sub.cons (s := 4) rfl (Sub.cons (s := 5) rfl (Sub.cons (s := 9) rfl (Sub.cons (s := 10) rfl (Sub.cons (s := 11) rfl (Sub.cons (s := 12) rfl (Sub.nil _)))))))))))
                    · skip
                      refine Lx.gF rfl rfl rfl rfl ?_
                      refine Lx.gF rfl rfl rfl rfl ?_
                      refine Lx.gF rfl rfl rfl rfl ?_
                      refine Lx.gF rfl rfl rfl rfl ?_
                      refine Lx.gT rfl rfl rfl ?_
                      refine Lx.y (pickF rfl rfl) rfl ?_
                      refine Lx.y (pickF rfl rfl) rfl ?_
                      refine Lx.y (mv rfl) rfl ?_
                      refine Lx.gT rfl rfl rfl ?_
                      refine Lx.y (mv rfl) rfl ?_
                      refine Lx.gT rfl rfl rfl ?_
                      refine Lx.y (neI rfl rfl) rfl ?_
                      refine Lx.gT rfl rfl rfl ?_
                      refine Lx.y (mv rfl) rfl ?_
                      refine Xx.ifN (t := 62) rfl (fun h67 => ?_) (fun h67 => ?_)
                      · skip
                        refine Lx.gT rfl rfl rfl ?_
                        refine Lx.y (fa' fo53_5 rfl) rfl ?_
                        refine Lx.gT rfl rfl rfl ?_
                        refine Lx.y (ld Try.underlying22 rfl rfl rfl) rfl ?_
                        refine Lx.gT rfl rfl rfl ?_
                        refine Lx.y (lenV (ty' := 0) Try.underlying22 rfl) rfl ?_
                        refine Lx.gT rfl rfl rfl ?_
                        refine Lx.y (gtr rfl rfl) rfl ?_
                        refine Lx.gT rfl rfl rfl ?_
                        refine Lx.y (pickT rfl rfl) rfl ?_
                        refine Lx.y (pickF rfl rfl) rfl ?_
                        refine Lx.nil ?_
                        exact Xx.mkK (⟨rfl, rfl, rfl⟩) (Sub.consE (s := 68) rfl (by unfold badP; first | exact congrArg Value.bool (decide_eq_true (by unfold BareP; grind)).symm | exact congrArg Value.bool (decide_eq_false (by unfold BareP; grind)).symm | exact congrArg Value.bool (decide_eq_decide.2 (by unfold BareP; grind)) | exact congrArg Value.bool (by unfold BareP; grind)) (Sub.cons (s := 0) rfl (Sub.cons (s := 1) rfl (Sub.cons (s := 2) rfl (Sub.cons (s := 4) rfl (Sub.cons (s := 5) rfl (Sub.cons (s := 9) rfl (Sub.cons (s := 10) rfl (Sub.cons (s := 11) rfl (Sub.cons (s := 12) rfl (Sub.nil _)))))))))))
                      · skip
                        refine Lx.gF rfl rfl rfl rfl ?_
                        refine Lx.gF rfl rfl rfl rfl ?_
                        refine Lx.gF rfl rfl rfl rfl ?_
                        refine Lx.gF rfl rfl rfl rfl ?_
                        refine Lx.gT rfl rfl rfl ?_
                        refine Lx.y (pickF rfl rfl) rfl ?_
                        refine Lx.y (pickF rfl rfl) rfl ?_
                        refine Lx.nil ?_
                        exact Xx.mkK (⟨rfl, rfl, rfl⟩) (Sub.consE (s := 68) rfl (by unfold badP; first | exact congrArg Value.bool (decide_eq_true (by unfold BareP; grind)).symm | exact congrArg Value.bool (decide_eq_false (by unfold BareP; grind)).symm | exact congrArg Value.bool (decide_eq_decide.2 (by unfold BareP; grind)) | exact congrArg Value.bool (by unfold BareP; grind)) (Sub.cons (s := 0) rfl (Sub.cons (s := 1) rfl (Sub.cons (s := 2) rfl (Sub.cons (s := 4) rfl (Sub.cons (s := 5) rfl (Sub.cons (s := 9) rfl (Sub.cons (s := 10) rfl (Sub.cons (s := 11) rfl (Sub.cons (s := 12) rfl (Sub.nil _)))))))))))
                · skip
                  refine Lx.gF rfl rfl rfl rfl ?_
                  refine Lx.gF rfl rfl rfl rfl ?_
                  refine Lx.gF rfl rfl rfl rfl ?_
                  refine Lx.gT rfl rfl rfl ?_
                  refine Lx.y (pickF rfl rfl) rfl ?_
                  refine Lx.y (pickF rfl rfl) rfl ?_
                  refine Lx.y (mv rfl) rfl ?_
                  refine Lx.gT rfl rfl rfl ?_
                  refine Lx.y (mv rfl) rfl ?_
                  refine Lx.gT rfl rfl rfl ?_
                  refine Lx.y (lss rfl rfl) rfl ?_
                  refine Lx.gT rfl rfl rfl ?_
                  refine Lx.y (mv rfl) rfl ?_
                  refine Xx.ifD (t := 52) rfl (fun h68 => ?_) (fun h68 => ?_)
                  · skip
                    refine Lx.gT rfl rfl rfl ?_
                    refine Lx.y (fa' fo53_4 rfl) rfl ?_
                    refine Lx.gT rfl rfl rfl ?_
                    refine Lx.y (ld Try.underlying51 rfl rfl rfl) rfl ?_
                    refine Lx.gT rfl rfl rfl ?_
                    refine Lx.y (lenV (ty' := 0) Try.underlying51 rfl) rfl ?_
                    refine Lx.gT rfl rfl rfl ?_
                    refine Lx.y (gtr rfl rfl) rfl ?_
                    refine Lx.gT rfl rfl rfl ?_
                    refine Lx.y (pickT rfl rfl) rfl ?_
                    refine Lx.y (pickF rfl rfl) rfl ?_
                    refine Lx.y (mv rfl) rfl ?_
                    refine Xx.ifD (t := 59) rfl (fun h69 => ?_) (fun h69 => ?_)
                    · skip
                      refine Lx.gF rfl rfl rfl rfl ?_
                      refine Lx.gF rfl rfl rfl rfl ?_
                      refine Lx.gF rfl rfl rfl rfl ?_
                      refine Lx.gU rfl rfl rfl rfl ?_
                      refine Lx.gU rfl rfl rfl rfl ?_
                      refine Lx.gU rfl rfl rfl rfl ?_
                      refine Lx.gU rfl rfl rfl rfl ?_
                      refine Lx.gF rfl rfl rfl rfl ?_
                      refine Lx.y (pickT rfl rfl) rfl ?_
                      refine Lx.nil ?_
                      exact Xx.mkK (⟨rfl, rfl, rfl⟩) (Sub.consE (s := 68) rfl (by unfold badP; first | exact congrArg Value.bool (decide_eq_true (by unfold BareP; grind)).symm | exact congrArg Value.bool (decide_eq_false (by unfold BareP; grind)).symm | exact congrArg Value.bool (decide_eq_decide.2 (by unfold BareP; grind)) | exact congrArg Value.bool (by unfold BareP; grind)) (Sub.cons (s := 0) rfl (Sub.cons (s := 1) rfl (Sub.cons (s := 2) rfl (Sub.cons (s := 4) rfl (Sub.cons (s := 5) rfl (Sub.cons (s := 9) rfl (Sub.cons (s := 10) rfl (Sub.cons (s := 11) rfl (Sub.cons (s := 12) rfl (Sub.nil _)))))))))))
                    · skip
                      refine Lx.gT rfl rfl rfl ?_
                      refine Lx.y (mv rfl) rfl ?_
                      refine Lx.gT rfl rfl rfl ?_
                      refine Lx.y (neI rfl rfl) rfl ?_
                      refine Lx.gT rfl rfl rfl ?_
                      refine Lx.y (mv rfl) rfl ?_
                      refine Xx.ifN (t := 62) rfl (fun h70 => ?_) (fun h70 => ?_)
                      · skip
                        refine Lx.gT rfl rfl rfl ?_
                        refine Lx.y (fa' fo53_5 rfl) rfl ?_
                        refine Lx.gT rfl rfl rfl ?_
                        refine Lx.y (ld Try.underlying22 rfl rfl rfl) rfl ?_
                        refine Lx.gT rfl rfl rfl ?_
                        refine Lx.y (lenV (ty' := 0) Try.underlying22 rfl) rfl ?_
                        refine Lx.gT rfl rfl rfl ?_
                        refine Lx.y (gtr rfl rfl) rfl ?_
                        refine Lx.gT rfl rfl rfl ?_
                        refine Lx.y (pickT rfl rfl) rfl ?_
                        refine Lx.y (pickF rfl rfl) rfl ?_
                        refine Lx.nil ?_
                        exact Xx.mkK (⟨rfl, rfl, rfl⟩) (Sub.consE (s := 68) rfl (by unfold badP; first | exact congrArg Value.bool (decide_eq_true (by unfold BareP; grind)).symm | exact congrArg Value.bool (decide_eq_false (by unfold BareP; grind)).symm | exact congrArg Value.bool (decide_eq_decide.2 (by unfold BareP; grind)) | exact congrArg Value.bool (by unfold BareP; grind)) (Sub.cons (s := 0) rfl (Sub.cons (s := 1) rfl (Sub.cons (s := 2) rfl (Sub.cons (s := 4) rfl (Sub.cons (s := 5) rfl (Sub.cons (s := 9) rfl (Sub.cons (s := 10) rfl (Sub.cons (s := 11) rfl (Sub.cons (s := 12) rfl (Sub.nil _)))))))))))
                      · skip
                        refine Lx.gF rfl rfl rfl rfl ?_
                        refine Lx.gF rfl rfl rfl rfl ?_
                        refine Lx.gF rfl rfl rfl rfl ?_
                        refine Lx.gF rfl rfl rfl rfl ?_
                        refine Lx.gT rfl rfl rfl ?_
                        refine Lx.y (pickF rfl rfl) rfl ?_
                        refine Lx.y (pickF rfl rfl) rfl ?_
                        refine Lx.nil ?_
                        exact Xx.mkK (⟨rfl, rfl, rfl⟩) (Sub.consE (s := 68) rfl (by unfold badP; first | exact congrArg Value.bool (decide_eq_true (by unfold BareP; grind)).symm | exact congrArg Value.bool (decide_eq_false (by unfold BareP; grind)).symm | exact congrArg Value.bool (decide_eq_decide.2 (by unfold BareP; grind)) | exact congrArg Value.bool (by unfold BareP; grind)) (Sub.cons (s := 0) rfl (Sub.cons (s := 1) rfl (Sub.cons (s := 2) rfl (Sub.cons (s := 4) rfl (Sub.cons (s := 5) rfl (Sub.cons (s := 9) rfl (Sub.cons (s := 10) rfl (Sub.cons (s := 11) rfl (Sub.cons (s := 12) rfl (Sub.nil _)))))))))))
                  · skip
                    refine Lx.gF rfl rfl rfl rfl ?_
                    refine Lx.gF rfl rfl rfl rfl ?_
                    refine Lx.gF rfl rfl rfl rfl ?_
                    refine Lx.gF rfl rfl rfl rfl ?_
                    refine Lx.gT rfl rfl rfl ?_
                    refine Lx.y (pickF rfl rfl) rfl ?_
                    refine Lx.y (pickF rfl rfl) rfl ?_
                    refine Lx.y (mv rfl) rfl ?_
                    refine Lx.gT rfl rfl rfl ?_
                    refine Lx.y (mv rfl) rfl ?_
                    refine Lx.gT rfl rfl rfl ?_
                    refine Lx.y (neI rfl rfl) rfl ?_
                    refine Lx.gT rfl rfl rfl ?_
                    refine Lx.y (mv rfl) rfl ?_
                    refine Xx.ifN (t := 62) rfl (fun h71 => ?_) (fun h71 => ?_)
                    · skip
                      refine Lx.gT rfl rfl rfl ?_
                      refine Lx.y (fa' fo53_5 rfl) rfl ?_
                      refine Lx.gT rfl rfl rfl ?_
                      refine Lx.y (ld Try.underlying22 rfl rfl rfl) rfl ?_
                      refine Lx.gT rfl rfl rfl ?_
                      refine Lx.y (lenV (ty' := 0) Try.underlying22 rfl) rfl ?_
                      refine Lx.gT rfl rfl rfl ?_
                      refine Lx.y (gtr rfl rfl) rfl ?_
                      refine Lx.gT rfl rfl rfl ?_
                      refine Lx.y (pickT rfl rfl) rfl ?_
                      refine Lx.y (pickF rfl rfl) rfl ?_
                      refine Lx.nil ?_
                      exact Xx.mkK (⟨rfl, rfl, rfl⟩) (Sub.consE (s := 68) rfl (by unfold badP; first | exact congrArg Value.bool (decide_eq_true (by unfold BareP; grind)).symm | exact congrArg Value.bool (decide_eq_false (by unfold BareP; grind)).symm | exact congrArg Value.bool (decide_eq_decide.2 (by unfold BareP; grind)) | exact congrArg Value.bool (by unfold BareP; grind)) (Sub.cons (s := 0) rfl (Sub.cons (s := 1) rfl (Sub.cons (s := 2) rfl (Sub.cons (s := 4) rfl (Sub.cons (s := 5) rfl (Sub.cons (s := 9) rfl (Sub.cons (s := 10) rfl (Sub.cons (s := 11) rfl (Sub.cons (s := 12) rfl (Sub.nil _)))))))))))
                    · skip
                      refine Lx.gF rfl rfl rfl rfl ?_
                      refine Lx.gF rfl rfl rfl rfl ?_
                      refine Lx.gF rfl rfl rfl rfl ?_
                      refine Lx.gF rfl rfl rfl rfl ?_
                      refine Lx.gT rfl rfl rfl ?_
                      refine Lx.y (pickF rfl rfl) rfl ?_
                      refine Lx.y (pickF rfl rfl) rfl ?_
                      refine Lx.nil ?_
                      exact Xx.mkK (⟨rfl, rfl, rfl⟩) (Sub.consE (s := 68) rfl (by unfold badP; first | exact congrArg Value.bool (decide_eq_true (by unfold BareP; grind)).symm | exact congrArg Value.bool (decide_eq_false (by unfold BareP; grind)).symm | exact congrArg Value.bool (decide_eq_decide.2 (by unfold BareP; grind)) | exact congrArg Value.bool (by unfold BareP; grind)) (Sub.cons (s := 0) rfl (Sub.cons (s := 1) rfl (Sub.cons (s := 2) rfl (Sub.cons (s := 4) rfl (Sub.cons (s := 5) rfl (Sub.cons (s := 9) rfl (Sub.cons (s := 10) rfl (Sub.cons (s := 11) rfl (Sub.cons (s := 12) rfl (Sub.nil _)))))))))))
              · skip
                refine Lx.gF rfl rfl rfl rfl ?_
                refine Lx.gF rfl rfl rfl rfl ?_
                refine Lx.gT rfl rfl rfl ?_
                refine Lx.y (pickF rfl rfl) rfl ?_
                refine Lx.gT rfl rfl rfl ?_
                refine Lx.y (mv rfl) rfl ?_
                refine Lx.gF rfl rfl rfl rfl ?_
                refine Lx.gF rfl rfl rfl rfl ?_
                refine Lx.gF rfl rfl rfl rfl ?_
                refine Lx.gT rfl rfl rfl ?_
                refine Lx.y (pickF rfl rfl) rfl ?_
                refine Lx.y (pickF rfl rfl) rfl ?_
                refine Lx.y (mv rfl) rfl ?_
                refine Lx.gT rfl rfl rfl ?_
                refine Lx.y (mv rfl) rfl ?_
                refine Lx.gT rfl rfl rfl ?_
                refine Lx.y (lss rfl rfl) rfl ?_
                refine Lx.gT rfl rfl rfl ?_
                refine Lx.y (mv rfl) rfl ?_
                refine Xx.ifD (t := 52) rfl (fun h72 => ?_) (fun h72 => ?_)
                · skip
                  refine Lx.gT rfl rfl rfl ?_
                  refine Lx.y (fa' fo53_4 rfl) rfl ?_
                  refine Lx.gT rfl rfl rfl ?_
                  refine Lx.y (ld Try.underlying51 rfl rfl rfl) rfl ?_
                  refine Lx.gT rfl rfl rfl ?_
                  refine Lx.y (lenV (ty' := 0) Try.underlying51 rfl) rfl ?_
                  refine Lx.gT rfl rfl rfl ?_
                  refine Lx.y (gtr rfl rfl) rfl ?_
                  refine Lx.gT rfl rfl rfl ?_
                  refine Lx.y (pickT rfl rfl) rfl ?_
                  refine Lx.y (pickF rfl rfl) rfl ?_
                  refine Lx.y (mv rfl) rfl ?_
                  refine Xx.ifD (t := 59) rfl (fun h73 => ?_) (fun h73 => ?_)
                  · skip
                    refine Lx.gF rfl rfl rfl rfl ?_
                    refine Lx.gF rfl rfl rfl rfl ?_
                    refine Lx.gF rfl rfl rfl rfl ?_
                    refine Lx.gU rfl rfl rfl rfl ?_
                    refine Lx.gU rfl rfl rfl rfl ?_
                    refine Lx.gU rfl rfl rfl rfl ?_
                    refine Lx.gU rfl rfl rfl rfl ?_
                    refine Lx.gF rfl rfl rfl rfl ?_
                    refine Lx.y (pickT rfl rfl) rfl ?_
                    refine Lx.nil ?_
                    exact Xx.mkK (⟨rfl, rfl, rfl⟩) (Sub.consE (s := 68) rfl (by unfold badP; first | exact congrArg Value.bool (decide_eq_true (by unfold BareP; grind)).symm | exact congrArg Value.bool (decide_eq_false (by unfold BareP; grind)).symm | exact congrArg Value.bool (decide_eq_decide.2 (by unfold BareP; grind)) | exact congrArg Value.bool (by unfold BareP; grind)) (Sub.cons (s := 0) rfl (Sub.cons (s := 1) rfl (Sub.cons (s := 2) rfl (Sub.cons (s := 4) rfl (Sub.cons (s := 5) rfl (Sub.cons (s := 9) rfl (Sub.cons (s := 10) rfl (Sub.cons (s := 11) rfl (Sub.cons (s := 12) rfl (Sub.nil _)))))))))))
                  · skip
                    refine Lx.gT rfl rfl rfl ?_
                    refine Lx.y (mv rfl) rfl ?_
                    refine Lx.gT rfl rfl rfl ?_
                    refine Lx.y (neI rfl rfl) rfl ?_
                    refine Lx.gT rfl rfl rfl ?_
                    refine Lx.y (mv rfl) rfl ?_
                    refine Xx.ifN (t := 62) rfl (fun h74 => ?_) (fun h74 => ?_)
                    · skip
                      refine Lx.gT rfl rfl rfl ?_
                      refine Lx.y (fa' fo53_5 rfl) rfl ?_
                      refine Lx.gT rfl rfl rfl ?_
                      refine Lx.y (ld Try.underlying22 rfl rfl rfl) rfl ?_
                      refine Lx.gT rfl rfl rfl ?_
                      refine Lx.y (lenV (ty' := 0) Try.underlying22 rfl) rfl ?_
                      refine Lx.gT rfl rfl rfl ?_
                      refine Lx.y (gtr rfl rfl) rfl ?_
                      refine Lx.gT rfl rfl rfl ?_
                      refine Lx.y (pickT rfl rfl) rfl ?_
                      refine Lx.y (pickF rfl rfl) rfl ?_
                      refine Lx.nil ?_
                      exact Xx.mkK (⟨rfl, rfl, rfl⟩) (Sub.consE (s := 68) rfl (by unfold badP; first | exact congrArg Value.bool (decide_eq_true (by unfold BareP; grind)).symm | exact congrArg Value.bool (decide_eq_false (by unfold BareP; grind)).symm | exact congrArg Value.bool (decide_eq_decide.2 (by unfold BareP; grind)) | exact congrArg Value.bool (by unfold BareP; grind)) (Sub.cons (s := 0) rfl (Sub.cons (s := 1) rfl (Sub.cons (s := 2) rfl (Sub.cons (s := 4) rfl (Sub.cons (s := 5) rfl (Sub.cons (s := 9) rfl (Sub.cons (s := 10) rfl (Sub.cons (s := 11) rfl (Sub.cons (s := 12) rfl (Sub.nil _)))))))))))
                    · skip
                      refine Lx.gF rfl rfl rfl rfl ?_
                      refine Lx.gF rfl rfl rfl rfl ?_
                      refine Lx.gF rfl rfl rfl rfl ?_
                      refine Lx.gF rfl rfl rfl rfl ?_
                      refine Lx.gT rfl rfl rfl ?_
                      refine Lx.y (pickF rfl rfl) rfl ?_
                      refine Lx.y (pickF rfl rfl) rfl ?_
                      refine Lx.nil ?_
                      exact Xx.mkK (⟨rfl, rfl, rfl⟩) (Sub.consE (s := 68) rfl (by unfold badP; first | exact congrArg Value.bool (decide_eq_true (by unfold BareP; grind)).symm | exact congrArg Value.bool (decide_eq_false (by unfold BareP; grind)).symm | exact congrArg Value.bool (decide_eq_decide.2 (by unfold BareP; grind)) | exact congrArg Value.bool (by unfold BareP; grind)) (Sub.cons (s := 0) rfl (Sub.cons (s := 1) rfl (Sub.cons (s := 2) rfl (Sub.cons (s := 4) rfl (Sub.cons (s := 5) rfl (Sub.cons (s := 9) rfl (Sub.cons (s := 10) rfl (Sub.cons (s := 11) rfl (Sub.cons (s := 12) rfl (Sub.nil _)))))))))))
                · skip
                  refine Lx.gF rfl rfl rfl rfl ?_
                  refine Lx.gF rfl rfl rfl rfl ?_
                  refine Lx.gF rfl rfl rfl rfl ?_
                  refine Lx.gF rfl rfl rfl rfl ?_
                  refine Lx.gT rfl rfl rfl ?_
                  refine Lx.y (pickF rfl rfl) rfl ?_
                  refine Lx.y (pickF rfl rfl) rfl ?_
                  refine Lx.y (mv rfl) rfl ?_
                  refine Lx.gT rfl rfl rfl ?_
                  refine Lx.y (mv rfl) rfl ?_
                  refine Lx.gT rfl rfl rfl ?_
                  refine Lx.y (neI rfl rfl) rfl ?_
                  refine Lx.gT rfl rfl rfl ?_
                  refine Lx.y (mv rfl) rfl ?_
                  refine Xx.ifN (t := 62) rfl (fun h75 => ?_) (fun h75 => ?_)
                  · skip
                    refine Lx.gT rfl rfl rfl ?_
                    refine Lx.y (fa' fo53_5 rfl) rfl ?_
                    refine Lx.gT rfl rfl rfl ?_
                    refine Lx.y (ld Try.underlying22 rfl rfl rfl) rfl ?_
                    refine Lx.gT rfl rfl rfl ?_
                    refine Lx.y (lenV (ty' := 0) Try.underlying22 rfl) rfl ?_
                    refine Lx.gT rfl rfl rfl ?_
                    refine Lx.y (gtr rfl rfl) rfl ?_
                    refine Lx.gT rfl rfl rfl ?_
                    refine Lx.y (pickT rfl rfl) rfl ?_
                    refine Lx.y (pickF rfl rfl) rfl ?_
                    refine Lx.nil ?_
                    exact Xx.mkK (⟨rfl, rfl, rfl⟩) (Sub.consE (s := 68) rfl (by unfold badP; first | exact congrArg Value.bool (decide_eq_true (by unfold BareP; grind)).symm | exact congrArg Value.bool (decide_eq_false (by unfold BareP; grind)).symm | exact congrArg Value.bool (decide_eq_decide.2 (by unfold BareP; grind)) | exact congrArg Value.bool (by unfold BareP; grind)) (Sub.cons (s := 0) rfl (Sub.cons (s := 1) rfl (Sub.cons (s := 2) rfl (Sub.cons (s := 4) rfl (Sub.cons (s := 5) rfl (Sub.cons (s := 9) rfl (Sub.cons (s := 10) rfl (Sub.cons (s := 11) rfl (Sub.cons (s := 12) rfl (Sub.nil _)))))))))))
                  · skip
                    refine Lx.gF rfl rfl rfl rfl ?_
                    refine Lx.gF rfl rfl rfl rfl ?_
                    refine Lx.gF rfl rfl rfl rfl ?_
                    refine Lx.gF rfl rfl rfl rfl ?_
                    refine Lx.gT rfl rfl rfl ?_
                    refine Lx.y (pickF rfl rfl) rfl ?_
                    refine Lx.y (pickF rfl rfl) rfl ?_
                    refine Lx.nil ?_
                    exact Xx.mkK (⟨rfl, rfl, rfl⟩) (Sub.consE (s := 68) rfl (by unfold badP; first | exact congrArg Value.bool (decide_eq_true (by unfold BareP; grind)).symm | exact congrArg Value.bool (decide_eq_false (by unfold BareP; grind)).symm | exact congrArg Value.bool (decide_eq_decide.2 (by unfold BareP; grind)) | exact congrArg Value.bool (by unfold BareP; grind)) (Sub.cons (s := 0) rfl (Sub.cons (s := 1) rfl (Sub.cons (s := 2) rfl (Sub.cons (s := 4) rfl (Sub.cons (s := 5) rfl (Sub.cons (s := 9) rfl (Sub.cons (s := 10) rfl (Sub.cons (s := 11) rfl (Sub.cons (s := 12) rfl (Sub.nil _)))))))))))
    · rintro ρ' B' H' ⟨rfl, rfl, rfl⟩
      refine Cx.condD rfl (fun h76 => ?_) (fun h76 => ?_)
      · skip
        have z1 := h76
        refine Cx.seq (fun K77 k77 => ?_)
        refine Cx.region ?_
        refine Lx.y (asg rfl) rfl ?_
        refine Lx.nil ?_
        refine Xx.tn (k77 _ _ _ _ ?_)
        refine Cx.ret ?_
        refine Xx.tr ?_
        refine Xx.dropB b2 (Xx.rB1 rfl rfl ⟨congrArg (fun z : Int => i64 z) ?_, rfl⟩ (Frag.le_refl _) rfl)
        first | exact (chk1 (by omega)).symm | exact (chk2 (by omega) z1).symm | exact (chk3 (by omega) z1 (by omega)).symm | exact (chk4 (by omega) z1 (by omega) (namesB_no fun z => hno (z.1 i hil))).symm | exact (chk4 (by omega) z1 (by omega) (namesB_six_no z3 (by omega))).symm | exact (chk5 (by omega) z1 (by omega) hnb hil hall hze).symm | exact (chk6 (by omega) z1 (by omega) hnb (fun k hk => hall k hk hk)).symm
      · skip
        have z1 := h76
        refine Cx.skip ?_
        refine Xx.tn (k7 _ _ _ _ ?_)
        refine Cx.seq (fun K78 k78 => ?_)
        refine Cx.seq (fun K79 k79 => ?_)
        refine Cx.region ?_
        refine Lx.y (fa' fo53_4 rfl) rfl ?_
        refine Lx.y (ld Try.underlying51 rfl rfl rfl) rfl ?_
        refine Lx.y (lenV (ty' := 0) Try.underlying51 rfl) rfl ?_
        refine Lx.y (gtr rfl rfl) rfl ?_
        refine Lx.nil ?_
        refine Xx.tn (k79 _ _ _ _ ?_)
        refine Cx.condD rfl (fun h80 => ?_) (fun h80 => ?_)
        · skip
          have z2 := h80
          refine Cx.seq (fun K81 k81 => ?_)
          refine Cx.region ?_
          refine Lx.y (asg rfl) rfl ?_
          refine Lx.nil ?_
          refine Xx.tn (k81 _ _ _ _ ?_)
          refine Cx.ret ?_
          refine Xx.tr ?_
          refine Xx.dropB b2 (Xx.rB1 rfl rfl ⟨congrArg (fun z : Int => i64 z) ?_, rfl⟩ (Frag.le_refl _) rfl)
          first | exact (chk1 (by omega)).symm | exact (chk2 (by omega) z1).symm | exact (chk3 (by omega) z1 (by omega)).symm | exact (chk4 (by omega) z1 (by omega) (namesB_no fun z => hno (z.1 i hil))).symm | exact (chk4 (by omega) z1 (by omega) (namesB_six_no z3 (by omega))).symm | exact (chk5 (by omega) z1 (by omega) hnb hil hall hze).symm | exact (chk6 (by omega) z1 (by omega) hnb (fun k hk => hall k hk hk)).symm
        · skip
          have z2 := h80
          refine Cx.skip ?_
          refine Xx.tn (k78 _ _ _ _ ?_)
          refine Cx.cutK (ds' := []) (Sub.cons (s := 0) rfl (Sub.cons (s := 1) rfl (Sub.cons (s := 2) rfl (Sub.cons (s := 5) rfl (Sub.cons (s := 9) rfl (Sub.cons (s := 10) rfl (Sub.cons (s := 11) rfl (Sub.cons (s := 12) rfl (Sub.cons (s := 68) rfl (Sub.cons (s := 69) rfl (Sub.cons (s := 70) rfl (Sub.cons (s := 71) rfl (Sub.cons (s := 72) rfl (Sub.nil _)))))))))))))) (fun ρ' B' H' => ρ' = [] ∧ B = B' ∧ namesB v = true ∧ row b2 53 (vcs v Ap cp An cn) * R = H') ?_ ?_
          · skip
            refine Cx.seq (fun K82 k82 => ?_)
            refine Cx.region ?_
            refine Lx.y (mv rfl) rfl ?_
            refine Lx.y (eqI rfl rfl) rfl ?_
            refine Lx.nil ?_
            refine Xx.tn (k82 _ _ _ _ ?_)
            refine Cx.condD rfl (fun h83 => ?_) (fun h83 => ?_)
            · skip
              have z3 := h83
              refine Cx.seq (fun K84 k84 => ?_)
              refine Cx.seq (fun K85 k85 => ?_)
              refine Cx.region ?_
              refine Lx.y (asg rfl) rfl ?_
              refine Lx.nil ?_
              refine Xx.tn (k85 _ _ _ _ ?_)
              refine Cx.block ?_
              refine Cx.loopK (Sub.cons (s := 0) rfl (Sub.cons (s := 1) rfl (Sub.cons (s := 2) rfl (Sub.cons (s := 5) rfl (Sub.cons (s := 9) rfl (Sub.cons (s := 10) rfl (Sub.cons (s := 11) rfl (Sub.cons (s := 12) rfl (Sub.cons (s := 68) rfl (Sub.cons (s := 69) rfl (Sub.cons (s := 70) rfl (Sub.cons (s := 71) rfl (Sub.cons (s := 72) rfl (Sub.cons (s := 73) rfl (Sub.cons (s := 74) rfl (Sub.nil _)))))))))))))))) (fun m ρ' B' H' => ∃ (i : Nat), (i ≤ v.names.length ∧ ∀ k, k < i → nOk v.names k) ∧ m = v.names.length - i ∧ ρ' = [(6, i64 i)] ∧ B = B' ∧ row b2 53 (vcs v Ap cp An cn) * R = H') ⟨0, ⟨by omega, fun k h => absurd h (by omega)⟩, rfl, rfl, rfl, rfl⟩ (Sub.cons (s := 6) rfl (Sub.cons (s := 0) rfl (Sub.cons (s := 1) rfl (Sub.cons (s := 2) rfl (Sub.cons (s := 5) rfl (Sub.cons (s := 9) rfl (Sub.cons (s := 10) rfl (Sub.cons (s := 11) rfl (Sub.cons (s := 12) rfl (Sub.cons (s := 68) rfl (Sub.cons (s := 69) rfl (Sub.cons (s := 70) rfl (Sub.cons (s := 71) rfl (Sub.cons (s := 72) rfl (Sub.cons (s := 73) rfl (Sub.cons (s := 74) rfl (Sub.nil _))))))))))))))))) ?_
              rintro m ρ' B' H' ⟨i, ⟨hi, hall⟩, rfl, rfl, rfl, rfl⟩
              refine Cx.seq (fun K86 k86 => ?_)
              refine Cx.seq (fun K87 k87 => ?_)
              refine Cx.region ?_
              refine Lx.y (mv rfl) rfl ?_
              refine Lx.y (fa' fo53_5 rfl) rfl ?_
              refine Lx.y (ld Try.underlying22 rfl rfl rfl) rfl ?_
              refine Lx.y (lenV (ty' := 0) Try.underlying22 rfl) rfl ?_
              refine Lx.y (lss rfl rfl) rfl ?_
              refine Lx.nil ?_
              refine Xx.tn (k87 _ _ _ _ ?_)
              refine Cx.condD rfl (fun h88 => ?_) (fun h88 => ?_)
              · skip
                have hil : i < v.names.length := by have := h88; omega
                obtain ⟨bq, oq, cq, eq, fq, rfl, hBq, hcq⟩ := hns.at1 (k := i) hil
                rw [get_map hil] at hcq
                refine Cx.skip ?_
                refine Xx.tn (k86 _ _ _ _ ?_)
                refine Cx.seq (fun K89 k89 => ?_)
                refine Cx.block ?_
                refine Cx.seq (fun K90 k90 => ?_)
                refine Cx.drawn (by kernel_rfl) ?_
                refine Dx.p (i := 0) rfl (by kernel_rfl) (fa' fo53_5 rfl) rfl ?_
                refine Dx.r (i := 1) rfl (by kernel_rfl) (ld Try.underlying22 rfl rfl rfl) rfl ?_
                refine Dx.p (i := 2) rfl (by kernel_rfl) (mv rfl) rfl ?_
                refine Dx.p (i := 3) rfl (by kernel_rfl) (ia Try.underlying22 sz9 rfl rfl (by first | exact Int.toNat_natCast _ | rfl) (by omega) (by omega)) rfl ?_
                refine Dx.r (i := 4) rfl (by kernel_rfl) (ldB Try.underlying9 rfl rfl hBq hcq) rfl ?_
                refine Dx.one (i := 5) (by kernel_rfl) ?_
                refine Dstep.o (i := 5) rfl (Ox.cb rfl rfl rfl (RName_ct _ _ (hnx _ (get_mem hil)))) rfl (fun v B' H' hΦ hB => ?_)
                obtain ⟨rfl, rfl, rfl⟩ := hΦ; clear hB
                refine ⟨JOk.edge (JOk.yes (JOk.top) (ld Try.underlying22 rfl rfl rfl)) (by kernel_rfl), ?_⟩
                refine Dx.p (i := 6) rfl (by kernel_rfl) (not' rfl) rfl ?_
                refine Dx.p (i := 7) rfl (by kernel_rfl) (mv rfl) rfl ?_
                refine Xx.ifB (t := 89) rfl (fun h91 => ?_) (fun h91 => ?_)
                · skip
                  have hno : ¬ nOk v.names i := fun z => by have := nameB_iff.2 z.1; rw [this] at h91; cases h91
                  refine Dx.pF (i := 8) rfl (fun _ h => by cases h) rfl rfl rfl (by kernel_rfl) rfl ?_
                  refine Dx.pF (i := 9) rfl (fun _ h => by cases h) rfl rfl rfl (by kernel_rfl) rfl ?_
                  refine Dx.pF (i := 10) rfl (fun _ h => by cases h) rfl rfl rfl (by kernel_rfl) rfl ?_
                  refine Dx.pU (i := 11) rfl (fun _ h => by cases h) rfl rfl rfl (by kernel_rfl) rfl ?_
                  refine Dx.pU (i := 12) rfl (fun _ h => by cases h) rfl rfl rfl (by kernel_rfl) rfl ?_
                  refine Dx.pU (i := 13) rfl (fun _ h => by cases h) rfl rfl rfl (by kernel_rfl) rfl ?_
                  refine Dx.pU (i := 14) rfl (fun _ h => by cases h) rfl rfl rfl (by kernel_rfl) rfl ?_
                  refine Dx.pU (i := 15) rfl (fun _ h => by cases h) rfl rfl rfl (by kernel_rfl) rfl ?_
                  refine Dx.pU (i := 16) rfl (fun _ h => by cases h) rfl rfl rfl (by kernel_rfl) rfl ?_
                  refine Dx.pU (i := 17) rfl (fun _ h => by cases h) rfl rfl rfl (by kernel_rfl) rfl ?_
                  refine Dx.pU (i := 18) rfl (fun _ h => by cases h) rfl rfl rfl (by kernel_rfl) rfl ?_
                  refine Dx.pU (i := 19) rfl (fun _ h => by cases h) rfl rfl rfl (by kernel_rfl) rfl ?_
                  refine Dx.pU (i := 20) rfl (fun _ h => by cases h) rfl rfl rfl (by kernel_rfl) rfl ?_
                  refine Dx.pU (i := 21) rfl (fun _ h => by cases h) rfl rfl rfl (by kernel_rfl) rfl ?_
                  refine Dx.pU (i := 22) rfl (fun _ h => by cases h) rfl rfl rfl (by kernel_rfl) rfl ?_
                  refine Dx.pF (i := 23) rfl (fun _ h => by cases h) rfl rfl rfl (by kernel_rfl) rfl ?_
                  refine Dx.p (i := 24) rfl (by kernel_rfl) (pickT rfl rfl) rfl ?_
                  refine Dx.done (by kernel_rfl) ?_
                  refine Xx.tn (k90 _ _ _ _ ?_)
                  refine Cx.condT rfl ?_
                  refine Cx.seq (fun K92 k92 => ?_)
                  refine Cx.region ?_
                  refine Lx.y (asg rfl) rfl ?_
                  refine Lx.nil ?_
                  refine Xx.tn (k92 _ _ _ _ ?_)
                  refine Cx.ret ?_
                  refine Xx.br ?_
                  refine Xx.tr ?_
                  refine Xx.tr ?_
                  refine Xx.br ?_
                  refine Xx.tr ?_
                  refine Xx.tr ?_
                  refine Xx.dropB b2 (Xx.rB1 rfl rfl ⟨congrArg (fun z : Int => i64 z) ?_, rfl⟩ (Frag.le_refl _) rfl)
                  first | exact (chk1 (by omega)).symm | exact (chk2 (by omega) z1).symm | exact (chk3 (by omega) z1 (by omega)).symm | exact (chk4 (by omega) z1 (by omega) (namesB_no fun z => hno (z.1 i hil))).symm | exact (chk4 (by omega) z1 (by omega) (namesB_six_no z3 (by omega))).symm | exact (chk5 (by omega) z1 (by omega) hnb hil hall hze).symm | exact (chk6 (by omega) z1 (by omega) hnb (fun k hk => hall k hk hk)).symm
                · skip
                  have hnm : NameP (v.names.getD i []) := nameB_iff.1 ((Bool.not_eq_false' _).mp h91)
                  refine Dx.pT (i := 8) rfl rfl rfl rfl (by kernel_rfl) (mv rfl) rfl ?_
                  refine Dx.pT (i := 9) rfl rfl rfl rfl (by kernel_rfl) (gtr rfl rfl) rfl ?_
                  refine Dx.pT (i := 10) rfl rfl rfl rfl (by kernel_rfl) (mv rfl) rfl ?_
                  refine Xx.ifD (t := 92) rfl (fun h93 => ?_) (fun h93 => ?_)
                  · skip
                    have hgt := h93
                    obtain ⟨bq2, oq2, cq2, eq2, fq2, hA2, hBq2, hcq2⟩ := hns.at1 (k := i - 1) (by omega)
                    rw [get_map (by omega)] at hcq2
                    injection hA2 with hA2
                    injection hA2 with hA3 hA4
                    subst hA3 hA4
                    refine Dx.pT (i := 11) rfl rfl rfl rfl (by kernel_rfl) (fa' fo53_5 rfl) rfl ?_
                    refine Dx.rT (i := 12) rfl rfl rfl rfl (by kernel_rfl) (ld Try.underlying22 rfl rfl rfl) rfl ?_
                    refine Dx.pT (i := 13) rfl rfl rfl rfl (by kernel_rfl) (mv rfl) rfl ?_
                    refine Dx.pT (i := 14) rfl rfl rfl rfl (by kernel_rfl) (sub rfl rfl (show IntKind.i64.wrap _ = ((i - 1 : Nat) : Int) by rw [wrap64 (by omega) (by omega)]; omega)) rfl ?_
                    refine Dx.pT (i := 15) rfl rfl rfl rfl (by kernel_rfl) (ia Try.underlying22 sz9 rfl rfl (by first | exact Int.toNat_natCast _ | rfl) (by omega) (by omega)) rfl ?_
                    refine Dx.rT (i := 16) rfl rfl rfl rfl (by kernel_rfl) (ldB Try.underlying9 rfl rfl hBq2 hcq2) rfl ?_
                    refine Dx.pT (i := 17) rfl rfl rfl rfl (by kernel_rfl) (fa' fo53_5 rfl) rfl ?_
                    refine Dx.rT (i := 18) rfl rfl rfl rfl (by kernel_rfl) (ld Try.underlying22 rfl rfl rfl) rfl ?_
                    refine Dx.pT (i := 19) rfl rfl rfl rfl (by kernel_rfl) (mv rfl) rfl ?_
                    refine Dx.pT (i := 20) rfl rfl rfl rfl (by kernel_rfl) (ia Try.underlying22 sz9 rfl rfl (by first | exact Int.toNat_natCast _ | rfl) (by omega) (by omega)) rfl ?_
                    refine Dx.rT (i := 21) rfl rfl rfl rfl (by kernel_rfl) (ldB Try.underlying9 rfl rfl hBq hcq) rfl ?_
                    refine Dx.pT (i := 22) rfl rfl rfl rfl (by kernel_rfl) (geqS rfl rfl) rfl ?_
                    refine Dx.pT (i := 23) rfl rfl rfl rfl (by kernel_rfl) (pickT rfl rfl) rfl ?_
                    refine Dx.p (i := 24) rfl (by kernel_rfl) (pickF rfl rfl) rfl ?_
                    refine Dx.done (by kernel_rfl) ?_
                    refine Xx.tn (k90 _ _ _ _ ?_)
                    refine Cx.condB rfl (fun h94 => ?_) (fun h94 => ?_)
                    · skip
                      have hno : ¬ nOk v.names i := fun z => by have := z.2 (by omega); rw [this] at h94; cases h94
                      refine Cx.seq (fun K95 k95 => ?_)
                      refine Cx.region ?_
                      refine Lx.y (asg rfl) rfl ?_
                      refine Lx.nil ?_
                      refine Xx.tn (k95 _ _ _ _ ?_)
                      refine Cx.ret ?_
                      refine Xx.br ?_
                      refine Xx.tr ?_
                      refine Xx.tr ?_
                      refine Xx.br ?_
                      refine Xx.tr ?_
                      refine Xx.tr ?_
                      refine Xx.dropB b2 (Xx.rB1 rfl rfl ⟨congrArg (fun z : Int => i64 z) ?_, rfl⟩ (Frag.le_refl _) rfl)
                      first | exact (chk1 (by omega)).symm | exact (chk2 (by omega) z1).symm | exact (chk3 (by omega) z1 (by omega)).symm | exact (chk4 (by omega) z1 (by omega) (namesB_no fun z => hno (z.1 i hil))).symm | exact (chk4 (by omega) z1 (by omega) (namesB_six_no z3 (by omega))).symm | exact (chk5 (by omega) z1 (by omega) hnb hil hall hze).symm | exact (chk6 (by omega) z1 (by omega) hnb (fun k hk => hall k hk hk)).symm
                    · skip
                      have hok : nOk v.names i := ⟨hnm, fun _ => (Bool.not_eq_false' _).mp h94⟩
                      refine Cx.skip ?_
                      refine Xx.bn ?_
                      refine Xx.tn (k89 _ _ _ _ ?_)
                      refine Cx.region ?_
                      refine Lx.y (mv rfl) rfl ?_
                      refine Lx.y (add rfl rfl (by first | exact wrap64 (by omega) (by omega) | rfl)) rfl ?_
                      refine Lx.y (asg rfl) rfl ?_
                      refine Lx.nil ?_
                      exact Xx.againK ⟨i + 1, ⟨by omega, fun k hk => by
  by_cases e : k = i
  · subst e; exact hok
  · exact hall k (by omega)⟩, rfl, rfl, rfl, rfl⟩ (by omega) (Sub.cons (s := 6) rfl (Sub.cons (s := 0) rfl (Sub.cons (s := 1) rfl (Sub.cons (s := 2) rfl (Sub.cons (s := 5) rfl (Sub.cons (s := 9) rfl (Sub.cons (s := 10) rfl (Sub.cons (s := 11) rfl (Sub.cons (s := 12) rfl (Sub.cons (s := 68) rfl (Sub.cons (s := 69) rfl (Sub.cons (s := 70) rfl (Sub.cons (s := 71) rfl (Sub.cons (s := 72) rfl (Sub.cons (s := 73) rfl (Sub.cons (s := 74) rfl (Sub.nil _)))))))))))))))))
                  · skip
                    have hok : nOk v.names i := ⟨hnm, fun z => absurd z (by have := h93; omega)⟩
                    refine Dx.pF (i := 11) rfl (fun _ h => by cases h) rfl rfl rfl (by kernel_rfl) rfl ?_
                    refine Dx.pF (i := 12) rfl (fun _ h => by cases h) rfl rfl rfl (by kernel_rfl) rfl ?_
                    refine Dx.pF (i := 13) rfl (fun _ h => by cases h) rfl rfl rfl (by kernel_rfl) rfl ?_
                    refine Dx.pF (i := 14) rfl (fun _ h => by cases h) rfl rfl rfl (by kernel_rfl) rfl ?_
                    refine Dx.pF (i := 15) rfl (fun _ h => by cases h) rfl rfl rfl (by kernel_rfl) rfl ?_
                    refine Dx.pF (i := 16) rfl (fun _ h => by cases h) rfl rfl rfl (by kernel_rfl) rfl ?_
                    refine Dx.pF (i := 17) rfl (fun _ h => by cases h) rfl rfl rfl (by kernel_rfl) rfl ?_
                    refine Dx.pF (i := 18) rfl (fun _ h => by cases h) rfl rfl rfl (by kernel_rfl) rfl ?_
                    refine Dx.pF (i := 19) rfl (fun _ h => by cases h) rfl rfl rfl (by kernel_rfl) rfl ?_
                    refine Dx.pF (i := 20) rfl (fun _ h => by cases h) rfl rfl rfl (by kernel_rfl) rfl ?_
                    refine Dx.pF (i := 21) rfl (fun _ h => by cases h) rfl rfl rfl (by kernel_rfl) rfl ?_
                    refine Dx.pF (i := 22) rfl (fun _ h => by cases h) rfl rfl rfl (by kernel_rfl) rfl ?_
                    refine Dx.pT (i := 23) rfl rfl rfl rfl (by kernel_rfl) (pickF rfl rfl) rfl ?_
                    refine Dx.p (i := 24) rfl (by kernel_rfl) (pickF rfl rfl) rfl ?_
                    refine Dx.done (by kernel_rfl) ?_
                    refine Xx.tn (k90 _ _ _ _ ?_)
                    refine Cx.condF rfl ?_
                    refine Cx.skip ?_
                    refine Xx.bn ?_
                    refine Xx.tn (k89 _ _ _ _ ?_)
                    refine Cx.region ?_
                    refine Lx.y (mv rfl) rfl ?_
                    refine Lx.y (add rfl rfl (by first | exact wrap64 (by omega) (by omega) | rfl)) rfl ?_
                    refine Lx.y (asg rfl) rfl ?_
                    refine Lx.nil ?_
                    exact Xx.againK ⟨i + 1, ⟨by omega, fun k hk => by
  by_cases e : k = i
  · subst e; exact hok
  · exact hall k (by omega)⟩, rfl, rfl, rfl, rfl⟩ (by omega) (Sub.cons (s := 6) rfl (Sub.cons (s := 0) rfl (Sub.cons (s := 1) rfl (Sub.cons (s := 2) rfl (Sub.cons (s := 5) rfl (Sub.cons (s := 9) rfl (Sub.cons (s := 10) rfl (Sub.cons (s := 11) rfl (Sub.cons (s := 12) rfl (Sub.cons (s := 68) rfl (Sub.cons (s := 69) rfl (Sub.cons (s := 70) rfl (Sub.cons (s := 71) rfl (Sub.cons (s := 72) rfl (Sub.cons (s := 73) rfl (Sub.cons (s := 74) rfl (Sub.nil _)))))))))))))))))
              · skip
                obtain rfl : i = v.names.length := by have := h88; omega
                refine Cx.exit ?_
                refine Xx.te ?_
                refine Xx.te ?_
                refine Xx.bh ?_
                refine Xx.tn (k84 _ _ _ _ ?_)
                refine Cx.seq (fun K96 k96 => ?_)
                refine Cx.region ?_
                refine Lx.y (fa' fo53_5 rfl) rfl ?_
                refine Lx.y (ld Try.underlying22 rfl rfl rfl) rfl ?_
                refine Lx.y (lenV (ty' := 0) Try.underlying22 rfl) rfl ?_
                refine Lx.y (fa' fo53_4 rfl) rfl ?_
                refine Lx.y (ld Try.underlying51 rfl rfl rfl) rfl ?_
                refine Lx.y (lenV (ty' := 0) Try.underlying51 rfl) rfl ?_
                refine Lx.y (neI rfl rfl) rfl ?_
                refine Lx.nil ?_
                refine Xx.tn (k96 _ _ _ _ ?_)
                refine Cx.condN rfl (fun h97 => ?_) (fun h97 => ?_)
                · skip
                  have hnel := h97
                  refine Cx.seq (fun K98 k98 => ?_)
                  refine Cx.region ?_
                  refine Lx.y (asg rfl) rfl ?_
                  refine Lx.nil ?_
                  refine Xx.tn (k98 _ _ _ _ ?_)
                  refine Cx.ret ?_
                  refine Xx.tr ?_
                  refine Xx.dropB b2 (Xx.rB1 rfl rfl ⟨congrArg (fun z : Int => i64 z) ?_, rfl⟩ (Frag.le_refl _) rfl)
                  first | exact (chk1 (by omega)).symm | exact (chk2 (by omega) z1).symm | exact (chk3 (by omega) z1 (by omega)).symm | exact (chk4 (by omega) z1 (by omega) (namesB_no fun z => hno (z.1 i hil))).symm | exact (chk4 (by omega) z1 (by omega) (namesB_six_no z3 (by omega))).symm | exact (chk5 (by omega) z1 (by omega) hnb hil hall hze).symm | exact (chk6 (by omega) z1 (by omega) hnb (fun k hk => hall k hk hk)).symm
                · skip
                  have hnel := h97
                  refine Cx.skip ?_
                  exact Xx.mkK (⟨rfl, rfl, namesB_six_yes hall (by omega), rfl⟩) (Sub.cons (s := 0) rfl (Sub.cons (s := 1) rfl (Sub.cons (s := 2) rfl (Sub.cons (s := 5) rfl (Sub.cons (s := 9) rfl (Sub.cons (s := 10) rfl (Sub.cons (s := 11) rfl (Sub.cons (s := 12) rfl (Sub.cons (s := 68) rfl (Sub.cons (s := 69) rfl (Sub.cons (s := 70) rfl (Sub.cons (s := 71) rfl (Sub.cons (s := 72) rfl (Sub.nil _))))))))))))))
            · skip
              have z3 := h83
              refine Cx.skip ?_
              exact Xx.mkK (⟨rfl, rfl, namesB_bare z1 z3, rfl⟩) (Sub.cons (s := 0) rfl (Sub.cons (s := 1) rfl (Sub.cons (s := 2) rfl (Sub.cons (s := 5) rfl (Sub.cons (s := 9) rfl (Sub.cons (s := 10) rfl (Sub.cons (s := 11) rfl (Sub.cons (s := 12) rfl (Sub.cons (s := 68) rfl (Sub.cons (s := 69) rfl (Sub.cons (s := 70) rfl (Sub.cons (s := 71) rfl (Sub.cons (s := 72) rfl (Sub.nil _))))))))))))))
          · rintro ρ' B' H' ⟨rfl, rfl, hnb, rfl⟩
            refine Cx.seq (fun K99 k99 => ?_)
            refine Cx.seq (fun K100 k100 => ?_)
            refine Cx.region ?_
            refine Lx.y (asg rfl) rfl ?_
            refine Lx.nil ?_
            refine Xx.tn (k100 _ _ _ _ ?_)
            refine Cx.block ?_
            refine Cx.loopK (Sub.cons (s := 0) rfl (Sub.cons (s := 1) rfl (Sub.cons (s := 2) rfl (Sub.cons (s := 5) rfl (Sub.cons (s := 9) rfl (Sub.cons (s := 10) rfl (Sub.cons (s := 11) rfl (Sub.cons (s := 12) rfl (Sub.cons (s := 68) rfl (Sub.cons (s := 69) rfl (Sub.cons (s := 70) rfl (Sub.cons (s := 71) rfl (Sub.cons (s := 72) rfl (Sub.nil _)))))))))))))) (fun m ρ' B' H' => ∃ (i : Nat), (i ≤ v.parts.length ∧ ∀ k (hk : k < v.parts.length), k < i → checkF d v.parts[k] (deep + 1) = 0) ∧ m = v.parts.length - i ∧ ρ' = [(7, i64 i)] ∧ B = B' ∧ row b2 53 (vcs v Ap cp An cn) * R = H') ⟨0, ⟨by omega, fun k hk h => absurd h (by omega)⟩, rfl, rfl, rfl, rfl⟩ (Sub.cons (s := 7) rfl (Sub.cons (s := 0) rfl (Sub.cons (s := 1) rfl (Sub.cons (s := 2) rfl (Sub.cons (s := 5) rfl (Sub.cons (s := 9) rfl (Sub.cons (s := 10) rfl (Sub.cons (s := 11) rfl (Sub.cons (s := 12) rfl (Sub.cons (s := 68) rfl (Sub.cons (s := 69) rfl (Sub.cons (s := 70) rfl (Sub.cons (s := 71) rfl (Sub.cons (s := 72) rfl (Sub.nil _))))))))))))))) ?_
            rintro m ρ' B' H' ⟨i, ⟨hi, hall⟩, rfl, rfl, rfl, rfl⟩
            refine Cx.seq (fun K101 k101 => ?_)
            refine Cx.seq (fun K102 k102 => ?_)
            refine Cx.region ?_
            refine Lx.y (mv rfl) rfl ?_
            refine Lx.y (fa' fo53_4 rfl) rfl ?_
            refine Lx.y (ld Try.underlying51 rfl rfl rfl) rfl ?_
            refine Lx.y (lenV (ty' := 0) Try.underlying51 rfl) rfl ?_
            refine Lx.y (lss rfl rfl) rfl ?_
            refine Lx.nil ?_
            refine Xx.tn (k102 _ _ _ _ ?_)
            refine Cx.condD rfl (fun h103 => ?_) (fun h103 => ?_)
            · skip
              have hil : i < v.parts.length := by have := h103; omega
              obtain ⟨bq, oq, lq, eq, fq, xs, rfl, hBq, hxs, hv2⟩ := hps i hil
              obtain ⟨Ap2, cp2, An2, cn2, rfl⟩ := ValR.shape hv2
              refine Cx.skip ?_
              refine Xx.tn (k101 _ _ _ _ ?_)
              refine Cx.seq (fun K104 k104 => ?_)
              refine Cx.block ?_
              refine Cx.seq (fun K105 k105 => ?_)
              refine Cx.region ?_
              refine Lx.y (fa' fo53_4 rfl) rfl ?_
              refine Lx.y (ld Try.underlying51 rfl rfl rfl) rfl ?_
              refine Lx.y (mv rfl) rfl ?_
              refine Lx.y (ia Try.underlying51 sz53 rfl rfl (by first | exact Int.toNat_natCast _ | rfl) (by omega) (by omega)) rfl ?_
              refine Lx.y (ldA Try.underlying53 rfl sz53 rfl (Cells.base (n := 6) hBq hxs) rfl) rfl ?_
              refine Lx.y (mv rfl) rfl ?_
              refine Lx.y (add rfl rfl (by first | exact wrap64 (by omega) (by omega) | rfl)) rfl ?_
              refine Lx.cp rfl rfl rfl (ih _ _ _ _ hv2 (by omega) (by omega)) rfl ?_
              refine Lx.y (asg rfl) rfl ?_
              refine Lx.nil ?_
              refine Xx.tn (k105 _ _ _ _ ?_)
              refine Cx.seq (fun K106 k106 => ?_)
              refine Cx.region ?_
              refine Lx.y (mv rfl) rfl ?_
              refine Lx.y (neI rfl rfl) rfl ?_
              refine Lx.nil ?_
              refine Xx.tn (k106 _ _ _ _ ?_)
              refine Cx.condN rfl (fun h107 => ?_) (fun h107 => ?_)
              · skip
                have hze := h107
                refine Cx.seq (fun K108 k108 => ?_)
                refine Cx.region ?_
                refine Lx.y (mv rfl) rfl ?_
                refine Lx.y (asg rfl) rfl ?_
                refine Lx.nil ?_
                refine Xx.tn (k108 _ _ _ _ ?_)
                refine Cx.ret ?_
                refine Xx.br ?_
                refine Xx.tr ?_
                refine Xx.tr ?_
                refine Xx.br ?_
                refine Xx.tr ?_
                refine Xx.dropB b2 (Xx.rB1 rfl rfl ⟨congrArg (fun z : Int => i64 z) ?_, rfl⟩ (Frag.le_refl _) rfl)
                first | exact (chk1 (by omega)).symm | exact (chk2 (by omega) z1).symm | exact (chk3 (by omega) z1 (by omega)).symm | exact (chk4 (by omega) z1 (by omega) (namesB_no fun z => hno (z.1 i hil))).symm | exact (chk4 (by omega) z1 (by omega) (namesB_six_no z3 (by omega))).symm | exact (chk5 (by omega) z1 (by omega) hnb hil hall hze).symm | exact (chk6 (by omega) z1 (by omega) hnb (fun k hk => hall k hk hk)).symm
              · skip
                have hze := h107
                refine Cx.skip ?_
                refine Xx.bn ?_
                refine Xx.tn (k104 _ _ _ _ ?_)
                refine Cx.region ?_
                refine Lx.y (mv rfl) rfl ?_
                refine Lx.y (add rfl rfl (by first | exact wrap64 (by omega) (by omega) | rfl)) rfl ?_
                refine Lx.y (asg rfl) rfl ?_
                refine Lx.nil ?_
                exact Xx.againK ⟨i + 1, ⟨by omega, fun k hk hki => by
  by_cases e : k = i
  · subst e; exact hze
  · exact hall k hk (by omega)⟩, rfl, rfl, rfl, rfl⟩ (by omega) (Sub.cons (s := 7) rfl (Sub.cons (s := 0) rfl (Sub.cons (s := 1) rfl (Sub.cons (s := 2) rfl (Sub.cons (s := 5) rfl (Sub.cons (s := 9) rfl (Sub.cons (s := 10) rfl (Sub.cons (s := 11) rfl (Sub.cons (s := 12) rfl (Sub.cons (s := 68) rfl (Sub.cons (s := 69) rfl (Sub.cons (s := 70) rfl (Sub.cons (s := 71) rfl (Sub.cons (s := 72) rfl (Sub.nil _)))))))))))))))
            · skip
              obtain rfl : i = v.parts.length := by have := h103; omega
              refine Cx.exit ?_
              refine Xx.te ?_
              refine Xx.te ?_
              refine Xx.bh ?_
              refine Xx.tn (k99 _ _ _ _ ?_)
              refine Cx.seq (fun K109 k109 => ?_)
              refine Cx.region ?_
              refine Lx.y (asg rfl) rfl ?_
              refine Lx.nil ?_
              refine Xx.tn (k109 _ _ _ _ ?_)
              refine Cx.ret ?_
              refine Xx.dropB b2 (Xx.rB1 rfl rfl ⟨congrArg (fun z : Int => i64 z) ?_, rfl⟩ (Frag.le_refl _) rfl)
              first | exact (chk1 (by omega)).symm | exact (chk2 (by omega) z1).symm | exact (chk3 (by omega) z1 (by omega)).symm | exact (chk4 (by omega) z1 (by omega) (namesB_no fun z => hno (z.1 i hil))).symm | exact (chk4 (by omega) z1 (by omega) (namesB_six_no z3 (by omega))).symm | exact (chk5 (by omega) z1 (by omega) hnb hil hall hze).symm | exact (chk6 (by omega) z1 (by omega) hnb (fun k hk => hall k hk hk)).symm
end KeG
end Go.Proofs.Ytcoiejmlpinpbaa
