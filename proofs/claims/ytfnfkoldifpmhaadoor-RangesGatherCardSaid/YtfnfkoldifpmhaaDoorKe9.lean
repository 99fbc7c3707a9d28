/-
  Bytes of numbers, of texts.
-/
import Derived.Test.YtfnfkoldifpmhaaDoorProg
import Derived.Test.YtfnfkoldifpmhaaDoorSlj
import Derived.Test.YtfnfkoldifpmhaaDoorKe8
namespace Go.Proofs.YtfnfkoldifpmhaaDoor
open Go.SL Go.RowKit
set_option linter.unusedVariables false
set_option linter.unusedSimpArgs false
set_option maxRecDepth 100000
open Ke1 Ke3 Ke4 Ke5 Ke6 Ke7 Ke8
namespace Ke9
theorem ti5 : TI Tryd.prog 5 [.int .u8 0] 1 1 := TI.of (by kernel_rfl) rfl rfl

def hiB (n : BitVec 64) : UInt8 := toB (((BitVec.ofInt 8 ((toB (n.toNat : Nat)).toNat : Nat) ||| BitVec.ofInt 8 128).toNat : Nat) : Int)
def uvF : Nat → BitVec 64 → List UInt8
  | 0, n => [toB (n.toNat : Nat)]
  | k + 1, n => if 128 ≤ n.toNat then hiB n :: uvF k (n >>> 7) else [toB (n.toNat : Nat)]
def uvL (n : BitVec 64) : List UInt8 := uvF 10 n
theorem uvF_len : ∀ (k : Nat) (n : BitVec 64), (uvF k n).length ≤ k + 1 := by
  intro k
  induction k with
  | zero => intro n; simp [uvF]
  | succ k ih => intro n; unfold uvF; split; simpa using ih _; simp
theorem uv_last {k : Nat} {n : BitVec 64} (h : ¬ 128 ≤ n.toNat) : uvF k n = [toB (n.toNat : Nat)] := by
  cases k with
  | zero => rfl
  | succ k => unfold uvF; rw [if_neg h]

set_option maxHeartbeats 1000000 in
theorem encBool_ct (b : Bool) (B : Frag) : CtP Tryd.prog 61 [.bool b] B (str (if b then [1] else [0])) := by
  refine CtB.of_body Tryd.func61 rfl (nt := 4) rfl (by kernel_rfl) rfl ?_
  intro N0 w0 R
  refine Cx.seq (fun K1 k1 => ?_)
  refine Cx.region ?_
  refine Lx.y (asg rfl) rfl ?_
  refine Lx.nil ?_
  refine Xx.tn (k1 _ _ _ _ ?_)
  refine Cx.seq (fun K2 k2 => ?_)
  refine Cx.seq (fun K3 k3 => ?_)
  refine Cx.region ?_
  refine Lx.y (mv rfl) rfl ?_
  refine Lx.nil ?_
  refine Xx.tn (k3 _ _ _ _ ?_)
  refine Cx.condB rfl (fun h4 => ?_) (fun h4 => ?_)
  · skip
    have z := h4
    refine Cx.seq (fun K5 k5 => ?_)
    refine Cx.region ?_
    refine Lx.y (asg rfl) rfl ?_
    refine Lx.nil ?_
    refine Xx.tn (k5 _ _ _ _ ?_)
    refine Cx.ret ?_
    refine Xx.tr ?_
    exact Xx.rB1 rfl rfl ⟨by rw [z]; rfl, rfl⟩ (Frag.le_refl _) rfl
  · skip
    have z := h4
    refine Cx.skip ?_
    refine Xx.tn (k2 _ _ _ _ ?_)
    refine Cx.seq (fun K6 k6 => ?_)
    refine Cx.region ?_
    refine Lx.y (asg rfl) rfl ?_
    refine Lx.nil ?_
    refine Xx.tn (k6 _ _ _ _ ?_)
    refine Cx.ret ?_
    exact Xx.rB1 rfl rfl ⟨by rw [z]; rfl, rfl⟩ (Frag.le_refl _) rfl

set_option maxHeartbeats 1000000 in
theorem encUint_ct (n : BitVec 64) (B : Frag) : CtP Tryd.prog 64 [u64 n] B (str (uvL n)) := by
  refine CtB.of_body Tryd.func64 rfl (nt := 20) rfl (by kernel_rfl) rfl ?_
  intro N0 w0 R
  refine Cx.seq (fun K1 k1 => ?_)
  refine Cx.region ?_
  refine Lx.y (asg rfl) rfl ?_
  refine Lx.nil ?_
  refine Xx.tn (k1 _ _ _ _ ?_)
  refine Cx.seq (fun K2 k2 => ?_)
  refine Cx.region ?_
  refine Lx.y (asg rfl) rfl ?_
  refine Xx.perm (H' := sbuf 5 1 none 0 0 [] * R) ?_ (by rw [sbuf_nil, one_star])
  refine Lx.nil ?_
  refine Xx.tn (k2 _ _ _ _ ?_)
  refine Cx.seq (fun K3 k3 => ?_)
  refine Cx.block ?_
  refine Cx.loopK (Sub.cons (s := 2) rfl (Sub.nil _)) (fun m ρ' B' H' => ∃ (k : Nat) (x : BitVec 64) (out : List UInt8) (A : Option Addr) (c : Nat), (uvL n = out ++ uvF k x ∧ x.toNat < 128 * 128 ^ k ∧ out.length + k = 10) ∧ m = 1 + k ∧ ρ' = [(0, u64 x), (3, .slice A out.length c)] ∧ B = B' ∧ sbuf 5 1 A out.length c (u8s out) * R = H') ⟨10, n, [], none, 0, ⟨rfl, Nat.lt_of_lt_of_le n.isLt (by decide), rfl⟩, rfl, rfl, rfl, rfl⟩ (Sub.cons (s := 0) rfl (Sub.cons (s := 3) rfl (Sub.cons (s := 2) rfl (Sub.nil _)))) ?_
  rintro m ρ' B' H' ⟨k, x, out, A, c, ⟨hu, hx, hk⟩, rfl, rfl, rfl, rfl⟩
  refine Cx.seq (fun K4 k4 => ?_)
  refine Cx.seq (fun K5 k5 => ?_)
  refine Cx.region ?_
  refine Lx.y (mv rfl) rfl ?_
  refine Lx.y (geq rfl rfl) rfl ?_
  refine Lx.nil ?_
  refine Xx.tn (k5 _ _ _ _ ?_)
  refine Cx.condD rfl (fun h6 => ?_) (fun h6 => ?_)
  · skip
    obtain ⟨k, rfl⟩ : ∃ j, k = j + 1 := ⟨k - 1, by rcases k with _ | k; simp at hx; omega; omega⟩
    refine Cx.skip ?_
    refine Xx.tn (k4 _ _ _ _ ?_)
    refine Cx.block ?_
    refine Cx.seq (fun K7 k7 => ?_)
    refine Cx.region ?_
    refine Lx.y (mv rfl) rfl ?_
    refine Lx.y (mv rfl) rfl ?_
    refine Lx.y (cvI rfl Tryd.underlying80 Tryd.underlying5 (wrap_u8 _)) rfl ?_
    refine Lx.y (bor rfl rfl (show bOr .u8 _ _ = ((hiB x).toNat : Nat) from wrap_u8 _)) rfl ?_
    refine Lx.bsl (bsl1 Tryd.underlying78 ti5 rfl rfl rfl (by decide)) rfl (fun b10 => ?_)
    refine Lx.o (appR Tryd.underlying78 Tryd.underlying78 ti5 rfl rfl rfl rfl rfl (by omega) (by omega)) rfl (fun v B' H' hΦ hB => ?_)
    obtain ⟨A2, c2, rfl, hA2, hl2, hc2, hBB, rfl⟩ := hΦ
    obtain rfl := hBB.symm
    clear hB
    refine Lx.y (asg rfl) rfl ?_
    refine Lx.nil ?_
    refine Xx.tn (k7 _ _ _ _ ?_)
    refine Cx.region ?_
    refine Lx.y (mv rfl) rfl ?_
    refine Lx.y (shrW64 (c := 7) rfl rfl rfl) rfl ?_
    refine Lx.y (asg rfl) rfl ?_
    refine Lx.nil ?_
    refine Xx.bn ?_
    refine Xx.dropB b10 ?_
    refine Xx.perm (H' := sbuf 5 1 A2 (out ++ [hiB x]).length c2 (u8s (out ++ [hiB x])) * R) ?_ (by simp [u8s])
    exact Xx.againK ⟨k, x >>> 7, out ++ [hiB x], A2, c2, ⟨by rw [hu, uvF, if_pos (by omega)]; simp, by rw [BitVec.toNat_ushiftRight, Nat.shiftRight_eq_div_pow]; rw [Nat.pow_succ] at hx; omega, by simp; omega⟩, rfl, rfl, rfl, rfl⟩ (by omega) (Sub.cons (s := 0) rfl (Sub.consE (s := 3) rfl (by simp) (Sub.cons (s := 2) rfl (Sub.nil _))))
  · skip
    have hl : uvL n = out ++ [toB (x.toNat : Nat)] := by rw [hu, uv_last (by omega)]
    refine Cx.exit ?_
    refine Xx.te ?_
    refine Xx.te ?_
    refine Xx.bh ?_
    refine Xx.tn (k3 _ _ _ _ ?_)
    refine Cx.seq (fun K8 k8 => ?_)
    refine Cx.region ?_
    refine Lx.y (mv rfl) rfl ?_
    refine Lx.y (mv rfl) rfl ?_
    refine Lx.y (cvI rfl Tryd.underlying80 Tryd.underlying5 (wrap_u8 _)) rfl ?_
    refine Lx.bsl (bsl1 Tryd.underlying78 ti5 rfl rfl rfl (by decide)) rfl (fun b17 => ?_)
    refine Lx.o (appR Tryd.underlying78 Tryd.underlying78 ti5 rfl rfl rfl rfl rfl (by omega) (by omega)) rfl (fun v B' H' hΦ hB => ?_)
    obtain ⟨A3, c3, rfl, hA3, hl3, hc3, hBB, rfl⟩ := hΦ
    obtain rfl := hBB.symm
    clear hB
    have e8 : u8s out ++ [Value.int .u8 ((toB (x.toNat : Nat)).toNat : Nat)] = u8s (out ++ [toB (x.toNat : Nat)]) := by simp [u8s]
    have hsrc : Src' B (sbuf 5 1 A3 (out.length + 1) c3 (u8s out ++ [Value.int .u8 ((toB (x.toNat : Nat)).toNat : Nat)])) 1 A3 (out.length + 1) (u8s (out ++ [toB (x.toNat : Nat)])) := by
      rw [e8]
      exact Src'.sbuf (.inr ⟨(hA3 (by omega)).choose, (hA3 (by omega)).choose_spec, by simp [u8s]⟩)
    refine Lx.y (b2s Tryd.underlying78 Tryd.underlying5 Tryd.underlying9 rfl (l := out ++ [toB (x.toNat : Nat)]) hsrc PickS.eq) rfl ?_
    refine Lx.y (asg rfl) rfl ?_
    refine Lx.nil ?_
    refine Xx.tn (k8 _ _ _ _ ?_)
    refine Cx.ret ?_
    exact Xx.perm (Xx.drop (Xx.dropB b17 (Xx.rB1 rfl rfl ⟨by rw [hl], rfl⟩ (Frag.le_refl _) rfl))) rfl

set_option maxHeartbeats 1000000 in
theorem encText_ct (s : List UInt8) (B : Frag) (hs : s.length ≤ 4611686018427387904) : CtP Tryd.prog 63 [str s] B (str (uvL (BitVec.ofInt 64 (s.length : Nat)) ++ s)) := by
  have hu : (uvL (BitVec.ofInt 64 (s.length : Nat))).length ≤ 11 := uvF_len 10 _
  refine CtB.of_body Tryd.func63 rfl (nt := 9) rfl (by kernel_rfl) rfl ?_
  intro N0 w0 R
  refine Cx.seq (fun K1 k1 => ?_)
  refine Cx.region ?_
  refine Lx.y (asg rfl) rfl ?_
  refine Lx.nil ?_
  refine Xx.tn (k1 _ _ _ _ ?_)
  refine Cx.seq (fun K2 k2 => ?_)
  refine Cx.region ?_
  refine Lx.y (mv rfl) rfl ?_
  refine Lx.y (lenS Tryd.underlying9 rfl) rfl ?_
  refine Lx.y (cvW64 rfl Tryd.underlying3 Tryd.underlying80) rfl ?_
  refine Lx.cp rfl rfl rfl (encUint_ct _ _) rfl ?_
  refine Lx.y (mv rfl) rfl ?_
  refine Lx.y (catS rfl rfl (by first | omega | (simp <;> omega))) rfl ?_
  refine Lx.y (asg rfl) rfl ?_
  refine Lx.nil ?_
  refine Xx.tn (k2 _ _ _ _ ?_)
  refine Cx.ret ?_
  exact Xx.rB1 rfl rfl ⟨rfl, rfl⟩ (Frag.le_refl _) rfl

set_option maxHeartbeats 1000000 in
theorem encInt_ct (n : Int) (B : Frag) (h1 : -9223372036854775808 ≤ n) (h2 : n ≤ 9223372036854775807) : CtP Tryd.prog 62 [i64 n] B (str (uvL (BitVec.ofInt 64 n <<< 1 ^^^ BitVec.ofInt 64 (n / 9223372036854775808)))) := by
  refine CtB.of_body Tryd.func62 rfl (nt := 11) rfl (by kernel_rfl) rfl ?_
  intro N0 w0 R
  refine Cx.seq (fun K1 k1 => ?_)
  refine Cx.region ?_
  refine Lx.y (asg rfl) rfl ?_
  refine Lx.nil ?_
  refine Xx.tn (k1 _ _ _ _ ?_)
  refine Cx.seq (fun K2 k2 => ?_)
  refine Cx.region ?_
  refine Lx.y (mv rfl) rfl ?_
  refine Lx.y (cvW64 rfl Tryd.underlying2 Tryd.underlying80) rfl ?_
  refine Lx.y (shlW64 (c := 1) rfl rfl rfl) rfl ?_
  refine Lx.y (mv rfl) rfl ?_
  refine Lx.y (shrK (c := 9223372036854775808) rfl rfl (by decide) (by decide)) rfl ?_
  refine Lx.y (cvW64 rfl Tryd.underlying2 Tryd.underlying80) rfl ?_
  refine Lx.y (xorW64 rfl rfl) rfl ?_
  refine Lx.cp rfl rfl rfl (encUint_ct _ _) rfl ?_
  refine Lx.y (asg rfl) rfl ?_
  refine Lx.nil ?_
  refine Xx.tn (k2 _ _ _ _ ?_)
  refine Cx.ret ?_
  exact Xx.rB1 rfl rfl ⟨rfl, rfl⟩ (Frag.le_refl _) rfl
end Ke9
end Go.Proofs.YtfnfkoldifpmhaaDoor
