/-
  The reference: keys.
-/
import Derived.Test.YtfnfkoldifpmhaaDoorProg
import Derived.Test.YtfnfkoldifpmhaaDoorSlj
import Derived.Test.YtfnfkoldifpmhaaDoorKeC
namespace Go.Proofs.YtfnfkoldifpmhaaDoor
open Go.SL Go.RowKit
set_option linter.unusedVariables false
set_option linter.unusedSimpArgs false
set_option maxRecDepth 100000
open Ke1 Ke3 Ke4 Ke5 Ke6 Ke7 Ke8 Ke9 KeA KeB KeC
namespace KeD
theorem ti5 : TI Tryd.prog 5 [.int .u8 0] 1 1 := TI.of (by kernel_rfl) rfl rfl

theorem numL_drop (n : BitVec 64) {i : Nat} (h : i < 8) : toB (((n >>> (8 * i)) % 256#64).toNat : Nat) :: (numL n).drop (8 - i) = (numL n).drop (8 - (i + 1)) := by
  have e : ∀ x : BitVec 64, toB ((x % 256#64).toNat : Nat) = toB (x.toNat : Nat) := fun x => by
    unfold toB
    rw [BitVec.toNat_umod]
    congr 1
    show ((((x.toNat % 256 : Nat) : Int)) % 256).toNat = (((x.toNat : Nat) : Int) % 256).toNat
    omega
  rw [e]
  rcases (by omega : i = 0 ∨ i = 1 ∨ i = 2 ∨ i = 3 ∨ i = 4 ∨ i = 5 ∨ i = 6 ∨ i = 7) with rfl | rfl | rfl | rfl | rfl | rfl | rfl | rfl <;> rfl
theorem shr_div (n : BitVec 64) (i : Nat) : (n >>> (8 * i)) / 256#64 = n >>> (8 * (i + 1)) := by
  have : (n >>> (8 * i)) / 256#64 = (n >>> (8 * i)) >>> 8 := by
    apply BitVec.eq_of_toNat_eq
    rw [BitVec.toNat_udiv, BitVec.toNat_ushiftRight (i := 8), Nat.shiftRight_eq_div_pow]; rfl
  rw [this, ← BitVec.shiftRight_add]; rfl

set_option maxHeartbeats 1000000 in
theorem eight_ct (n : BitVec 64) (B : Frag) : CtP Tryd.prog 65 [u64 n] B (str (numL n)) := by
  refine CtB.of_body Tryd.func65 rfl (nt := 19) rfl (by kernel_rfl) rfl ?_
  intro N0 w0 R
  refine Cx.seq (fun K1 k1 => ?_)
  refine Cx.region ?_
  refine Lx.y (asg rfl) rfl ?_
  refine Lx.nil ?_
  refine Xx.tn (k1 _ _ _ _ ?_)
  refine Cx.seq (fun K2 k2 => ?_)
  refine Cx.region ?_
  refine Lx.y (asg rfl) rfl ?_
  refine Lx.nil ?_
  refine Xx.tn (k2 _ _ _ _ ?_)
  refine Cx.seq (fun K3 k3 => ?_)
  refine Cx.seq (fun K4 k4 => ?_)
  refine Cx.region ?_
  refine Lx.y (asg rfl) rfl ?_
  refine Lx.nil ?_
  refine Xx.tn (k4 _ _ _ _ ?_)
  refine Cx.block ?_
  refine Cx.loopK (Sub.cons (s := 2) rfl (Sub.nil _)) (fun m ρ' B' H' => ∃ (i : Nat), (i ≤ 8) ∧ m = 8 - i ∧ ρ' = [(0, u64 (n >>> (8 * i))), (3, str ((numL n).drop (8 - i))), (4, i64 i)] ∧ B = B' ∧ R = H') ⟨0, by omega, rfl, rfl, rfl, rfl⟩ (Sub.consE (s := 0) rfl (by simp) (Sub.consE (s := 3) rfl (by rfl) (Sub.cons (s := 4) rfl (Sub.cons (s := 2) rfl (Sub.nil _))))) ?_
  rintro m ρ' B' H' ⟨i, hi, rfl, rfl, rfl, rfl⟩
  refine Cx.seq (fun K5 k5 => ?_)
  refine Cx.seq (fun K6 k6 => ?_)
  refine Cx.region ?_
  refine Lx.y (mv rfl) rfl ?_
  refine Lx.y (lss rfl rfl) rfl ?_
  refine Lx.nil ?_
  refine Xx.tn (k6 _ _ _ _ ?_)
  refine Cx.condD rfl (fun h7 => ?_) (fun h7 => ?_)
  · skip
    refine Cx.skip ?_
    refine Xx.tn (k5 _ _ _ _ ?_)
    refine Cx.seq (fun K8 k8 => ?_)
    refine Cx.block ?_
    refine Cx.seq (fun K9 k9 => ?_)
    refine Cx.region ?_
    refine Lx.y (mv rfl) rfl ?_
    refine Lx.y (remW64 (b := 256#64) rfl rfl (by decide)) rfl ?_
    refine Lx.y (cvI rfl Tryd.underlying80 Tryd.underlying5 (wrap_u8 _)) rfl ?_
    refine Lx.bsl (bsl1 Tryd.underlying78 ti5 rfl rfl rfl (by decide)) rfl (fun b12 => ?_)
    refine Lx.y (b2sR Tryd.underlying78 Tryd.underlying5 Tryd.underlying9 rfl (u8s_cons u8s_nil) rfl) rfl ?_
    refine Lx.y (mv rfl) rfl ?_
    refine Lx.y (catS rfl rfl (by first | omega | (simp <;> omega))) rfl ?_
    refine Lx.y (asg rfl) rfl ?_
    refine Lx.nil ?_
    refine Xx.tn (k9 _ _ _ _ ?_)
    refine Cx.region ?_
    refine Lx.y (mv rfl) rfl ?_
    refine Lx.y (quoW64 (b := 256#64) rfl rfl (by decide)) rfl ?_
    refine Lx.y (asg rfl) rfl ?_
    refine Lx.nil ?_
    refine Xx.bn ?_
    refine Xx.tn (k8 _ _ _ _ ?_)
    refine Cx.region ?_
    refine Lx.y (mv rfl) rfl ?_
    refine Lx.y (add rfl rfl (by first | exact wrap64 (by omega) (by omega) | rfl)) rfl ?_
    refine Lx.y (asg rfl) rfl ?_
    refine Lx.nil ?_
    refine Xx.dropB b12 ?_
    exact Xx.againK ⟨i + 1, by omega, rfl, rfl, rfl, rfl⟩ (by omega) (Sub.consE (s := 0) rfl (by rw [shr_div]) (Sub.consE (s := 3) rfl (by rw [← numL_drop n (show i < 8 by omega)]; rfl) (Sub.cons (s := 4) rfl (Sub.cons (s := 2) rfl (Sub.nil _)))))
  · skip
    obtain rfl : i = 8 := by omega
    refine Cx.exit ?_
    refine Xx.te ?_
    refine Xx.te ?_
    refine Xx.bh ?_
    refine Xx.tn (k3 _ _ _ _ ?_)
    refine Cx.seq (fun K10 k10 => ?_)
    refine Cx.region ?_
    refine Lx.y (mv rfl) rfl ?_
    refine Lx.y (asg rfl) rfl ?_
    refine Lx.nil ?_
    refine Xx.tn (k10 _ _ _ _ ?_)
    refine Cx.ret ?_
    exact Xx.rB1 rfl rfl ⟨rfl, rfl⟩ (Frag.le_refl _) rfl
end KeD
end Go.Proofs.YtfnfkoldifpmhaaDoor
