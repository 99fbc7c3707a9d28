/-
  A nil set; the walk of the law of what is not hit.
-/
import Derived.Test.YtfnfkoldifpmhaaDoorProg
import Derived.Test.YtfnfkoldifpmhaaDoorSlj
import Derived.Test.YtfnfkoldifpmhaaDoorRgD
namespace Go.Proofs.YtfnfkoldifpmhaaDoor
open Go.SL Go.RowKit
set_option linter.unusedVariables false
set_option linter.unusedSimpArgs false
set_option maxRecDepth 100000
open Ke1 Ke3 Ke4 Ke5 Ke6 Ke7 Ke8 Ke9 KeA KeB KeC KeD KeE KeF KeG KeI RgA RgB RgC RgD
namespace RgE
theorem sz2 : (Tryd.prog.info? 2).map (·.size) = some 1 := by kernel_rfl
theorem sz9 : (Tryd.prog.info? 9).map (·.size) = some 1 := by kernel_rfl
theorem sz26 : (Tryd.prog.info? 26).map (·.size) = some 6 := by kernel_rfl
theorem sz30 : (Tryd.prog.info? 30).map (·.size) = some 16 := by kernel_rfl
theorem sz34 : (Tryd.prog.info? 34).map (·.size) = some 2 := by kernel_rfl
theorem sz36 : (Tryd.prog.info? 36).map (·.size) = some 4 := by kernel_rfl
theorem ti30 : TI Tryd.prog 30 [str [], .bool false, .int .i64 0, .bool false, .int .i64 0, str [], .slice none 0 0, .slice none 0 0, .int .i64 0, .bool false, .int .i64 0, str [], .slice none 0 0, .slice none 0 0, .bool false, .bool false] 16 208 := TI.of (by kernel_rfl) rfl rfl
theorem ti52 : TI Tryd.prog 52 [.slice none 0 0] 1 24 := TI.of (by kernel_rfl) rfl rfl
theorem fo30_0 : FO Tryd.prog 30 0 0 1 false := FO.of Tryd.underlying30 rfl rfl (by kernel_rfl) Tryd.underlying9 rfl rfl
theorem fo52_0 : FO Tryd.prog 52 0 0 1 false := FO.of Tryd.underlying52 rfl rfl (by kernel_rfl) Tryd.underlying42 rfl rfl
theorem pl30 : PL Tryd.prog 30 [(0, 1), (1, 1), (2, 6), (8, 6), (14, 1), (15, 1)] := PL.of Tryd.underlying30 (by kernel_rfl)
theorem pl52 : PL Tryd.prog 52 [(0, 1)] := PL.of Tryd.underlying52 (by kernel_rfl)

set_option maxHeartbeats 1000000 in
theorem IFNil_ct (f : Value) (B : Frag) : CtP Tryd.prog 47 [.slice none 0 0, f] B (i64 (-1)) := by
  refine CtB.of_body Tryd.func47 rfl (nt := 19) rfl (by kernel_rfl) rfl ?_
  intro N0 w0 R
  refine Cx.seq (fun K1 k1 => ?_)
  refine Cx.region ?_
  refine Lx.y (asg rfl) rfl ?_
  refine Lx.nil ?_
  refine Xx.tn (k1 _ _ _ _ ?_)
  refine Cx.seq (fun K2 k2 => ?_)
  refine Cx.seq (fun K3 k3 => ?_)
  refine Cx.region ?_
  refine Lx.y (mv rfl) rfl ?_
  refine Lx.y (lenV (ty' := 0) Tryd.underlying42 rfl) rfl ?_
  refine Lx.y (mv rfl) rfl ?_
  refine Lx.nil ?_
  refine Xx.tn (k3 _ _ _ _ ?_)
  refine Cx.block ?_
  refine Cx.unroll (1) ?_
  refine Xx.rn ?_
  refine Cx.seq (fun K4 k4 => ?_)
  refine Cx.region ?_
  refine Lx.y (Yx.ff (lss rfl rfl) (by decide)) rfl ?_
  refine Lx.nil ?_
  refine Xx.tn (k4 _ _ _ _ ?_)
  refine Cx.seq (fun K5 k5 => ?_)
  refine Cx.condF rfl ?_
  refine Cx.exit ?_
  refine Xx.te ?_
  refine Xx.te ?_
  refine Xx.bh ?_
  refine Xx.tn (k2 _ _ _ _ ?_)
  refine Cx.seq (fun K6 k6 => ?_)
  refine Cx.region ?_
  refine Lx.y (asg rfl) rfl ?_
  refine Lx.nil ?_
  refine Xx.tn (k6 _ _ _ _ ?_)
  refine Cx.ret ?_
  exact Xx.rB1 rfl rfl ⟨rfl, rfl⟩ (Frag.le_refl _) rfl

set_option maxHeartbeats 1000000 in
theorem CFNil_ct (f : Value) (B : Frag) : CtP Tryd.prog 30 [.slice none 0 0, f] B (.bool false) := by
  refine CtB.of_body Tryd.func30 rfl (nt := 9) rfl (by kernel_rfl) rfl ?_
  intro N0 w0 R
  refine Cx.seq (fun K1 k1 => ?_)
  refine Cx.region ?_
  refine Lx.y (asg rfl) rfl ?_
  refine Lx.nil ?_
  refine Xx.tn (k1 _ _ _ _ ?_)
  refine Cx.seq (fun K2 k2 => ?_)
  refine Cx.region ?_
  refine Lx.y (mv rfl) rfl ?_
  refine Lx.y (mv rfl) rfl ?_
  refine Lx.cp rfl rfl rfl (IFNil_ct _ _) rfl ?_
  refine Lx.y (Yx.ff (geq rfl rfl) (by decide)) rfl ?_
  refine Lx.y (asg rfl) rfl ?_
  refine Lx.nil ?_
  refine Xx.tn (k2 _ _ _ _ ?_)
  refine Cx.ret ?_
  exact Xx.rB1 rfl rfl ⟨rfl, rfl⟩ (Frag.le_refl _) rfl

set_option maxHeartbeats 1000000 in
theorem AllNil_ct (B : Frag) : CtP Tryd.prog 16 [.pointer none] B (.slice none 0 0) := by
  refine CtB.of_body Tryd.func16 rfl (nt := 10) rfl (by kernel_rfl) rfl ?_
  intro N0 w0 R
  refine Cx.seq (fun K1 k1 => ?_)
  refine Cx.region ?_
  refine Lx.y (asg rfl) rfl ?_
  refine Lx.nil ?_
  refine Xx.tn (k1 _ _ _ _ ?_)
  refine Cx.seq (fun K2 k2 => ?_)
  refine Cx.seq (fun K3 k3 => ?_)
  refine Cx.region ?_
  refine Lx.y (mv rfl) rfl ?_
  refine Lx.y (Yx.tt (eqNilP Tryd.underlying31 rfl rfl) rfl) rfl ?_
  refine Lx.nil ?_
  refine Xx.tn (k3 _ _ _ _ ?_)
  refine Cx.condT rfl ?_
  refine Cx.seq (fun K4 k4 => ?_)
  refine Cx.region ?_
  refine Lx.y (asg rfl) rfl ?_
  refine Lx.nil ?_
  refine Xx.tn (k4 _ _ _ _ ?_)
  refine Cx.ret ?_
  refine Xx.tr ?_
  exact Xx.rB1 rfl rfl ⟨rfl, rfl⟩ (Frag.le_refl _) rfl

set_option maxHeartbeats 1000000 in
theorem ClNil_ct (B : Frag) : CtP Tryd.prog 33 [.slice none 0 0] B (.slice none 0 0) := by
  refine CtB.of_body Tryd.func33 rfl (nt := 8) rfl (by kernel_rfl) rfl ?_
  intro N0 w0 R
  refine Cx.seq (fun K1 k1 => ?_)
  refine Cx.region ?_
  refine Lx.y (asg rfl) rfl ?_
  refine Lx.nil ?_
  refine Xx.tn (k1 _ _ _ _ ?_)
  refine Cx.seq (fun K2 k2 => ?_)
  refine Cx.seq (fun K3 k3 => ?_)
  refine Cx.region ?_
  refine Lx.y (mv rfl) rfl ?_
  refine Lx.y (Yx.tt (eqNilV Tryd.underlying42 rfl rfl) rfl) rfl ?_
  refine Lx.nil ?_
  refine Xx.tn (k3 _ _ _ _ ?_)
  refine Cx.condT rfl ?_
  refine Cx.seq (fun K4 k4 => ?_)
  refine Cx.region ?_
  refine Lx.y (asg rfl) rfl ?_
  refine Lx.nil ?_
  refine Xx.tn (k4 _ _ _ _ ?_)
  refine Cx.ret ?_
  refine Xx.tr ?_
  exact Xx.rB1 rfl rfl ⟨rfl, rfl⟩ (Frag.le_refl _) rfl

set_option maxHeartbeats 1000000 in
theorem AllE_ct (b : Nat) (fz : Nat × Nat) (B : Frag) (hb : B b = some (.cells [.slice none 0 0].toArray 52 fz)) : CtP Tryd.prog 16 [.pointer (some ⟨b, 0, none⟩)] B (.slice none 0 0) := by
  refine CtB.of_body Tryd.func16 rfl (nt := 10) rfl (by kernel_rfl) rfl ?_
  intro N0 w0 R
  refine Cx.seq (fun K1 k1 => ?_)
  refine Cx.region ?_
  refine Lx.y (asg rfl) rfl ?_
  refine Lx.nil ?_
  refine Xx.tn (k1 _ _ _ _ ?_)
  refine Cx.seq (fun K2 k2 => ?_)
  refine Cx.seq (fun K3 k3 => ?_)
  refine Cx.region ?_
  refine Lx.y (mv rfl) rfl ?_
  refine Lx.y (Yx.ff (eqNilP Tryd.underlying31 rfl rfl) rfl) rfl ?_
  refine Lx.nil ?_
  refine Xx.tn (k3 _ _ _ _ ?_)
  refine Cx.condF rfl ?_
  refine Cx.skip ?_
  refine Xx.tn (k2 _ _ _ _ ?_)
  refine Cx.seq (fun K4 k4 => ?_)
  refine Cx.region ?_
  refine Lx.y (mv rfl) rfl ?_
  refine Lx.y (nilc rfl) rfl ?_
  refine Lx.y (fa' fo52_0 rfl) rfl ?_
  refine Lx.y (ldB Tryd.underlying42 rfl rfl hb rfl) rfl ?_
  refine Lx.cp rfl rfl rfl (ClNil_ct _) rfl ?_
  refine Lx.y (asg rfl) rfl ?_
  refine Lx.nil ?_
  refine Xx.tn (k4 _ _ _ _ ?_)
  refine Cx.ret ?_
  exact Xx.rB1 rfl rfl ⟨rfl, rfl⟩ (Frag.le_refl _) rfl

set_option maxHeartbeats 1000000 in
theorem CloneNil_ct (B : Frag) : CtB Tryd.prog 18 [.pointer none] B (fun v B' => ∃ b, v = .pointer (some ⟨b, 0, none⟩) ∧ B' b = some (.cells [.slice none 0 0].toArray 52 (0, 0))) := by
  refine CtB.of_body Tryd.func18 rfl (nt := 7) rfl (by kernel_rfl) rfl ?_
  intro N0 w0 R
  refine Cx.seq (fun K1 k1 => ?_)
  refine Cx.region ?_
  refine Lx.y (asg rfl) rfl ?_
  refine Lx.nil ?_
  refine Xx.tn (k1 _ _ _ _ ?_)
  refine Cx.seq (fun K2 k2 => ?_)
  refine Cx.region ?_
  refine Lx.y (mv rfl) rfl ?_
  refine Lx.cp rfl rfl rfl (AllNil_ct _) rfl ?_
  refine Lx.y (bld ti52 pl52 rfl rfl) rfl ?_
  refine Lx.new (boxA rfl) rfl (fun b6 => ?_)
  refine Lx.y (asg rfl) rfl ?_
  refine Lx.nil ?_
  refine Xx.tn (k2 _ _ _ _ ?_)
  refine Cx.ret ?_
  refine Xx.freezeB b6 fun B1 hB1 hb => ?_
  exact Xx.rB1 rfl rfl ⟨b6, rfl, hb⟩ hB1 rfl

set_option maxHeartbeats 1000000 in
theorem HitNil_ct (A : Option Addr) (n c : Nat) (B : Frag) : CtP Tryd.prog 17 [.pointer none, .slice A n c] B (.bool false) := by
  refine CtB.of_body Tryd.func17 rfl (nt := 9) rfl (by kernel_rfl) rfl ?_
  intro N0 w0 R
  refine Cx.seq (fun K1 k1 => ?_)
  refine Cx.region ?_
  refine Lx.new (boxO rfl rfl) rfl (fun b3 => ?_)
  refine Lx.y (asg rfl) rfl ?_
  refine Lx.nil ?_
  refine Xx.tn (k1 _ _ _ _ ?_)
  refine Cx.seq (fun K2 k2 => ?_)
  refine Cx.region ?_
  refine Lx.y (mv rfl) rfl ?_
  refine Lx.cp rfl rfl rfl (AllNil_ct _) rfl ?_
  refine Lx.y (mkf rfl rfl) rfl ?_
  refine Lx.cp rfl rfl rfl (CFNil_ct _ _) rfl ?_
  refine Lx.y (asg rfl) rfl ?_
  refine Lx.nil ?_
  refine Xx.tn (k2 _ _ _ _ ?_)
  refine Cx.ret ?_
  exact Xx.dropB b3 (Xx.rB1 rfl rfl ⟨rfl, rfl⟩ (Frag.le_refl _) rfl)

set_option maxHeartbeats 1000000 in
theorem AddNil_ct (r : Rd) (B : Frag) : CtP Tryd.prog 14 [.pointer none, .agg (rcs r).toArray] B (.bool false) := by
  refine CtB.of_body Tryd.func14 rfl (nt := 42) rfl (by kernel_rfl) rfl ?_
  intro N0 w0 R
  refine Cx.seq (fun K1 k1 => ?_)
  refine Cx.region ?_
  refine Lx.new (boxA rfl) rfl (fun b3 => ?_)
  refine Lx.y (asg rfl) rfl ?_
  refine Lx.nil ?_
  refine Xx.tn (k1 _ _ _ _ ?_)
  refine Cx.seq (fun K2 k2 => ?_)
  refine Cx.region ?_
  refine Lx.y (mkf rfl rfl) rfl ?_
  refine Lx.y (asg rfl) rfl ?_
  refine Lx.nil ?_
  refine Xx.tn (k2 _ _ _ _ ?_)
  refine Cx.seq (fun K3 k3 => ?_)
  refine Cx.seq (fun K4 k4 => ?_)
  refine Cx.region ?_
  refine Lx.y (mv rfl) rfl ?_
  refine Lx.y (Yx.tt (eqNilP Tryd.underlying31 rfl rfl) rfl) rfl ?_
  refine Lx.y (mv rfl) rfl ?_
  refine Lx.gF rfl rfl rfl rfl ?_
  refine Lx.gF rfl rfl rfl rfl ?_
  refine Lx.gF rfl rfl rfl rfl ?_
  refine Lx.gF rfl rfl rfl rfl ?_
  refine Lx.gF rfl rfl rfl rfl ?_
  refine Lx.gF rfl rfl rfl rfl ?_
  refine Lx.y (pickT rfl rfl) rfl ?_
  refine Lx.nil ?_
  refine Xx.tn (k4 _ _ _ _ ?_)
  refine Cx.condT rfl ?_
  refine Cx.seq (fun K5 k5 => ?_)
  refine Cx.region ?_
  refine Lx.y (asg rfl) rfl ?_
  refine Lx.nil ?_
  refine Xx.tn (k5 _ _ _ _ ?_)
  refine Cx.ret ?_
  refine Xx.tr ?_
  exact Xx.dropB b3 (Xx.rB1 rfl rfl ⟨rfl, rfl⟩ (Frag.le_refl _) rfl)

set_option maxHeartbeats 4000000 in
theorem RangesSound_ct (a b c : Int) (table : Bool) (B : Frag) (hM : MaxLenIn B) (a1 : -9223372036854775808 ≤ a) (a2 : a ≤ 9223372036854775807) (b1 : -9223372036854775808 ≤ b) (b2 : b ≤ 9223372036854775807) (c1 : -9223372036854775808 ≤ c) (c2 : c ≤ 9223372036854775807) : CtB Tryd.prog 3 [.agg [i64 a, i64 b, i64 c].toArray, .bool table] B (fun v _ => v = .bool true) := by
  refine CtB.of_body Tryd.func3 rfl (nt := 76) rfl (by kernel_rfl) rfl ?_
  intro N0 w0 R
  refine Cx.seq (fun K1 k1 => ?_)
  refine Cx.region ?_
  refine Lx.new (boxA rfl) rfl (fun q2 => ?_)
  refine Lx.y (asg rfl) rfl ?_
  refine Lx.nil ?_
  refine Xx.tn (k1 _ _ _ _ ?_)
  refine Cx.seq (fun K2 k2 => ?_)
  refine Cx.drawn (by kernel_rfl) ?_
  refine Dx.p (i := 0) rfl (by kernel_rfl) (iaArr Tryd.underlying22 sz2 rfl rfl (show Int.toNat _ = 0 from rfl) (by decide) (by decide)) rfl ?_
  refine Dx.r (i := 1) rfl (by kernel_rfl) (ld Tryd.underlying2 rfl rfl rfl) rfl ?_
  refine Dx.p (i := 2) rfl (by kernel_rfl) (iaArr Tryd.underlying22 sz2 rfl rfl (show Int.toNat _ = 1 from rfl) (by decide) (by decide)) rfl ?_
  refine Dx.r (i := 3) rfl (by kernel_rfl) (ld Tryd.underlying2 rfl rfl rfl) rfl ?_
  refine Dx.p (i := 4) rfl (by kernel_rfl) (iaArr Tryd.underlying22 sz2 rfl rfl (show Int.toNat _ = 2 from rfl) (by decide) (by decide)) rfl ?_
  refine Dx.r (i := 5) rfl (by kernel_rfl) (ld Tryd.underlying2 rfl rfl rfl) rfl ?_
  refine Dx.p (i := 6) rfl (by kernel_rfl) (asg rfl) rfl ?_
  refine Dx.p (i := 7) rfl (by kernel_rfl) (asg rfl) rfl ?_
  refine Dx.p (i := 8) rfl (by kernel_rfl) (asg rfl) rfl ?_
  refine Dx.done (by kernel_rfl) ?_
  refine Xx.tn (k2 _ _ _ _ ?_)
  refine Cx.seq (fun K3 k3 => ?_)
  refine Cx.region ?_
  refine Lx.y (asg rfl) rfl ?_
  refine Lx.nil ?_
  refine Xx.tn (k3 _ _ _ _ ?_)
  refine Cx.seq (fun K4 k4 => ?_)
  refine Cx.region ?_
  refine Lx.y (mv rfl) rfl ?_
  refine Lx.y (mv rfl) rfl ?_
  refine Lx.cb rfl rfl rfl (Ds_ct b _ b1 b2) rfl ?_
  rintro v B1 ⟨cs1, rfl, hv1⟩ hB1
  obtain ⟨Ap1, cp1, An1, cn1, rfl⟩ := ValR.shape hv1.1
  refine Lx.y (mv rfl) rfl ?_
  refine Lx.y (mv rfl) rfl ?_
  refine Lx.cb rfl rfl rfl (Ds_ct c _ c1 c2) rfl ?_
  rintro v B2 ⟨cs2, rfl, hv2⟩ hB2
  obtain ⟨Ap2, cp2, An2, cn2, rfl⟩ := ValR.shape hv2.1
  refine Lx.y (bld ti30 pl30 rfl rfl) rfl ?_
  refine Lx.new (allocO ti30) rfl (fun b9 => ?_)
  refine Lx.st (stA (d := .bool) sz30 rfl rfl rfl rfl (by show 0 + 16 ≤ 16; omega) rfl) ?_
  refine Lx.nil ?_
  refine Xx.tn (k4 _ _ _ _ ?_)
  refine Cx.cutK (ds' := []) (Sub.cons (s := 0) rfl (Sub.cons (s := 1) rfl (Sub.cons (s := 2) rfl (Sub.cons (s := 4) rfl (Sub.cons (s := 5) rfl (Sub.cons (s := 6) rfl (Sub.cons (s := 7) rfl (Sub.cons (s := 8) rfl (Sub.cons (s := 9) rfl (Sub.cons (s := 12) rfl (Sub.cons (s := 13) rfl (Sub.cons (s := 14) rfl (Sub.cons (s := 15) rfl (Sub.cons (s := 16) rfl (Sub.cons (s := 17) rfl (Sub.cons (s := 18) rfl (Sub.cons (s := 19) rfl (Sub.cons (s := 20) rfl (Sub.cons (s := 21) rfl (Sub.cons (s := 22) rfl (Sub.cons (s := 23) rfl (Sub.cons (s := 24) rfl (Sub.nil _))))))))))))))))))))))) (fun ρ' B' H' => ρ' = [] ∧ B2 = B' ∧ row b9 30 (tcs (if table then [117] else [116]) false (vcs (VA b) Ap1 cp1 An1 cn1) (vcs (VA c) Ap2 cp2 An2 cn2) true true) * (row q2 22 [i64 a, i64 b, i64 c] * R) = H') ?_ ?_
  · skip
    refine Cx.seq (fun K7 k7 => ?_)
    refine Cx.region ?_
    refine Lx.y (mv rfl) rfl ?_
    refine Lx.nil ?_
    refine Xx.tn (k7 _ _ _ _ ?_)
    refine Cx.condB rfl (fun h8 => ?_) (fun h8 => ?_)
    · skip
      obtain rfl : table = true := h8
      refine Cx.region ?_
      refine Lx.y (fa' fo30_0 rfl) rfl ?_
      refine Lx.st (stO Tryd.underlying9 sz9 rfl rfl rfl (by simp) rfl) ?_
      refine Lx.nil ?_
      exact Xx.mkK (⟨rfl, rfl, rfl⟩) (Sub.cons (s := 0) rfl (Sub.cons (s := 1) rfl (Sub.cons (s := 2) rfl (Sub.cons (s := 4) rfl (Sub.cons (s := 5) rfl (Sub.cons (s := 6) rfl (Sub.cons (s := 7) rfl (Sub.cons (s := 8) rfl (Sub.cons (s := 9) rfl (Sub.cons (s := 12) rfl (Sub.cons (s := 13) rfl (Sub.cons (s := 14) rfl (Sub.cons (s := 15) rfl (Sub.cons (s := 16) rfl (Sub.cons (s := 17) rfl (Sub.cons (s := 18) rfl (Sub.cons (s := 19) rfl (Sub.cons (s := 20) rfl (Sub.cons (s := 21) rfl (Sub.cons (s := 22) rfl (Sub.cons (s := 23) rfl (Sub.cons (s := 24) rfl (Sub.nil _)))))))))))))))))))))))
    · skip
      obtain rfl : table = false := h8
      refine Cx.skip ?_
      exact Xx.mkK (⟨rfl, rfl, rfl⟩) (Sub.cons (s := 0) rfl (Sub.cons (s := 1) rfl (Sub.cons (s := 2) rfl (Sub.cons (s := 4) rfl (Sub.cons (s := 5) rfl (Sub.cons (s := 6) rfl (Sub.cons (s := 7) rfl (Sub.cons (s := 8) rfl (Sub.cons (s := 9) rfl (Sub.cons (s := 12) rfl (Sub.cons (s := 13) rfl (Sub.cons (s := 14) rfl (Sub.cons (s := 15) rfl (Sub.cons (s := 16) rfl (Sub.cons (s := 17) rfl (Sub.cons (s := 18) rfl (Sub.cons (s := 19) rfl (Sub.cons (s := 20) rfl (Sub.cons (s := 21) rfl (Sub.cons (s := 22) rfl (Sub.cons (s := 23) rfl (Sub.cons (s := 24) rfl (Sub.nil _)))))))))))))))))))))))
  · rintro ρ' B' H' ⟨rfl, rfl, rfl⟩
    refine Cx.seq (fun K9 k9 => ?_)
    refine Cx.region ?_
    refine Lx.y (asg rfl) rfl ?_
    refine Lx.nil ?_
    refine Xx.tn (k9 _ _ _ _ ?_)
    refine Cx.seq (fun K10 k10 => ?_)
    have hM2 := (hM.mono hB1).mono hB2
    refine Cx.drawn (by kernel_rfl) ?_
    refine Dx.p (i := 0) rfl (by kernel_rfl) (mv rfl) rfl ?_
    refine Dx.r (i := 4) rfl (by kernel_rfl) (ldA Tryd.underlying30 rfl sz30 rfl (Cells.own (n := 16) PickB.eq rfl) rfl) rfl ?_
    refine Dx.one (i := 1) (by kernel_rfl) ?_
    refine Dstep.o (i := 1) rfl (Ox.cb rfl rfl rfl (Int_ct _ _)) rfl (fun v B' H' hΦ hB => ?_)
    obtain ⟨rfl, rfl, hBB⟩ := hΦ; have hBB2 := hBB.symm; subst hBB2; clear hB
    refine ⟨JOk.yes (JOk.top) (ldA Tryd.underlying30 rfl sz30 rfl (Cells.own (n := 16) PickB.eq rfl) rfl), ?_⟩
    refine Dx.one (i := 2) (by kernel_rfl) ?_
    refine Dstep.o (i := 2) rfl (Ox.cb rfl rfl rfl (Equal_ct 8 (V.mk 2 false a [] [] []) _ _ (leaf_R a1 a2) hM2 (leaf_bytes a))) rfl (fun v B' H' hΦ hB => ?_)
    obtain ⟨rfl, hΦ⟩ := hΦ
    obtain ⟨hBB, hi, rfl, hnx⟩ := hΦ
    have hBB2 := hBB.symm
    subst hBB2
    clear hB
    generalize hlo : keyF 8 (V.mk 2 false a [] [] []) = lo at *
    refine ⟨JOk.yes (JOk.top) (ldA Tryd.underlying30 rfl sz30 rfl (Cells.own (n := 16) PickB.eq rfl) rfl), ?_⟩
    refine Dx.one (i := 3) (by kernel_rfl) ?_
    refine Dstep.o (i := 3) rfl (Ox.cb rfl rfl rfl (Part_ct _ _ _ _ _)) rfl (fun v B' H' hΦ hB => ?_)
    obtain ⟨rfl, rfl, hBB⟩ := hΦ; have hBB2 := hBB.symm; subst hBB2; clear hB
    refine ⟨JOk.yes (JOk.top) (ldA Tryd.underlying30 rfl sz30 rfl (Cells.own (n := 16) PickB.eq rfl) rfl), ?_⟩
    refine Dx.one (i := 5) (by kernel_rfl) ?_
    have hh := ctpB (Hits_ct 7 ⟨[116], [97], lo, hi⟩ (if table then [117] else [116]) false true true (VA b) (VA c) _ _ _ (hv1.mono hB2) hv2 hM2) (hits_leaf a1 a2 b1 b2 c1 c2 hlo hnx)
    refine Dstep.o (i := 5) rfl (Ox.cb rfl rfl rfl (hh)) rfl (fun v B' H' hΦ hB => ?_)
    obtain ⟨rfl, rfl, hBB⟩ := hΦ; have hBB2 := hBB.symm; subst hBB2; clear hB
    refine ⟨JOk.edge (JOk.top) (by kernel_rfl), ?_⟩
    refine Dx.p (i := 6) rfl (by kernel_rfl) (asg rfl) rfl ?_
    refine Dx.done (by kernel_rfl) ?_
    refine Xx.tn (k10 _ _ _ _ ?_)
    refine Cx.seq (fun K11 k11 => ?_)
    refine Cx.region ?_
    refine Lx.cb rfl rfl rfl (awake_ct _ hM2) rfl ?_
    rintro v3 B3 rfl hB3
    refine Lx.y (mv rfl) rfl ?_
    refine Lx.gT rfl rfl rfl ?_
    refine Lx.y (mv rfl) rfl ?_
    refine Lx.gT rfl rfl rfl ?_
    refine Lx.y (mv rfl) rfl ?_
    refine Lx.gT rfl rfl rfl ?_
    refine Lx.y (not' rfl) rfl ?_
    refine Lx.gT rfl rfl rfl ?_
    refine Lx.y (mv rfl) rfl ?_
    refine Xx.ifB (t := 38) rfl (fun h13 => ?_) (fun h13 => ?_)
    · skip
      have g1 := h13
      refine Lx.gT rfl rfl rfl ?_
      refine Lx.y (mv rfl) rfl ?_
      refine Lx.gT rfl rfl rfl ?_
      refine Lx.y (mv rfl) rfl ?_
      refine Lx.gT rfl rfl rfl ?_
      refine Lx.y (eqI rfl rfl) rfl ?_
      refine Lx.gT rfl rfl rfl ?_
      refine Lx.y (mv rfl) rfl ?_
      refine Xx.ifD (t := 42) rfl (fun h14 => ?_) (fun h14 => ?_)
      · skip
        have g2 := h14
        refine Lx.gF rfl rfl rfl rfl ?_
        refine Lx.gF rfl rfl rfl rfl ?_
        refine Lx.gF rfl rfl rfl rfl ?_
        refine Lx.gT rfl rfl rfl ?_
        refine Lx.y (pickT rfl rfl) rfl ?_
        refine Lx.gT rfl rfl rfl ?_
        refine Lx.y (pickT rfl rfl) rfl ?_
        refine Lx.gT rfl rfl rfl ?_
        refine Lx.y (Yx.tt (eqB Tryd.underlying4 rfl rfl) (by first | (cases table <;> simp_all; done) | (simp_all; done))) rfl ?_
        refine Lx.y (pickT rfl rfl) rfl ?_
        refine Lx.y (mv rfl) rfl ?_
        refine Lx.gT rfl rfl rfl ?_
        refine Lx.y (mv rfl) rfl ?_
        refine Lx.gT rfl rfl rfl ?_
        refine Lx.cp rfl rfl rfl (Whole_ct _ _) rfl ?_
        refine Lx.gT rfl rfl rfl ?_
        refine Lx.cp rfl rfl rfl (AddNil_ct ⟨[116], [], [], []⟩ _) rfl ?_
        refine Lx.gT rfl rfl rfl ?_
        refine Lx.y (not' rfl) rfl ?_
        refine Lx.y (pickT rfl rfl) rfl ?_
        refine Lx.y (mv rfl) rfl ?_
        refine Lx.gT rfl rfl rfl ?_
        refine Lx.y (mv rfl) rfl ?_
        refine Lx.gT rfl rfl rfl ?_
        refine Lx.cp rfl rfl rfl (AllNil_ct _) rfl ?_
        refine Lx.gT rfl rfl rfl ?_
        refine Lx.y (lenV (ty' := 0) Tryd.underlying42 rfl) rfl ?_
        refine Lx.gT rfl rfl rfl ?_
        refine Lx.y (Yx.tt (eqI rfl rfl) rfl) rfl ?_
        refine Lx.y (pickT rfl rfl) rfl ?_
        refine Lx.y (mv rfl) rfl ?_
        refine Lx.gT rfl rfl rfl ?_
        refine Lx.y (mv rfl) rfl ?_
        refine Lx.gT rfl rfl rfl ?_
        refine Lx.y (ldA Tryd.underlying30 rfl sz30 rfl (Cells.own (n := 16) PickB.eq rfl) rfl) rfl ?_
        refine Lx.gT rfl rfl rfl ?_
        refine Lx.bsl (bslA Tryd.underlying45 ti30 rfl rfl (by decide)) rfl (fun bs => ?_)
        refine Lx.gT rfl rfl rfl ?_
        refine Lx.cp rfl rfl rfl (HitNil_ct _ _ _ _) rfl ?_
        refine Lx.gT rfl rfl rfl ?_
        refine Lx.y (not' rfl) rfl ?_
        refine Lx.y (pickT rfl rfl) rfl ?_
        refine Lx.y (mv rfl) rfl ?_
        refine Lx.gT rfl rfl rfl ?_
        refine Lx.y (mv rfl) rfl ?_
        refine Lx.gT rfl rfl rfl ?_
        refine Lx.cb rfl rfl rfl (CloneNil_ct _) rfl ?_
        rintro v4 B4 ⟨bq, rfl, hbq⟩ hB4
        refine Lx.gT rfl rfl rfl ?_
        refine Lx.cp rfl rfl rfl (AllE_ct bq _ _ hbq) rfl ?_
        refine Lx.gT rfl rfl rfl ?_
        refine Lx.y (lenV (ty' := 0) Tryd.underlying42 rfl) rfl ?_
        refine Lx.gT rfl rfl rfl ?_
        refine Lx.y (Yx.tt (eqI rfl rfl) rfl) rfl ?_
        refine Lx.y (pickT rfl rfl) rfl ?_
        refine Lx.y (asg rfl) rfl ?_
        refine Lx.nil ?_
        refine Xx.tn (k11 _ _ _ _ ?_)
        refine Cx.ret ?_
        exact Xx.dropB bs (Xx.dropB b9 (Xx.dropB q2 (Xx.rB1 rfl rfl rfl (Frag.le_trans hB1 (Frag.le_trans hB2 (Frag.le_trans hB3 hB4))) rfl)))
      · skip
        have g2 := h14
        refine Lx.gT rfl rfl rfl ?_
        refine Lx.y (mv rfl) rfl ?_
        refine Lx.gT rfl rfl rfl ?_
        refine Lx.y (mv rfl) rfl ?_
        refine Lx.gT rfl rfl rfl ?_
        refine Lx.y (eqI rfl rfl) rfl ?_
        refine Lx.gT rfl rfl rfl ?_
        refine Lx.y (pickF rfl rfl) rfl ?_
        refine Lx.gT rfl rfl rfl ?_
        refine Lx.y (pickT rfl rfl) rfl ?_
        refine Lx.gT rfl rfl rfl ?_
        refine Lx.y (Yx.tt (eqB Tryd.underlying4 rfl rfl) (by first | (cases table <;> simp_all; done) | (simp_all; done))) rfl ?_
        refine Lx.y (pickT rfl rfl) rfl ?_
        refine Lx.y (mv rfl) rfl ?_
        refine Lx.gT rfl rfl rfl ?_
        refine Lx.y (mv rfl) rfl ?_
        refine Lx.gT rfl rfl rfl ?_
        refine Lx.cp rfl rfl rfl (Whole_ct _ _) rfl ?_
        refine Lx.gT rfl rfl rfl ?_
        refine Lx.cp rfl rfl rfl (AddNil_ct ⟨[116], [], [], []⟩ _) rfl ?_
        refine Lx.gT rfl rfl rfl ?_
        refine Lx.y (not' rfl) rfl ?_
        refine Lx.y (pickT rfl rfl) rfl ?_
        refine Lx.y (mv rfl) rfl ?_
        refine Lx.gT rfl rfl rfl ?_
        refine Lx.y (mv rfl) rfl ?_
        refine Lx.gT rfl rfl rfl ?_
        refine Lx.cp rfl rfl rfl (AllNil_ct _) rfl ?_
        refine Lx.gT rfl rfl rfl ?_
        refine Lx.y (lenV (ty' := 0) Tryd.underlying42 rfl) rfl ?_
        refine Lx.gT rfl rfl rfl ?_
        refine Lx.y (Yx.tt (eqI rfl rfl) rfl) rfl ?_
        refine Lx.y (pickT rfl rfl) rfl ?_
        refine Lx.y (mv rfl) rfl ?_
        refine Lx.gT rfl rfl rfl ?_
        refine Lx.y (mv rfl) rfl ?_
        refine Lx.gT rfl rfl rfl ?_
        refine Lx.y (ldA Tryd.underlying30 rfl sz30 rfl (Cells.own (n := 16) PickB.eq rfl) rfl) rfl ?_
        refine Lx.gT rfl rfl rfl ?_
        refine Lx.bsl (bslA Tryd.underlying45 ti30 rfl rfl (by decide)) rfl (fun bs => ?_)
        refine Lx.gT rfl rfl rfl ?_
        refine Lx.cp rfl rfl rfl (HitNil_ct _ _ _ _) rfl ?_
        refine Lx.gT rfl rfl rfl ?_
        refine Lx.y (not' rfl) rfl ?_
        refine Lx.y (pickT rfl rfl) rfl ?_
        refine Lx.y (mv rfl) rfl ?_
        refine Lx.gT rfl rfl rfl ?_
        refine Lx.y (mv rfl) rfl ?_
        refine Lx.gT rfl rfl rfl ?_
        refine Lx.cb rfl rfl rfl (CloneNil_ct _) rfl ?_
        rintro v4 B4 ⟨bq, rfl, hbq⟩ hB4
        refine Lx.gT rfl rfl rfl ?_
        refine Lx.cp rfl rfl rfl (AllE_ct bq _ _ hbq) rfl ?_
        refine Lx.gT rfl rfl rfl ?_
        refine Lx.y (lenV (ty' := 0) Tryd.underlying42 rfl) rfl ?_
        refine Lx.gT rfl rfl rfl ?_
        refine Lx.y (Yx.tt (eqI rfl rfl) rfl) rfl ?_
        refine Lx.y (pickT rfl rfl) rfl ?_
        refine Lx.y (asg rfl) rfl ?_
        refine Lx.nil ?_
        refine Xx.tn (k11 _ _ _ _ ?_)
        refine Cx.ret ?_
        exact Xx.dropB bs (Xx.dropB b9 (Xx.dropB q2 (Xx.rB1 rfl rfl rfl (Frag.le_trans hB1 (Frag.le_trans hB2 (Frag.le_trans hB3 hB4))) rfl)))
    · skip
      have g1 := h13
      refine Lx.gF rfl rfl rfl rfl ?_
      refine Lx.gF rfl rfl rfl rfl ?_
      refine Lx.gF rfl rfl rfl rfl ?_
      refine Lx.gF rfl rfl rfl rfl ?_
      refine Lx.gU rfl rfl rfl rfl ?_
      refine Lx.gU rfl rfl rfl rfl ?_
      refine Lx.gU rfl rfl rfl rfl ?_
      refine Lx.gF rfl rfl rfl rfl ?_
      refine Lx.gT rfl rfl rfl ?_
      refine Lx.y (pickF rfl rfl) rfl ?_
      refine Lx.gT rfl rfl rfl ?_
      refine Lx.y (Yx.tt (eqB Tryd.underlying4 rfl rfl) (by first | (cases table <;> simp_all; done) | (simp_all; done))) rfl ?_
      refine Lx.y (pickT rfl rfl) rfl ?_
      refine Lx.y (mv rfl) rfl ?_
      refine Lx.gT rfl rfl rfl ?_
      refine Lx.y (mv rfl) rfl ?_
      refine Lx.gT rfl rfl rfl ?_
      refine Lx.cp rfl rfl rfl (Whole_ct _ _) rfl ?_
      refine Lx.gT rfl rfl rfl ?_
      refine Lx.cp rfl rfl rfl (AddNil_ct ⟨[116], [], [], []⟩ _) rfl ?_
      refine Lx.gT rfl rfl rfl ?_
      refine Lx.y (not' rfl) rfl ?_
      refine Lx.y (pickT rfl rfl) rfl ?_
      refine Lx.y (mv rfl) rfl ?_
      refine Lx.gT rfl rfl rfl ?_
      refine Lx.y (mv rfl) rfl ?_
      refine Lx.gT rfl rfl rfl ?_
      refine Lx.cp rfl rfl rfl (AllNil_ct _) rfl ?_
      refine Lx.gT rfl rfl rfl ?_
      refine Lx.y (lenV (ty' := 0) Tryd.underlying42 rfl) rfl ?_
      refine Lx.gT rfl rfl rfl ?_
      refine Lx.y (Yx.tt (eqI rfl rfl) rfl) rfl ?_
      refine Lx.y (pickT rfl rfl) rfl ?_
      refine Lx.y (mv rfl) rfl ?_
      refine Lx.gT rfl rfl rfl ?_
      refine Lx.y (mv rfl) rfl ?_
      refine Lx.gT rfl rfl rfl ?_
      refine Lx.y (ldA Tryd.underlying30 rfl sz30 rfl (Cells.own (n := 16) PickB.eq rfl) rfl) rfl ?_
      refine Lx.gT rfl rfl rfl ?_
      refine Lx.bsl (bslA Tryd.underlying45 ti30 rfl rfl (by decide)) rfl (fun bs => ?_)
      refine Lx.gT rfl rfl rfl ?_
      refine Lx.cp rfl rfl rfl (HitNil_ct _ _ _ _) rfl ?_
      refine Lx.gT rfl rfl rfl ?_
      refine Lx.y (not' rfl) rfl ?_
      refine Lx.y (pickT rfl rfl) rfl ?_
      refine Lx.y (mv rfl) rfl ?_
      refine Lx.gT rfl rfl rfl ?_
      refine Lx.y (mv rfl) rfl ?_
      refine Lx.gT rfl rfl rfl ?_
      refine Lx.cb rfl rfl rfl (CloneNil_ct _) rfl ?_
      rintro v4 B4 ⟨bq, rfl, hbq⟩ hB4
      refine Lx.gT rfl rfl rfl ?_
      refine Lx.cp rfl rfl rfl (AllE_ct bq _ _ hbq) rfl ?_
      refine Lx.gT rfl rfl rfl ?_
      refine Lx.y (lenV (ty' := 0) Tryd.underlying42 rfl) rfl ?_
      refine Lx.gT rfl rfl rfl ?_
      refine Lx.y (Yx.tt (eqI rfl rfl) rfl) rfl ?_
      refine Lx.y (pickT rfl rfl) rfl ?_
      refine Lx.y (asg rfl) rfl ?_
      refine Lx.nil ?_
      refine Xx.tn (k11 _ _ _ _ ?_)
      refine Cx.ret ?_
      exact Xx.dropB bs (Xx.dropB b9 (Xx.dropB q2 (Xx.rB1 rfl rfl rfl (Frag.le_trans hB1 (Frag.le_trans hB2 (Frag.le_trans hB3 hB4))) rfl)))
end RgE
end Go.Proofs.YtfnfkoldifpmhaaDoor
