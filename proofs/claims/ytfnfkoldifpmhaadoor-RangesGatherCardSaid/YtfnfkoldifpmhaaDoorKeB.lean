/-
  Values that may be, their bytes counted.
-/
import Derived.Test.YtfnfkoldifpmhaaDoorProg
import Derived.Test.YtfnfkoldifpmhaaDoorSlj
import Derived.Test.YtfnfkoldifpmhaaDoorKeA
namespace Go.Proofs.YtfnfkoldifpmhaaDoor
open Go.SL Go.RowKit
set_option linter.unusedVariables false
set_option linter.unusedSimpArgs false
set_option maxRecDepth 100000
open Ke1 Ke3 Ke4 Ke5 Ke6 Ke7 Ke8 Ke9 KeA
namespace KeB
theorem sz26 : (Tryd.prog.info? 26).map (·.size) = some 6 := by kernel_rfl

noncomputable def CheckF (d : Nat) (v : V) : Int := if checkF d v 1 = 0 then (if 1024 < (bytesF d v).length then 3 else 0) else checkF d v 1

set_option maxHeartbeats 1000000 in
theorem Check_ct (d : Nat) (v : V) (cs : List Value) (B : Frag) (h : ValR B d v cs) (hb : checkF d v 1 = 0 → (bytesF d v).length ≤ 1152921504606846976) : CtP Tryd.prog 38 [.agg cs.toArray] B (i64 (CheckF d v)) := by
  obtain ⟨Ap, cp, An, cn, rfl⟩ := ValR.shape h
  refine CtB.of_body Tryd.func38 rfl (nt := 13) rfl (by kernel_rfl) rfl ?_
  intro N0 w0 R
  refine Cx.seq (fun K1 k1 => ?_)
  refine Cx.region ?_
  refine Lx.new (boxA rfl) rfl (fun b1 => ?_)
  refine Lx.y (asg rfl) rfl ?_
  refine Lx.nil ?_
  refine Xx.tn (k1 _ _ _ _ ?_)
  refine Cx.seq (fun K2 k2 => ?_)
  refine Cx.seq (fun K3 k3 => ?_)
  refine Cx.region ?_
  refine Lx.y (ldA Tryd.underlying26 rfl sz26 rfl (Cells.own (n := 6) PickB.eq rfl) rfl) rfl ?_
  refine Lx.cp rfl rfl rfl (check_ct d v _ 1 _ h (by decide) (by decide)) rfl ?_
  refine Lx.y (asg rfl) rfl ?_
  refine Lx.nil ?_
  refine Xx.tn (k3 _ _ _ _ ?_)
  refine Cx.seq (fun K4 k4 => ?_)
  refine Cx.region ?_
  refine Lx.y (mv rfl) rfl ?_
  refine Lx.y (neI rfl rfl) rfl ?_
  refine Lx.nil ?_
  refine Xx.tn (k4 _ _ _ _ ?_)
  refine Cx.condN rfl (fun h5 => ?_) (fun h5 => ?_)
  · skip
    have z1 := h5
    refine Cx.seq (fun K6 k6 => ?_)
    refine Cx.region ?_
    refine Lx.y (mv rfl) rfl ?_
    refine Lx.y (asg rfl) rfl ?_
    refine Lx.nil ?_
    refine Xx.tn (k6 _ _ _ _ ?_)
    refine Cx.ret ?_
    refine Xx.tr ?_
    refine Xx.dropB b1 (Xx.rB1 rfl rfl ⟨congrArg (fun z : Int => i64 z) ?_, rfl⟩ (Frag.le_refl _) rfl)
    first | (unfold CheckF; rw [if_neg z1]) | (unfold CheckF; rw [if_pos z1, if_pos (by omega)]) | (unfold CheckF; rw [if_pos z1, if_neg (by omega)])
  · skip
    have z1 : checkF d v 1 = 0 := h5
    refine Cx.skip ?_
    refine Xx.tn (k2 _ _ _ _ ?_)
    refine Cx.seq (fun K7 k7 => ?_)
    refine Cx.seq (fun K8 k8 => ?_)
    refine Cx.region ?_
    refine Lx.y (ldA Tryd.underlying26 rfl sz26 rfl (Cells.own (n := 6) PickB.eq rfl) rfl) rfl ?_
    refine Lx.cp rfl rfl rfl (bytes_ct d v _ _ h (hb z1)) rfl ?_
    refine Lx.y (lenS Tryd.underlying9 rfl) rfl ?_
    refine Lx.y (gtr rfl rfl) rfl ?_
    refine Lx.nil ?_
    refine Xx.tn (k8 _ _ _ _ ?_)
    refine Cx.condD rfl (fun h9 => ?_) (fun h9 => ?_)
    · skip
      have z2 := h9
      refine Cx.seq (fun K10 k10 => ?_)
      refine Cx.region ?_
      refine Lx.y (asg rfl) rfl ?_
      refine Lx.nil ?_
      refine Xx.tn (k10 _ _ _ _ ?_)
      refine Cx.ret ?_
      refine Xx.tr ?_
      refine Xx.dropB b1 (Xx.rB1 rfl rfl ⟨congrArg (fun z : Int => i64 z) ?_, rfl⟩ (Frag.le_refl _) rfl)
      first | (unfold CheckF; rw [if_neg z1]) | (unfold CheckF; rw [if_pos z1, if_pos (by omega)]) | (unfold CheckF; rw [if_pos z1, if_neg (by omega)])
    · skip
      have z2 := h9
      refine Cx.skip ?_
      refine Xx.tn (k7 _ _ _ _ ?_)
      refine Cx.seq (fun K11 k11 => ?_)
      refine Cx.region ?_
      refine Lx.y (asg rfl) rfl ?_
      refine Lx.nil ?_
      refine Xx.tn (k11 _ _ _ _ ?_)
      refine Cx.ret ?_
      refine Xx.dropB b1 (Xx.rB1 rfl rfl ⟨congrArg (fun z : Int => i64 z) ?_, rfl⟩ (Frag.le_refl _) rfl)
      first | (unfold CheckF; rw [if_neg z1]) | (unfold CheckF; rw [if_pos z1, if_pos (by omega)]) | (unfold CheckF; rw [if_pos z1, if_neg (by omega)])
end KeB
end Go.Proofs.YtfnfkoldifpmhaaDoor
