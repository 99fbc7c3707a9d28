/-
  The walks of awake and of the law of checks.
-/
import Derived.Test.YtlpjgjpkggkmbaaProg
import Derived.Test.YtlpjgjpkggkmbaaSlj
import Derived.Test.YtlpjgjpkggkmbaaFr4
namespace Go.Proofs.Ytlpjgjpkggkmbaa
open Go.SL Go.RowKit
set_option linter.unusedVariables false
set_option linter.unusedSimpArgs false
set_option maxRecDepth 100000
open Fr1 Fr2 Fr3 Fr4
namespace Fr5
theorem sz43 : (Try.prog.info? 43).map (·.size) = some 3 := by kernel_rfl
theorem fo43_1 : FO Try.prog 43 1 1 1 false := FO.of Try.underlying43 rfl rfl (by kernel_rfl) Try.underlying9 rfl rfl
theorem fo43_2 : FO Try.prog 43 2 2 1 false := FO.of Try.underlying43 rfl rfl (by kernel_rfl) Try.underlying4 rfl rfl

def T4 : List UInt8 := [116, 101, 120, 116]
def AW : List UInt8 := headL T4 ++ T4
theorem aw_make : makeV T4 = .tuple #[str AW, i64 0] := rfl
theorem aw_scan : scanL AW = [⟨12, T4, true⟩] := by kernel_rfl
theorem aw_len : AW.length = 16 := rfl
theorem aw_crc : crc [49, 50, 51, 52, 53, 54, 55, 56, 57] = 3421780262#32 := by kernel_rfl
theorem AwMake_ct (B : Frag) : CtP Try.prog 11 [str T4] B (.tuple #[str AW, i64 0]) := Make_ct T4 B (by decide)
theorem AwScan_ct (B : Frag) : CtB Try.prog 15 [str AW] B (fun v B' => ∃ b cs et fz c o, v = .tuple #[.slice (some ⟨b, o, none⟩) 1 c, i64 16] ∧ B' b = some (.cells (List.toArray cs) et fz) ∧ cs[o + 1]? = some (str T4) ∧ cs[o + 2]? = some (.bool true) ∧ 1 ≤ c) :=
  (Scan_ct AW B (by decide)).mono fun v B' ⟨A, c, h1, ⟨h2, h3⟩, h4⟩ => by
    rw [aw_scan] at h1 h2 h3 h4
    rcases h3 with ⟨_, h3⟩ | ⟨b, o, cs, et, fz, rfl, h5, h6⟩
    · simp at h3
    · refine ⟨b, cs, et, fz, c, o, h1, h5, ?_, ?_, h4⟩
      · have := congrArg (·[1]?) h6
        simpa [flatF, List.getElem?_take, List.getElem?_drop] using this
      · have := congrArg (·[2]?) h6
        simpa [flatF, List.getElem?_take, List.getElem?_drop] using this

set_option maxHeartbeats 1000000 in
theorem awake_ct (B : Frag) : CtB Try.prog 7 [] B (fun v _ => v = .bool true) := by
  refine CtB.of_body Try.func7 rfl (nt := 44) rfl (by kernel_rfl) rfl ?_
  intro N0 w0 R
  refine Cx.seq (fun K1 k1 => ?_)
  refine Cx.region ?_
  refine Lx.y (asg rfl) rfl ?_
  refine Lx.nil ?_
  refine Xx.tn (k1 _ _ _ _ ?_)
  refine Cx.seq (fun K2 k2 => ?_)
  refine Cx.region ?_
  refine Lx.cp rfl rfl rfl (AwMake_ct _) rfl ?_
  refine Lx.y (mv rfl) rfl ?_
  refine Lx.y (ext rfl rfl) rfl ?_
  refine Lx.y (ext rfl rfl) rfl ?_
  refine Lx.y (asg rfl) rfl ?_
  refine Lx.y (asg rfl) rfl ?_
  refine Lx.nil ?_
  refine Xx.tn (k2 _ _ _ _ ?_)
  refine Cx.seq (fun K3 k3 => ?_)
  refine Cx.region ?_
  refine Lx.y (mv rfl) rfl ?_
  refine Lx.cb rfl rfl rfl (AwScan_ct _) rfl ?_
  rintro v B2 ⟨b, cs, et, fz, c, o, rfl, hB, hc1, hc2, hc⟩ hB2
  refine Lx.y (mv rfl) rfl ?_
  refine Lx.y (ext rfl rfl) rfl ?_
  refine Lx.y (ext rfl rfl) rfl ?_
  refine Lx.y (asg rfl) rfl ?_
  refine Lx.y (asg rfl) rfl ?_
  refine Lx.nil ?_
  refine Xx.tn (k3 _ _ _ _ ?_)
  refine Cx.seq (fun K5 k5 => ?_)
  refine Cx.region ?_
  refine Lx.y (mv rfl) rfl ?_
  refine Lx.y (eqI rfl rfl) rfl ?_
  refine Lx.y (mv rfl) rfl ?_
  refine Xx.ifD (t := 16) rfl (fun h6 => ?_) (fun h6 => ?_)
  · skip
    have z := h6
    refine Lx.gT rfl rfl rfl ?_
    refine Lx.y (mv rfl) rfl ?_
    refine Lx.gT rfl rfl rfl ?_
    refine Lx.y (lenV (ty' := 0) Try.underlying36 rfl) rfl ?_
    refine Lx.gT rfl rfl rfl ?_
    refine Lx.y (eqI rfl rfl) rfl ?_
    refine Lx.y (pickT rfl rfl) rfl ?_
    refine Lx.y (mv rfl) rfl ?_
    refine Xx.ifD (t := 21) rfl (fun h7 => ?_) (fun h7 => ?_)
    · skip
      have z := h7
      refine Lx.gT rfl rfl rfl ?_
      refine Lx.y (mv rfl) rfl ?_
      refine Lx.gT rfl rfl rfl ?_
      refine Lx.y (mv rfl) rfl ?_
      refine Lx.gT rfl rfl rfl ?_
      refine Lx.y (lenS Try.underlying9 rfl) rfl ?_
      refine Lx.gT rfl rfl rfl ?_
      refine Lx.y (eqI rfl rfl) rfl ?_
      refine Lx.y (pickT rfl rfl) rfl ?_
      refine Lx.y (mv rfl) rfl ?_
      refine Xx.ifD (t := 27) rfl (fun h8 => ?_) (fun h8 => ?_)
      · skip
        have z := h8
        refine Lx.gT rfl rfl rfl ?_
        refine Lx.y (mv rfl) rfl ?_
        refine Lx.gT rfl rfl rfl ?_
        refine Lx.y (ia Try.underlying36 sz43 rfl rfl (show Int.toNat _ = 0 from rfl) (by omega) (by omega)) rfl ?_
        refine Lx.gT rfl rfl rfl ?_
        refine Lx.y (fa' fo43_1 rfl) rfl ?_
        refine Lx.gT rfl rfl rfl ?_
        refine Lx.y (ldB Try.underlying9 rfl rfl hB hc1) rfl ?_
        refine Lx.gT rfl rfl rfl ?_
        refine Lx.y (eqS rfl rfl) rfl ?_
        refine Lx.y (pickT rfl rfl) rfl ?_
        refine Lx.y (mv rfl) rfl ?_
        refine Xx.ifD (t := 34) rfl (fun h9 => ?_) (fun h9 => ?_)
        · skip
          have z := h9
          refine Lx.gT rfl rfl rfl ?_
          refine Lx.y (mv rfl) rfl ?_
          refine Lx.gT rfl rfl rfl ?_
          refine Lx.y (ia Try.underlying36 sz43 rfl rfl (show Int.toNat _ = 0 from rfl) (by omega) (by omega)) rfl ?_
          refine Lx.gT rfl rfl rfl ?_
          refine Lx.y (fa' fo43_2 rfl) rfl ?_
          refine Lx.gT rfl rfl rfl ?_
          refine Lx.y (ldB Try.underlying4 rfl rfl hB hc2) rfl ?_
          refine Lx.y (pickT rfl rfl) rfl ?_
          refine Lx.y (mv rfl) rfl ?_
          refine Xx.ifB (t := 40) rfl (fun h10 => ?_) (fun h10 => ?_)
          · skip
            have z := h10
            refine Lx.gT rfl rfl rfl ?_
            refine Lx.cp rfl rfl rfl (aw_crc ▸ Check_ct [49, 50, 51, 52, 53, 54, 55, 56, 57] _ (by decide)) rfl ?_
            refine Lx.gT rfl rfl rfl ?_
            refine Lx.y (eqW32 (b := 3421780262#32) rfl rfl) rfl ?_
            refine Lx.y (pickT rfl rfl) rfl ?_
            refine Lx.y (asg rfl) rfl ?_
            refine Lx.nil ?_
            refine Xx.tn (k5 _ _ _ _ ?_)
            refine Cx.ret ?_
            first | exact Xx.rB1 rfl rfl (by first | rfl | (congr 1; decide)) hB2 rfl | exact absurd (by decide) z | (cases z)
          · skip
            have z := h10
            refine Lx.gF rfl rfl rfl rfl ?_
            refine Lx.gF rfl rfl rfl rfl ?_
            refine Lx.y (pickF rfl rfl) rfl ?_
            refine Lx.y (asg rfl) rfl ?_
            refine Lx.nil ?_
            refine Xx.tn (k5 _ _ _ _ ?_)
            refine Cx.ret ?_
            first | exact Xx.rB1 rfl rfl (by first | rfl | (congr 1; decide)) hB2 rfl | exact absurd (by decide) z | (cases z)
        · skip
          have z := h9
          refine Lx.gF rfl rfl rfl rfl ?_
          refine Lx.gF rfl rfl rfl rfl ?_
          refine Lx.gF rfl rfl rfl rfl ?_
          refine Lx.gF rfl rfl rfl rfl ?_
          refine Lx.y (pickF rfl rfl) rfl ?_
          refine Lx.y (mv rfl) rfl ?_
          refine Lx.gF rfl rfl rfl rfl ?_
          refine Lx.gF rfl rfl rfl rfl ?_
          refine Lx.y (pickF rfl rfl) rfl ?_
          refine Lx.y (asg rfl) rfl ?_
          refine Lx.nil ?_
          refine Xx.tn (k5 _ _ _ _ ?_)
          refine Cx.ret ?_
          first | exact Xx.rB1 rfl rfl (by first | rfl | (congr 1; decide)) hB2 rfl | exact absurd (by decide) z | (cases z)
      · skip
        have z := h8
        refine Lx.gF rfl rfl rfl rfl ?_
        refine Lx.gF rfl rfl rfl rfl ?_
        refine Lx.gF rfl rfl rfl rfl ?_
        refine Lx.gF rfl rfl rfl rfl ?_
        refine Lx.gF rfl rfl rfl rfl ?_
        refine Lx.y (pickF rfl rfl) rfl ?_
        refine Lx.y (mv rfl) rfl ?_
        refine Lx.gF rfl rfl rfl rfl ?_
        refine Lx.gF rfl rfl rfl rfl ?_
        refine Lx.gF rfl rfl rfl rfl ?_
        refine Lx.gF rfl rfl rfl rfl ?_
        refine Lx.y (pickF rfl rfl) rfl ?_
        refine Lx.y (mv rfl) rfl ?_
        refine Lx.gF rfl rfl rfl rfl ?_
        refine Lx.gF rfl rfl rfl rfl ?_
        refine Lx.y (pickF rfl rfl) rfl ?_
        refine Lx.y (asg rfl) rfl ?_
        refine Lx.nil ?_
        refine Xx.tn (k5 _ _ _ _ ?_)
        refine Cx.ret ?_
        first | exact Xx.rB1 rfl rfl (by first | rfl | (congr 1; decide)) hB2 rfl | exact absurd (by decide) z | (cases z)
    · skip
      have z := h7
      refine Lx.gF rfl rfl rfl rfl ?_
      refine Lx.gF rfl rfl rfl rfl ?_
      refine Lx.gF rfl rfl rfl rfl ?_
      refine Lx.gF rfl rfl rfl rfl ?_
      refine Lx.y (pickF rfl rfl) rfl ?_
      refine Lx.y (mv rfl) rfl ?_
      refine Lx.gF rfl rfl rfl rfl ?_
      refine Lx.gF rfl rfl rfl rfl ?_
      refine Lx.gF rfl rfl rfl rfl ?_
      refine Lx.gF rfl rfl rfl rfl ?_
      refine Lx.gF rfl rfl rfl rfl ?_
      refine Lx.y (pickF rfl rfl) rfl ?_
      refine Lx.y (mv rfl) rfl ?_
      refine Lx.gF rfl rfl rfl rfl ?_
      refine Lx.gF rfl rfl rfl rfl ?_
      refine Lx.gF rfl rfl rfl rfl ?_
      refine Lx.gF rfl rfl rfl rfl ?_
      refine Lx.y (pickF rfl rfl) rfl ?_
      refine Lx.y (mv rfl) rfl ?_
      refine Lx.gF rfl rfl rfl rfl ?_
      refine Lx.gF rfl rfl rfl rfl ?_
      refine Lx.y (pickF rfl rfl) rfl ?_
      refine Lx.y (asg rfl) rfl ?_
      refine Lx.nil ?_
      refine Xx.tn (k5 _ _ _ _ ?_)
      refine Cx.ret ?_
      first | exact Xx.rB1 rfl rfl (by first | rfl | (congr 1; decide)) hB2 rfl | exact absurd (by decide) z | (cases z)
  · skip
    have z := h6
    refine Lx.gF rfl rfl rfl rfl ?_
    refine Lx.gF rfl rfl rfl rfl ?_
    refine Lx.gF rfl rfl rfl rfl ?_
    refine Lx.y (pickF rfl rfl) rfl ?_
    refine Lx.y (mv rfl) rfl ?_
    refine Lx.gF rfl rfl rfl rfl ?_
    refine Lx.gF rfl rfl rfl rfl ?_
    refine Lx.gF rfl rfl rfl rfl ?_
    refine Lx.gF rfl rfl rfl rfl ?_
    refine Lx.y (pickF rfl rfl) rfl ?_
    refine Lx.y (mv rfl) rfl ?_
    refine Lx.gF rfl rfl rfl rfl ?_
    refine Lx.gF rfl rfl rfl rfl ?_
    refine Lx.gF rfl rfl rfl rfl ?_
    refine Lx.gF rfl rfl rfl rfl ?_
    refine Lx.gF rfl rfl rfl rfl ?_
    refine Lx.y (pickF rfl rfl) rfl ?_
    refine Lx.y (mv rfl) rfl ?_
    refine Lx.gF rfl rfl rfl rfl ?_
    refine Lx.gF rfl rfl rfl rfl ?_
    refine Lx.gF rfl rfl rfl rfl ?_
    refine Lx.gF rfl rfl rfl rfl ?_
    refine Lx.y (pickF rfl rfl) rfl ?_
    refine Lx.y (mv rfl) rfl ?_
    refine Lx.gF rfl rfl rfl rfl ?_
    refine Lx.gF rfl rfl rfl rfl ?_
    refine Lx.y (pickF rfl rfl) rfl ?_
    refine Lx.y (asg rfl) rfl ?_
    refine Lx.nil ?_
    refine Xx.tn (k5 _ _ _ _ ?_)
    refine Cx.ret ?_
    first | exact Xx.rB1 rfl rfl (by first | rfl | (congr 1; decide)) hB2 rfl | exact absurd (by decide) z | (cases z)
end Fr5
end Go.Proofs.Ytlpjgjpkggkmbaa
