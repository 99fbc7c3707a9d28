/-
  The walks of awake and of the law of checks.
-/
import Derived.Test.YtgcebieihmlaoaaProg
import Derived.Test.YtgcebieihmlaoaaSlj
import Derived.Test.YtgcebieihmlaoaaFr4
namespace Go.Proofs.Ytgcebieihmlaoaa
open Go.SL Go.RowKit
set_option linter.unusedVariables false
set_option linter.unusedSimpArgs false
set_option maxRecDepth 100000
open Fr1 Fr2 Fr3 Fr4
namespace Fr5


def T4 : List UInt8 := [116, 101, 120, 116]
def AW : List UInt8 := headL T4 ++ T4
theorem aw_make : makeV T4 = .tuple #[str AW, i64 0] := rfl
theorem aw_scan : scanL AW = [⟨12, T4, true⟩] := by kernel_rfl
theorem aw_len : AW.length = 16 := rfl
theorem aw_crc : crc [49, 50, 51, 52, 53, 54, 55, 56, 57] = 3421780262#32 := by kernel_rfl
theorem AwMake_ct (B : Frag) : CtP Try.prog 59 [str T4] B (.tuple #[str AW, i64 0]) := Make_ct T4 B (by decide)
theorem AwScan_ct (B : Frag) : CtB Try.prog 58 [str AW] B (fun v B' => ∃ b cs et fz c o, v = .tuple #[.slice (some ⟨b, o, none⟩) 1 c, i64 16] ∧ B' b = some (.cells (List.toArray cs) et fz) ∧ cs[o + 1]? = some (str T4) ∧ cs[o + 2]? = some (.bool true) ∧ 1 ≤ c) :=
  (Scan_ct AW B (by decide)).mono fun v B' ⟨A, c, h1, ⟨h2, h3⟩, h4⟩ => by
    rw [aw_scan] at h1 h2 h3 h4
    rcases h3 with ⟨_, h3⟩ | ⟨b, o, cs, et, fz, rfl, h5, h6⟩
    · simp at h3
    · refine ⟨b, cs, et, fz, c, o, h1, h5, ?_, ?_, h4⟩
      · have := congrArg (·[1]?) h6
        simpa [flatF, List.getElem?_take, List.getElem?_drop] using this
      · have := congrArg (·[2]?) h6
        simpa [flatF, List.getElem?_take, List.getElem?_drop] using this
end Fr5
end Go.Proofs.Ytgcebieihmlaoaa
