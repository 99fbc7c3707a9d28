/-
  No cell of these rows narrows 'for every input' (looked for: loops, veiled, ifaces, maps, wideKeys, modest, calm, conditions, laid).
  DERIVED. THE GIVEN ROWS OF THIS SEAT. 7 by the template 'for every input the law returns true; each argument reads behind the call as it read before'; 0 by the template 'total and deterministic' (their statements: YthlfffbcligocaaGreatTotals.lean).
  GIVEN WITH THE SEED: the statements are not yours to turn. If you find one false, say at which input.
  Laid BY PROGRAM, IN A SANDBOX (cutbox-rows.mjs): the forced cells as the released guide's own fill.sh prints them over the translation 702c9af6547a033f… (all of the seat's roots in one cut). By AI agents, Wed Nov 11 2026. No macro, syntax, notation, axiom, sorry.
-/
import Derived.Test.YthlfffbcligocaaGreatChecked
import GoSem.Claim
import GoSem.ClaimJoined
import GoSem.ClaimMapViews
import Derived.JoinedTies
import Derived.KernelRfl
namespace Go.Proofs.YthlfffbcligocaaGreat
/- THE CELL 'sum', in the pinned program and in every row, IS THE sha256 OF THE DUMP (.gsa) THAT YthlfffbcligocaaGreatProg.lean LOADS. Nothing in Lean hashes anything: it is a label: what it is worth is what the hold of that sum in a sandbox is worth. -/
noncomputable def Tryz.pinned : Pinned := { name := "ythlfffbcligocaagreat", sum := "702c9af6547a033f61439ab98aeafdfcb42645112cf0b9a2a127614ecdbbdc3e", checked := Tryz.checked }
namespace Rows
def none {H : Type} : Left H := { results := [], args := [] }

/-- 'parchmentlaw23.VaultChecks': WHATEVER THE INPUT: true; the input reads as it did. -/
def vaultChecksSpec : ChangeSpec := { name := "vaultChecks", fn := fun _ => fun
  | [d1, d2] => { results := [.lit (.bool true)], args := [d1, d2] }
  | _ => none }
def vaultChecksRow : OpenClaim := { program := "ythlfffbcligocaagreat", sum := "702c9af6547a033f61439ab98aeafdfcb42645112cf0b9a2a127614ecdbbdc3e", func := "parchment/parchmentlaw23.VaultChecks", spec := "vaultChecks", inPlace := ["internal/abi.NoEscape", "internal/bytealg.MakeNoZero", "slices.overlaps[int]"], unfollowed := true, recurses := true, plainKeys := false, apart := false }
def VaultChecksSaid : Prop := vaultChecksRow.holds Tryz.pinned (OpenSpec.ofChange vaultChecksSpec)

/-- ITS FALSE NEIGHBOUR: 'it returns false'. Refute it at one input. -/
def vaultChecksWrong : ChangeSpec := { name := "vaultChecks", fn := fun _ => fun
  | [d1, d2] => { results := [.lit (.bool false)], args := [d1, d2] }
  | _ => none }
def VaultChecksWrongFalsely : Prop := vaultChecksRow.holds Tryz.pinned (OpenSpec.ofChange vaultChecksWrong)

/-- 'parchmentlaw23.VaultReads': WHATEVER THE INPUT: true; the input reads as it did. -/
def vaultReadsSpec : ChangeSpec := { name := "vaultReads", fn := fun _ => fun
  | [d1, d2] => { results := [.lit (.bool true)], args := [d1, d2] }
  | _ => none }
def vaultReadsRow : OpenClaim := { program := "ythlfffbcligocaagreat", sum := "702c9af6547a033f61439ab98aeafdfcb42645112cf0b9a2a127614ecdbbdc3e", func := "parchment/parchmentlaw23.VaultReads", spec := "vaultReads", inPlace := ["slices.overlaps[int]", "internal/abi.NoEscape", "internal/bytealg.MakeNoZero"], unfollowed := true, recurses := true, plainKeys := false, apart := false }
def VaultReadsSaid : Prop := vaultReadsRow.holds Tryz.pinned (OpenSpec.ofChange vaultReadsSpec)

/-- ITS FALSE NEIGHBOUR: 'it returns false'. Refute it at one input. -/
def vaultReadsWrong : ChangeSpec := { name := "vaultReads", fn := fun _ => fun
  | [d1, d2] => { results := [.lit (.bool false)], args := [d1, d2] }
  | _ => none }
def VaultReadsWrongFalsely : Prop := vaultReadsRow.holds Tryz.pinned (OpenSpec.ofChange vaultReadsWrong)

/-- 'parchmentlaw23.VaultFull': WHATEVER THE INPUT: true; the input reads as it did. -/
def vaultFullSpec : ChangeSpec := { name := "vaultFull", fn := fun _ => fun
  | [d1, d2] => { results := [.lit (.bool true)], args := [d1, d2] }
  | _ => none }
def vaultFullRow : OpenClaim := { program := "ythlfffbcligocaagreat", sum := "702c9af6547a033f61439ab98aeafdfcb42645112cf0b9a2a127614ecdbbdc3e", func := "parchment/parchmentlaw23.VaultFull", spec := "vaultFull", inPlace := ["internal/abi.NoEscape", "internal/bytealg.MakeNoZero", "slices.overlaps[int]"], unfollowed := true, recurses := true, plainKeys := false, apart := false }
def VaultFullSaid : Prop := vaultFullRow.holds Tryz.pinned (OpenSpec.ofChange vaultFullSpec)

/-- ITS FALSE NEIGHBOUR: 'it returns false'. Refute it at one input. -/
def vaultFullWrong : ChangeSpec := { name := "vaultFull", fn := fun _ => fun
  | [d1, d2] => { results := [.lit (.bool false)], args := [d1, d2] }
  | _ => none }
def VaultFullWrongFalsely : Prop := vaultFullRow.holds Tryz.pinned (OpenSpec.ofChange vaultFullWrong)

/-- 'parchmentlaw23.VaultPlays': WHATEVER THE INPUT: true; the input reads as it did. -/
def vaultPlaysSpec : ChangeSpec := { name := "vaultPlays", fn := fun _ => fun
  | [d] => { results := [.lit (.bool true)], args := [d] }
  | _ => none }
def vaultPlaysRow : OpenClaim := { program := "ythlfffbcligocaagreat", sum := "702c9af6547a033f61439ab98aeafdfcb42645112cf0b9a2a127614ecdbbdc3e", func := "parchment/parchmentlaw23.VaultPlays", spec := "vaultPlays", inPlace := ["internal/abi.NoEscape", "internal/bytealg.MakeNoZero", "slices.overlaps[int]"], unfollowed := true, recurses := true, plainKeys := false, apart := false }
def VaultPlaysSaid : Prop := vaultPlaysRow.holds Tryz.pinned (OpenSpec.ofChange vaultPlaysSpec)

/-- ITS FALSE NEIGHBOUR: 'it returns false'. Refute it at one input. -/
def vaultPlaysWrong : ChangeSpec := { name := "vaultPlays", fn := fun _ => fun
  | [d] => { results := [.lit (.bool false)], args := [d] }
  | _ => none }
def VaultPlaysWrongFalsely : Prop := vaultPlaysRow.holds Tryz.pinned (OpenSpec.ofChange vaultPlaysWrong)

/-- 'parchmentlaw23.VaultNone': WHATEVER THE INPUT: true; the input reads as it did. -/
def vaultNoneSpec : ChangeSpec := { name := "vaultNone", fn := fun _ => fun
  | [d1, d2, d3] => { results := [.lit (.bool true)], args := [d1, d2, d3] }
  | _ => none }
def vaultNoneRow : OpenClaim := { program := "ythlfffbcligocaagreat", sum := "702c9af6547a033f61439ab98aeafdfcb42645112cf0b9a2a127614ecdbbdc3e", func := "parchment/parchmentlaw23.VaultNone", spec := "vaultNone", inPlace := ["internal/abi.NoEscape", "internal/bytealg.MakeNoZero", "slices.overlaps[int]"], unfollowed := true, recurses := true, plainKeys := false, apart := false }
def VaultNoneSaid : Prop := vaultNoneRow.holds Tryz.pinned (OpenSpec.ofChange vaultNoneSpec)

/-- ITS FALSE NEIGHBOUR: 'it returns false'. Refute it at one input. -/
def vaultNoneWrong : ChangeSpec := { name := "vaultNone", fn := fun _ => fun
  | [d1, d2, d3] => { results := [.lit (.bool false)], args := [d1, d2, d3] }
  | _ => none }
def VaultNoneWrongFalsely : Prop := vaultNoneRow.holds Tryz.pinned (OpenSpec.ofChange vaultNoneWrong)

/-- 'parchmentlaw23.VaultRoots': WHATEVER THE INPUT: true; the input reads as it did. -/
def vaultRootsSpec : ChangeSpec := { name := "vaultRoots", fn := fun _ => fun
  | [d1, d2] => { results := [.lit (.bool true)], args := [d1, d2] }
  | _ => none }
def vaultRootsRow : OpenClaim := { program := "ythlfffbcligocaagreat", sum := "702c9af6547a033f61439ab98aeafdfcb42645112cf0b9a2a127614ecdbbdc3e", func := "parchment/parchmentlaw23.VaultRoots", spec := "vaultRoots", inPlace := ["internal/abi.NoEscape", "internal/bytealg.MakeNoZero", "slices.overlaps[int]"], unfollowed := true, recurses := true, plainKeys := false, apart := false }
def VaultRootsSaid : Prop := vaultRootsRow.holds Tryz.pinned (OpenSpec.ofChange vaultRootsSpec)

/-- ITS FALSE NEIGHBOUR: 'it returns false'. Refute it at one input. -/
def vaultRootsWrong : ChangeSpec := { name := "vaultRoots", fn := fun _ => fun
  | [d1, d2] => { results := [.lit (.bool false)], args := [d1, d2] }
  | _ => none }
def VaultRootsWrongFalsely : Prop := vaultRootsRow.holds Tryz.pinned (OpenSpec.ofChange vaultRootsWrong)

/-- 'parchmentlaw23.VaultFalls': WHATEVER THE INPUT: true; the input reads as it did. -/
def vaultFallsSpec : ChangeSpec := { name := "vaultFalls", fn := fun _ => fun
  | [d1, d2] => { results := [.lit (.bool true)], args := [d1, d2] }
  | _ => none }
def vaultFallsRow : OpenClaim := { program := "ythlfffbcligocaagreat", sum := "702c9af6547a033f61439ab98aeafdfcb42645112cf0b9a2a127614ecdbbdc3e", func := "parchment/parchmentlaw23.VaultFalls", spec := "vaultFalls", inPlace := ["internal/abi.NoEscape", "internal/bytealg.MakeNoZero", "slices.overlaps[int]"], unfollowed := true, recurses := true, plainKeys := false, apart := false }
def VaultFallsSaid : Prop := vaultFallsRow.holds Tryz.pinned (OpenSpec.ofChange vaultFallsSpec)

/-- ITS FALSE NEIGHBOUR: 'it returns false'. Refute it at one input. -/
def vaultFallsWrong : ChangeSpec := { name := "vaultFalls", fn := fun _ => fun
  | [d1, d2] => { results := [.lit (.bool false)], args := [d1, d2] }
  | _ => none }
def VaultFallsWrongFalsely : Prop := vaultFallsRow.holds Tryz.pinned (OpenSpec.ofChange vaultFallsWrong)

/- THE SECOND FORM. 'bulk': how many values and letters a reading holds, each counted each time it is reached (what is shared counts as often as it is met; a slice's spare places count too). A statement '..UptoSaid' is the law's where the arguments, and the package variables that the reading takes, are together of bulk at most 1048576: NARROWER than '..Said'. Prove '..Said' where nothing that the law and all that it calls make is longer than what came in: it says more and counts as full. Else prove '..UptoSaid'. A law counts once. -/
mutual
def uptoBulk {H : Type} : DataW H → Nat
  | .lit (.string bytes) => bytes.length + 1
  | .lit _ => 1
  | .nil => 1
  | .ptr d => uptoBulk d + 1
  | .slice elems spare => uptoBulkAll elems + uptoBulkAll spare + 1
  | .agg parts => uptoBulkAll parts + 1
  | .iface _ d => uptoBulk d + 1
  | .map entries => uptoBulkEntries entries + 1
  | .held _ => 1
def uptoBulkAll {H : Type} : List (DataW H) → Nat
  | [] => 0
  | d :: r => uptoBulk d + uptoBulkAll r
def uptoBulkEntries {H : Type} : List (Lit × DataW H) → Nat
  | [] => 0
  | x :: r => uptoBulkEntry x + uptoBulkEntries r
def uptoBulkEntry {H : Type} : Lit × DataW H → Nat
  | (.string bytes, d) => bytes.length + uptoBulk d + 1
  | (_, d) => uptoBulk d + 1
 end
def uptoSmall : (H : Type) → List (DataW H) → Bool := fun _ ds => decide (uptoBulkAll ds ≤ 1048576)
def OpenSpec.upto (s : _root_.Go.ChangeSpec) : _root_.Go.OpenSpec := { _root_.Go.OpenSpec.ofChange s with cond := some uptoSmall }

/-- 'parchmentlaw23.VaultChecks', WHERE WHAT IT READS IS OF BULK AT MOST 1048576: true; the input reads as it did. -/
def vaultChecksUptoRow : OpenClaim := { program := "ythlfffbcligocaagreat", sum := "702c9af6547a033f61439ab98aeafdfcb42645112cf0b9a2a127614ecdbbdc3e", func := "parchment/parchmentlaw23.VaultChecks", spec := "vaultChecks", inPlace := ["internal/abi.NoEscape", "internal/bytealg.MakeNoZero", "slices.overlaps[int]"], unfollowed := true, recurses := true, plainKeys := false, apart := false, narrowed := true }
def VaultChecksUptoSaid : Prop := vaultChecksUptoRow.holds Tryz.pinned (OpenSpec.upto vaultChecksSpec)

/-- 'parchmentlaw23.VaultReads', WHERE WHAT IT READS IS OF BULK AT MOST 1048576: true; the input reads as it did. -/
def vaultReadsUptoRow : OpenClaim := { program := "ythlfffbcligocaagreat", sum := "702c9af6547a033f61439ab98aeafdfcb42645112cf0b9a2a127614ecdbbdc3e", func := "parchment/parchmentlaw23.VaultReads", spec := "vaultReads", inPlace := ["slices.overlaps[int]", "internal/abi.NoEscape", "internal/bytealg.MakeNoZero"], unfollowed := true, recurses := true, plainKeys := false, apart := false, narrowed := true }
def VaultReadsUptoSaid : Prop := vaultReadsUptoRow.holds Tryz.pinned (OpenSpec.upto vaultReadsSpec)

/-- 'parchmentlaw23.VaultFull', WHERE WHAT IT READS IS OF BULK AT MOST 1048576: true; the input reads as it did. -/
def vaultFullUptoRow : OpenClaim := { program := "ythlfffbcligocaagreat", sum := "702c9af6547a033f61439ab98aeafdfcb42645112cf0b9a2a127614ecdbbdc3e", func := "parchment/parchmentlaw23.VaultFull", spec := "vaultFull", inPlace := ["internal/abi.NoEscape", "internal/bytealg.MakeNoZero", "slices.overlaps[int]"], unfollowed := true, recurses := true, plainKeys := false, apart := false, narrowed := true }
def VaultFullUptoSaid : Prop := vaultFullUptoRow.holds Tryz.pinned (OpenSpec.upto vaultFullSpec)

/-- 'parchmentlaw23.VaultPlays', WHERE WHAT IT READS IS OF BULK AT MOST 1048576: true; the input reads as it did. -/
def vaultPlaysUptoRow : OpenClaim := { program := "ythlfffbcligocaagreat", sum := "702c9af6547a033f61439ab98aeafdfcb42645112cf0b9a2a127614ecdbbdc3e", func := "parchment/parchmentlaw23.VaultPlays", spec := "vaultPlays", inPlace := ["internal/abi.NoEscape", "internal/bytealg.MakeNoZero", "slices.overlaps[int]"], unfollowed := true, recurses := true, plainKeys := false, apart := false, narrowed := true }
def VaultPlaysUptoSaid : Prop := vaultPlaysUptoRow.holds Tryz.pinned (OpenSpec.upto vaultPlaysSpec)

/-- 'parchmentlaw23.VaultNone', WHERE WHAT IT READS IS OF BULK AT MOST 1048576: true; the input reads as it did. -/
def vaultNoneUptoRow : OpenClaim := { program := "ythlfffbcligocaagreat", sum := "702c9af6547a033f61439ab98aeafdfcb42645112cf0b9a2a127614ecdbbdc3e", func := "parchment/parchmentlaw23.VaultNone", spec := "vaultNone", inPlace := ["internal/abi.NoEscape", "internal/bytealg.MakeNoZero", "slices.overlaps[int]"], unfollowed := true, recurses := true, plainKeys := false, apart := false, narrowed := true }
def VaultNoneUptoSaid : Prop := vaultNoneUptoRow.holds Tryz.pinned (OpenSpec.upto vaultNoneSpec)

/-- 'parchmentlaw23.VaultRoots', WHERE WHAT IT READS IS OF BULK AT MOST 1048576: true; the input reads as it did. -/
def vaultRootsUptoRow : OpenClaim := { program := "ythlfffbcligocaagreat", sum := "702c9af6547a033f61439ab98aeafdfcb42645112cf0b9a2a127614ecdbbdc3e", func := "parchment/parchmentlaw23.VaultRoots", spec := "vaultRoots", inPlace := ["internal/abi.NoEscape", "internal/bytealg.MakeNoZero", "slices.overlaps[int]"], unfollowed := true, recurses := true, plainKeys := false, apart := false, narrowed := true }
def VaultRootsUptoSaid : Prop := vaultRootsUptoRow.holds Tryz.pinned (OpenSpec.upto vaultRootsSpec)

/-- 'parchmentlaw23.VaultFalls', WHERE WHAT IT READS IS OF BULK AT MOST 1048576: true; the input reads as it did. -/
def vaultFallsUptoRow : OpenClaim := { program := "ythlfffbcligocaagreat", sum := "702c9af6547a033f61439ab98aeafdfcb42645112cf0b9a2a127614ecdbbdc3e", func := "parchment/parchmentlaw23.VaultFalls", spec := "vaultFalls", inPlace := ["internal/abi.NoEscape", "internal/bytealg.MakeNoZero", "slices.overlaps[int]"], unfollowed := true, recurses := true, plainKeys := false, apart := false, narrowed := true }
def VaultFallsUptoSaid : Prop := vaultFallsUptoRow.holds Tryz.pinned (OpenSpec.upto vaultFallsSpec)

end Rows
end Go.Proofs.YthlfffbcligocaaGreat
