/-
  NARROWER THAN 'FOR EVERY INPUT', by the rows' own cells (each row's printed sentence says how): ValueChecks: loops · ValueBytes: loops · ValueOrders: loops.
  DERIVED. THE GIVEN ROWS OF THIS SEAT. 6 by the template 'for every input the law returns true; each argument reads behind the call as it read before'; 0 by the template 'total and deterministic' (their statements: YtcoiejmlpinpbaaTotals.lean).
  GIVEN WITH THE SEED: the statements are not yours to turn. If you find one false, say at which input.
  Laid BY PROGRAM, IN A SANDBOX (cutbox-rows.mjs): the forced cells as the released guide's own fill.sh prints them over the translation b6ddde6c54445088… (all of the seat's roots in one cut). By AI agents, Wed Nov 11 2026. No macro, syntax, notation, axiom, sorry.
-/
import Derived.Test.YtcoiejmlpinpbaaChecked
import GoSem.Claim
import GoSem.ClaimJoined
import GoSem.ClaimMapViews
import Derived.JoinedTies
import Derived.KernelRfl
namespace Go.Proofs.Ytcoiejmlpinpbaa
/- THE CELL 'sum', in the pinned program and in every row, IS THE sha256 OF THE DUMP (.gsa) THAT YtcoiejmlpinpbaaProg.lean LOADS. Nothing in Lean hashes anything: it is a label: what it is worth is what the hold of that sum in a sandbox is worth. -/
noncomputable def Try.pinned : Pinned := { name := "ytcoiejmlpinpbaa", sum := "b6ddde6c54445088e18501d4954c88e48b7081d871beac78fb0e4e614b2de00a", checked := Try.checked }
namespace Rows
def none {H : Type} : Left H := { results := [], args := [] }

/-- 'parchmentlaw10.BtreeSpans': WHATEVER THE INPUT: true; the input reads as it did. -/
def btreeSpansSpec : ChangeSpec := { name := "btreeSpans", fn := fun _ => fun
  | [d1, d2, d3] => { results := [.lit (.bool true)], args := [d1, d2, d3] }
  | _ => none }
def btreeSpansRow : OpenClaim := { program := "ytcoiejmlpinpbaa", sum := "b6ddde6c54445088e18501d4954c88e48b7081d871beac78fb0e4e614b2de00a", func := "parchment/parchmentlaw10.BtreeSpans", spec := "btreeSpans", inPlace := ["slices.overlaps[string]", "slices.overlaps[*parchment/btree.node]"], unfollowed := true, recurses := true, apart := false }
def BtreeSpansSaid : Prop := btreeSpansRow.holds Try.pinned (OpenSpec.ofChange btreeSpansSpec)

/-- ITS FALSE NEIGHBOUR: 'it returns false'. Refute it at one input. -/
def btreeSpansWrong : ChangeSpec := { name := "btreeSpans", fn := fun _ => fun
  | [d1, d2, d3] => { results := [.lit (.bool false)], args := [d1, d2, d3] }
  | _ => none }
def BtreeSpansWrongFalsely : Prop := btreeSpansRow.holds Try.pinned (OpenSpec.ofChange btreeSpansWrong)

/-- 'parchmentlaw10.BtreeNone': WHATEVER THE INPUT: true; the input reads as it did. -/
def btreeNoneSpec : ChangeSpec := { name := "btreeNone", fn := fun _ => fun
  | [d1, d2] => { results := [.lit (.bool true)], args := [d1, d2] }
  | _ => none }
def btreeNoneRow : OpenClaim := { program := "ytcoiejmlpinpbaa", sum := "b6ddde6c54445088e18501d4954c88e48b7081d871beac78fb0e4e614b2de00a", func := "parchment/parchmentlaw10.BtreeNone", spec := "btreeNone", inPlace := ["slices.overlaps[string]", "slices.overlaps[*parchment/btree.node]"], unfollowed := true, recurses := true, apart := false }
def BtreeNoneSaid : Prop := btreeNoneRow.holds Try.pinned (OpenSpec.ofChange btreeNoneSpec)

/-- ITS FALSE NEIGHBOUR: 'it returns false'. Refute it at one input. -/
def btreeNoneWrong : ChangeSpec := { name := "btreeNone", fn := fun _ => fun
  | [d1, d2] => { results := [.lit (.bool false)], args := [d1, d2] }
  | _ => none }
def BtreeNoneWrongFalsely : Prop := btreeNoneRow.holds Try.pinned (OpenSpec.ofChange btreeNoneWrong)

/-- 'parchmentlaw03.ValueChecks': WHATEVER THE INPUT: true; the input reads as it did. -/
def valueChecksSpec : ChangeSpec := { name := "valueChecks", fn := fun _ => fun
  | [d] => { results := [.lit (.bool true)], args := [d] }
  | _ => none }
def valueChecksRow : OpenClaim := { program := "ytcoiejmlpinpbaa", sum := "b6ddde6c54445088e18501d4954c88e48b7081d871beac78fb0e4e614b2de00a", func := "parchment/parchmentlaw03.ValueChecks", spec := "valueChecks", inPlace := ["internal/bytealg.abigen_runtime_cmpstring", "slices.overlaps[parchment/value.field]"], unfollowed := true, recurses := true, loops := true, apart := false }
def ValueChecksSaid : Prop := valueChecksRow.holds Try.pinned (OpenSpec.ofChange valueChecksSpec)

/-- ITS FALSE NEIGHBOUR: 'it returns false'. Refute it at one input. -/
def valueChecksWrong : ChangeSpec := { name := "valueChecks", fn := fun _ => fun
  | [d] => { results := [.lit (.bool false)], args := [d] }
  | _ => none }
def ValueChecksWrongFalsely : Prop := valueChecksRow.holds Try.pinned (OpenSpec.ofChange valueChecksWrong)

/-- 'parchmentlaw03.ValueBytes': WHATEVER THE INPUT: true; the input reads as it did. -/
def valueBytesSpec : ChangeSpec := { name := "valueBytes", fn := fun _ => fun
  | [d] => { results := [.lit (.bool true)], args := [d] }
  | _ => none }
def valueBytesRow : OpenClaim := { program := "ytcoiejmlpinpbaa", sum := "b6ddde6c54445088e18501d4954c88e48b7081d871beac78fb0e4e614b2de00a", func := "parchment/parchmentlaw03.ValueBytes", spec := "valueBytes", inPlace := ["internal/bytealg.abigen_runtime_cmpstring", "slices.overlaps[parchment/value.field]"], unfollowed := true, recurses := true, loops := true, apart := false }
def ValueBytesSaid : Prop := valueBytesRow.holds Try.pinned (OpenSpec.ofChange valueBytesSpec)

/-- ITS FALSE NEIGHBOUR: 'it returns false'. Refute it at one input. -/
def valueBytesWrong : ChangeSpec := { name := "valueBytes", fn := fun _ => fun
  | [d] => { results := [.lit (.bool false)], args := [d] }
  | _ => none }
def ValueBytesWrongFalsely : Prop := valueBytesRow.holds Try.pinned (OpenSpec.ofChange valueBytesWrong)

/-- 'parchmentlaw03.ValueReads': WHATEVER THE INPUT: true; the input reads as it did. -/
def valueReadsSpec : ChangeSpec := { name := "valueReads", fn := fun _ => fun
  | [d] => { results := [.lit (.bool true)], args := [d] }
  | _ => none }
def valueReadsRow : OpenClaim := { program := "ytcoiejmlpinpbaa", sum := "b6ddde6c54445088e18501d4954c88e48b7081d871beac78fb0e4e614b2de00a", func := "parchment/parchmentlaw03.ValueReads", spec := "valueReads", inPlace := ["internal/bytealg.abigen_runtime_cmpstring", "slices.overlaps[parchment/value.field]"], unfollowed := true, recurses := true, apart := false }
def ValueReadsSaid : Prop := valueReadsRow.holds Try.pinned (OpenSpec.ofChange valueReadsSpec)

/-- ITS FALSE NEIGHBOUR: 'it returns false'. Refute it at one input. -/
def valueReadsWrong : ChangeSpec := { name := "valueReads", fn := fun _ => fun
  | [d] => { results := [.lit (.bool false)], args := [d] }
  | _ => none }
def ValueReadsWrongFalsely : Prop := valueReadsRow.holds Try.pinned (OpenSpec.ofChange valueReadsWrong)

/-- 'parchmentlaw03.ValueOrders': WHATEVER THE INPUT: true; the input reads as it did. -/
def valueOrdersSpec : ChangeSpec := { name := "valueOrders", fn := fun _ => fun
  | [d1, d2, d3] => { results := [.lit (.bool true)], args := [d1, d2, d3] }
  | _ => none }
def valueOrdersRow : OpenClaim := { program := "ytcoiejmlpinpbaa", sum := "b6ddde6c54445088e18501d4954c88e48b7081d871beac78fb0e4e614b2de00a", func := "parchment/parchmentlaw03.ValueOrders", spec := "valueOrders", inPlace := ["internal/bytealg.abigen_runtime_cmpstring", "slices.overlaps[parchment/value.field]"], unfollowed := true, recurses := true, loops := true, apart := false }
def ValueOrdersSaid : Prop := valueOrdersRow.holds Try.pinned (OpenSpec.ofChange valueOrdersSpec)

/-- ITS FALSE NEIGHBOUR: 'it returns false'. Refute it at one input. -/
def valueOrdersWrong : ChangeSpec := { name := "valueOrders", fn := fun _ => fun
  | [d1, d2, d3] => { results := [.lit (.bool false)], args := [d1, d2, d3] }
  | _ => none }
def ValueOrdersWrongFalsely : Prop := valueOrdersRow.holds Try.pinned (OpenSpec.ofChange valueOrdersWrong)

/- THE SECOND FORM. 'bulk': how many values and letters a reading holds, each counted each time it is reached (what is shared counts as often as it is met; a slice's spare places count too). A statement '..UptoSaid' is the law's where the arguments, and the package variables that the reading takes, are together of bulk at most 1048576: NARROWER than '..Said'. Prove '..Said' where nothing that the law and all that it calls make is longer than what came in: it says more and counts as full. Else prove '..UptoSaid'. A law counts once. -/
mutual
def uptoBulk {H : Type} : DataW H → Nat
  | .lit (.string bytes) => bytes.length + 1
  | .lit _ => 1
  | .nil => 1
  | .ptr d => uptoBulk d + 1
  | .slice elems spare => uptoBulkAll elems + uptoBulkAll spare + 1
  | .agg parts => uptoBulkAll parts + 1
  | .iface _ d => uptoBulk d + 1
  | .map entries => uptoBulkEntries entries + 1
  | .held _ => 1
def uptoBulkAll {H : Type} : List (DataW H) → Nat
  | [] => 0
  | d :: r => uptoBulk d + uptoBulkAll r
def uptoBulkEntries {H : Type} : List (Lit × DataW H) → Nat
  | [] => 0
  | x :: r => uptoBulkEntry x + uptoBulkEntries r
def uptoBulkEntry {H : Type} : Lit × DataW H → Nat
  | (.string bytes, d) => bytes.length + uptoBulk d + 1
  | (_, d) => uptoBulk d + 1
 end
def uptoSmall : (H : Type) → List (DataW H) → Bool := fun _ ds => decide (uptoBulkAll ds ≤ 1048576)
def OpenSpec.upto (s : _root_.Go.ChangeSpec) : _root_.Go.OpenSpec := { _root_.Go.OpenSpec.ofChange s with cond := some uptoSmall }

/-- 'parchmentlaw10.BtreeSpans', WHERE WHAT IT READS IS OF BULK AT MOST 1048576: true; the input reads as it did. -/
def btreeSpansUptoRow : OpenClaim := { program := "ytcoiejmlpinpbaa", sum := "b6ddde6c54445088e18501d4954c88e48b7081d871beac78fb0e4e614b2de00a", func := "parchment/parchmentlaw10.BtreeSpans", spec := "btreeSpans", inPlace := ["slices.overlaps[string]", "slices.overlaps[*parchment/btree.node]"], unfollowed := true, recurses := true, apart := false, narrowed := true }
def BtreeSpansUptoSaid : Prop := btreeSpansUptoRow.holds Try.pinned (OpenSpec.upto btreeSpansSpec)

/-- 'parchmentlaw10.BtreeNone', WHERE WHAT IT READS IS OF BULK AT MOST 1048576: true; the input reads as it did. -/
def btreeNoneUptoRow : OpenClaim := { program := "ytcoiejmlpinpbaa", sum := "b6ddde6c54445088e18501d4954c88e48b7081d871beac78fb0e4e614b2de00a", func := "parchment/parchmentlaw10.BtreeNone", spec := "btreeNone", inPlace := ["slices.overlaps[string]", "slices.overlaps[*parchment/btree.node]"], unfollowed := true, recurses := true, apart := false, narrowed := true }
def BtreeNoneUptoSaid : Prop := btreeNoneUptoRow.holds Try.pinned (OpenSpec.upto btreeNoneSpec)

/-- 'parchmentlaw03.ValueChecks', WHERE WHAT IT READS IS OF BULK AT MOST 1048576: true; the input reads as it did. -/
def valueChecksUptoRow : OpenClaim := { program := "ytcoiejmlpinpbaa", sum := "b6ddde6c54445088e18501d4954c88e48b7081d871beac78fb0e4e614b2de00a", func := "parchment/parchmentlaw03.ValueChecks", spec := "valueChecks", inPlace := ["internal/bytealg.abigen_runtime_cmpstring", "slices.overlaps[parchment/value.field]"], unfollowed := true, recurses := true, loops := true, apart := false, narrowed := true }
def ValueChecksUptoSaid : Prop := valueChecksUptoRow.holds Try.pinned (OpenSpec.upto valueChecksSpec)

/-- 'parchmentlaw03.ValueBytes', WHERE WHAT IT READS IS OF BULK AT MOST 1048576: true; the input reads as it did. -/
def valueBytesUptoRow : OpenClaim := { program := "ytcoiejmlpinpbaa", sum := "b6ddde6c54445088e18501d4954c88e48b7081d871beac78fb0e4e614b2de00a", func := "parchment/parchmentlaw03.ValueBytes", spec := "valueBytes", inPlace := ["internal/bytealg.abigen_runtime_cmpstring", "slices.overlaps[parchment/value.field]"], unfollowed := true, recurses := true, loops := true, apart := false, narrowed := true }
def ValueBytesUptoSaid : Prop := valueBytesUptoRow.holds Try.pinned (OpenSpec.upto valueBytesSpec)

/-- 'parchmentlaw03.ValueReads', WHERE WHAT IT READS IS OF BULK AT MOST 1048576: true; the input reads as it did. -/
def valueReadsUptoRow : OpenClaim := { program := "ytcoiejmlpinpbaa", sum := "b6ddde6c54445088e18501d4954c88e48b7081d871beac78fb0e4e614b2de00a", func := "parchment/parchmentlaw03.ValueReads", spec := "valueReads", inPlace := ["internal/bytealg.abigen_runtime_cmpstring", "slices.overlaps[parchment/value.field]"], unfollowed := true, recurses := true, apart := false, narrowed := true }
def ValueReadsUptoSaid : Prop := valueReadsUptoRow.holds Try.pinned (OpenSpec.upto valueReadsSpec)

/-- 'parchmentlaw03.ValueOrders', WHERE WHAT IT READS IS OF BULK AT MOST 1048576: true; the input reads as it did. -/
def valueOrdersUptoRow : OpenClaim := { program := "ytcoiejmlpinpbaa", sum := "b6ddde6c54445088e18501d4954c88e48b7081d871beac78fb0e4e614b2de00a", func := "parchment/parchmentlaw03.ValueOrders", spec := "valueOrders", inPlace := ["internal/bytealg.abigen_runtime_cmpstring", "slices.overlaps[parchment/value.field]"], unfollowed := true, recurses := true, loops := true, apart := false, narrowed := true }
def ValueOrdersUptoSaid : Prop := valueOrdersUptoRow.holds Try.pinned (OpenSpec.upto valueOrdersSpec)

end Rows
end Go.Proofs.Ytcoiejmlpinpbaa
