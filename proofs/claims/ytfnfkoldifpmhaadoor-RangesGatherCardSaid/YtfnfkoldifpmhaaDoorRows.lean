/-
  NARROWER THAN 'FOR EVERY INPUT', by the rows' own cells (each row's printed sentence says how): RangesSound: laid · RangesHit: loops, laid · RangesWhole: loops, laid · RangesGather: loops, laid.
  DERIVED. THE GIVEN ROWS OF THIS SEAT. 4 by the template 'for every input the law returns true; each argument reads behind the call as it read before'; 0 by the template 'total and deterministic' (their statements: YtfnfkoldifpmhaaDoorTotals.lean).
  GIVEN WITH THE SEED: the statements are not yours to turn. If you find one false, say at which input.
  Laid BY PROGRAM, IN A SANDBOX (cutbox-rows.mjs): the forced cells as the released guide's own fill.sh prints them over the translation 3501e621109c383f… (all of the seat's roots in one cut). By AI agents, Wed Nov 11 2026. No macro, syntax, notation, axiom, sorry.
-/
import Derived.Test.YtfnfkoldifpmhaaDoorChecked
import GoSem.PinnedTables
import GoSem.Claim
import GoSem.ClaimJoined
import GoSem.ClaimMapViews
import Derived.JoinedTies
import Derived.KernelRfl
namespace Go.Proofs.YtfnfkoldifpmhaaDoor
/- THE CELL 'sum', in the pinned program and in every row, IS THE sha256 OF THE DUMP (.gsa) THAT YtfnfkoldifpmhaaDoorProg.lean LOADS. Nothing in Lean hashes anything: it is a label: what it is worth is what the hold of that sum in a sandbox is worth. -/
noncomputable def Tryd.pinned : Pinned := { name := "ytfnfkoldifpmhaadoor", sum := "3501e621109c383fb181acb1f560e17de9dc13bfa9996f1603acd2d38b80c68c", checked := Tryd.checked }
namespace Rows
def none {H : Type} : Left H := { results := [], args := [] }

/- WHAT THE LISTED PACKAGE-LEVEL VARIABLES READ AS WHEN THE CALL BEGINS. Each datum BY PROGRAM (the guide's laid-datum.mjs) off the statement by which the dump's own 'gosem.cut.vars' lays the variable. In a bare row this is a premise. The card (YtfnfkoldifpmhaaDoorCards.lean) ties it to the program's text. -/
def laid_unicode_utf8_acceptRanges {H : Type} : DataW H := .agg [.agg [.lit (.int .u8 128), .lit (.int .u8 191)], .agg [.lit (.int .u8 160), .lit (.int .u8 191)], .agg [.lit (.int .u8 128), .lit (.int .u8 159)], .agg [.lit (.int .u8 144), .lit (.int .u8 191)], .agg [.lit (.int .u8 128), .lit (.int .u8 143)], .agg [.lit (.int .u8 0), .lit (.int .u8 0)], .agg [.lit (.int .u8 0), .lit (.int .u8 0)], .agg [.lit (.int .u8 0), .lit (.int .u8 0)], .agg [.lit (.int .u8 0), .lit (.int .u8 0)], .agg [.lit (.int .u8 0), .lit (.int .u8 0)], .agg [.lit (.int .u8 0), .lit (.int .u8 0)], .agg [.lit (.int .u8 0), .lit (.int .u8 0)], .agg [.lit (.int .u8 0), .lit (.int .u8 0)], .agg [.lit (.int .u8 0), .lit (.int .u8 0)], .agg [.lit (.int .u8 0), .lit (.int .u8 0)], .agg [.lit (.int .u8 0), .lit (.int .u8 0)]]
/-- One of Go's own tables, pinned by name: the form's constant. -/
def laid_unicode_utf8_first : DataW Unit := Go.Pinned.utf8First

/-- 'parchmentlaw16.RangesSound': WHATEVER THE INPUT: true; the input reads as it did. -/
def rangesSoundSpec : ChangeSpec := { name := "rangesSound", fn := fun _ => fun
  | [d1, d2] => { results := [.lit (.bool true)], args := [d1, d2] }
  | _ => none }
def rangesSoundRow : OpenClaim := { program := "ytfnfkoldifpmhaadoor", sum := "3501e621109c383fb181acb1f560e17de9dc13bfa9996f1603acd2d38b80c68c", func := "parchment/parchmentlaw16.RangesSound", spec := "rangesSound", inPlace := ["internal/bytealg.abigen_runtime_cmpstring", "slices.overlaps[parchment/value.field]", "internal/bytealg.CountString", "internal/bytealg.IndexByteString", "internal/bytealg.IndexString", "internal/abi.NoEscape", "internal/bytealg.MakeNoZero"], unfollowed := true, recurses := true, named := ["internal/bytealg.MaxLen", "unicode/utf8.first", "unicode/utf8.acceptRanges"], apart := false, laid := [("unicode/utf8.acceptRanges", laid_unicode_utf8_acceptRanges), ("unicode/utf8.first", laid_unicode_utf8_first)] }
def RangesSoundSaid : Prop := rangesSoundRow.holds Tryd.pinned (OpenSpec.ofChange rangesSoundSpec)

/-- ITS FALSE NEIGHBOUR: 'it returns false'. Refute it at one input. -/
def rangesSoundWrong : ChangeSpec := { name := "rangesSound", fn := fun _ => fun
  | [d1, d2] => { results := [.lit (.bool false)], args := [d1, d2] }
  | _ => none }
def RangesSoundWrongFalsely : Prop := rangesSoundRow.holds Tryd.pinned (OpenSpec.ofChange rangesSoundWrong)

/-- 'parchmentlaw16.RangesHit': WHATEVER THE INPUT: true; the input reads as it did. -/
def rangesHitSpec : ChangeSpec := { name := "rangesHit", fn := fun _ => fun
  | [d1, d2] => { results := [.lit (.bool true)], args := [d1, d2] }
  | _ => none }
def rangesHitRow : OpenClaim := { program := "ytfnfkoldifpmhaadoor", sum := "3501e621109c383fb181acb1f560e17de9dc13bfa9996f1603acd2d38b80c68c", func := "parchment/parchmentlaw16.RangesHit", spec := "rangesHit", inPlace := ["internal/bytealg.abigen_runtime_cmpstring", "slices.overlaps[parchment/value.field]", "internal/bytealg.CountString", "internal/bytealg.IndexByteString", "internal/bytealg.IndexString", "internal/abi.NoEscape", "internal/bytealg.MakeNoZero"], unfollowed := true, recurses := true, named := ["internal/bytealg.MaxLen", "unicode/utf8.first", "unicode/utf8.acceptRanges"], loops := true, apart := false, laid := [("unicode/utf8.acceptRanges", laid_unicode_utf8_acceptRanges), ("unicode/utf8.first", laid_unicode_utf8_first)] }
def RangesHitSaid : Prop := rangesHitRow.holds Tryd.pinned (OpenSpec.ofChange rangesHitSpec)

/-- ITS FALSE NEIGHBOUR: 'it returns false'. Refute it at one input. -/
def rangesHitWrong : ChangeSpec := { name := "rangesHit", fn := fun _ => fun
  | [d1, d2] => { results := [.lit (.bool false)], args := [d1, d2] }
  | _ => none }
def RangesHitWrongFalsely : Prop := rangesHitRow.holds Tryd.pinned (OpenSpec.ofChange rangesHitWrong)

/-- 'parchmentlaw16.RangesWhole': WHATEVER THE INPUT: true; the input reads as it did. -/
def rangesWholeSpec : ChangeSpec := { name := "rangesWhole", fn := fun _ => fun
  | [d1, d2, d3] => { results := [.lit (.bool true)], args := [d1, d2, d3] }
  | _ => none }
def rangesWholeRow : OpenClaim := { program := "ytfnfkoldifpmhaadoor", sum := "3501e621109c383fb181acb1f560e17de9dc13bfa9996f1603acd2d38b80c68c", func := "parchment/parchmentlaw16.RangesWhole", spec := "rangesWhole", inPlace := ["internal/bytealg.abigen_runtime_cmpstring", "slices.overlaps[parchment/value.field]", "internal/bytealg.CountString", "internal/bytealg.IndexByteString", "internal/bytealg.IndexString", "internal/abi.NoEscape", "internal/bytealg.MakeNoZero"], unfollowed := true, recurses := true, named := ["internal/bytealg.MaxLen", "unicode/utf8.first", "unicode/utf8.acceptRanges"], loops := true, apart := false, laid := [("unicode/utf8.acceptRanges", laid_unicode_utf8_acceptRanges), ("unicode/utf8.first", laid_unicode_utf8_first)] }
def RangesWholeSaid : Prop := rangesWholeRow.holds Tryd.pinned (OpenSpec.ofChange rangesWholeSpec)

/-- ITS FALSE NEIGHBOUR: 'it returns false'. Refute it at one input. -/
def rangesWholeWrong : ChangeSpec := { name := "rangesWhole", fn := fun _ => fun
  | [d1, d2, d3] => { results := [.lit (.bool false)], args := [d1, d2, d3] }
  | _ => none }
def RangesWholeWrongFalsely : Prop := rangesWholeRow.holds Tryd.pinned (OpenSpec.ofChange rangesWholeWrong)

/-- 'parchmentlaw16.RangesGather': WHATEVER THE INPUT: true; the input reads as it did. -/
def rangesGatherSpec : ChangeSpec := { name := "rangesGather", fn := fun _ => fun
  | [d1, d2] => { results := [.lit (.bool true)], args := [d1, d2] }
  | _ => none }
def rangesGatherRow : OpenClaim := { program := "ytfnfkoldifpmhaadoor", sum := "3501e621109c383fb181acb1f560e17de9dc13bfa9996f1603acd2d38b80c68c", func := "parchment/parchmentlaw16.RangesGather", spec := "rangesGather", inPlace := ["internal/bytealg.abigen_runtime_cmpstring", "slices.overlaps[parchment/value.field]", "internal/bytealg.CountString", "internal/bytealg.IndexByteString", "internal/bytealg.IndexString", "internal/abi.NoEscape", "internal/bytealg.MakeNoZero"], unfollowed := true, recurses := true, named := ["internal/bytealg.MaxLen", "unicode/utf8.first", "unicode/utf8.acceptRanges"], loops := true, apart := false, laid := [("unicode/utf8.acceptRanges", laid_unicode_utf8_acceptRanges), ("unicode/utf8.first", laid_unicode_utf8_first)] }
def RangesGatherSaid : Prop := rangesGatherRow.holds Tryd.pinned (OpenSpec.ofChange rangesGatherSpec)

/-- ITS FALSE NEIGHBOUR: 'it returns false'. Refute it at one input. -/
def rangesGatherWrong : ChangeSpec := { name := "rangesGather", fn := fun _ => fun
  | [d1, d2] => { results := [.lit (.bool false)], args := [d1, d2] }
  | _ => none }
def RangesGatherWrongFalsely : Prop := rangesGatherRow.holds Tryd.pinned (OpenSpec.ofChange rangesGatherWrong)

/- THE SECOND FORM. 'bulk': how many values and letters a reading holds, each counted each time it is reached (what is shared counts as often as it is met; a slice's spare places count too). A statement '..UptoSaid' is the law's where the arguments, and the package variables that the reading takes, are together of bulk at most 1048576: NARROWER than '..Said'. Prove '..Said' where nothing that the law and all that it calls make is longer than what came in: it says more and counts as full. Else prove '..UptoSaid'. A law counts once. -/
mutual
def uptoBulk {H : Type} : DataW H → Nat
  | .lit (.string bytes) => bytes.length + 1
  | .lit _ => 1
  | .nil => 1
  | .ptr d => uptoBulk d + 1
  | .slice elems spare => uptoBulkAll elems + uptoBulkAll spare + 1
  | .agg parts => uptoBulkAll parts + 1
  | .iface _ d => uptoBulk d + 1
  | .map entries => uptoBulkEntries entries + 1
  | .held _ => 1
def uptoBulkAll {H : Type} : List (DataW H) → Nat
  | [] => 0
  | d :: r => uptoBulk d + uptoBulkAll r
def uptoBulkEntries {H : Type} : List (Lit × DataW H) → Nat
  | [] => 0
  | x :: r => uptoBulkEntry x + uptoBulkEntries r
def uptoBulkEntry {H : Type} : Lit × DataW H → Nat
  | (.string bytes, d) => bytes.length + uptoBulk d + 1
  | (_, d) => uptoBulk d + 1
 end
def uptoSmall : (H : Type) → List (DataW H) → Bool := fun _ ds => decide (uptoBulkAll ds ≤ 1048576)
def OpenSpec.upto (s : _root_.Go.ChangeSpec) : _root_.Go.OpenSpec := { _root_.Go.OpenSpec.ofChange s with cond := some uptoSmall }

/-- 'parchmentlaw16.RangesSound', WHERE WHAT IT READS IS OF BULK AT MOST 1048576: true; the input reads as it did. -/
def rangesSoundUptoRow : OpenClaim := { program := "ytfnfkoldifpmhaadoor", sum := "3501e621109c383fb181acb1f560e17de9dc13bfa9996f1603acd2d38b80c68c", func := "parchment/parchmentlaw16.RangesSound", spec := "rangesSound", inPlace := ["internal/bytealg.abigen_runtime_cmpstring", "slices.overlaps[parchment/value.field]", "internal/bytealg.CountString", "internal/bytealg.IndexByteString", "internal/bytealg.IndexString", "internal/abi.NoEscape", "internal/bytealg.MakeNoZero"], unfollowed := true, recurses := true, named := ["internal/bytealg.MaxLen", "unicode/utf8.first", "unicode/utf8.acceptRanges"], apart := false, laid := [("unicode/utf8.acceptRanges", laid_unicode_utf8_acceptRanges), ("unicode/utf8.first", laid_unicode_utf8_first)], narrowed := true }
def RangesSoundUptoSaid : Prop := rangesSoundUptoRow.holds Tryd.pinned (OpenSpec.upto rangesSoundSpec)

/-- 'parchmentlaw16.RangesHit', WHERE WHAT IT READS IS OF BULK AT MOST 1048576: true; the input reads as it did. -/
def rangesHitUptoRow : OpenClaim := { program := "ytfnfkoldifpmhaadoor", sum := "3501e621109c383fb181acb1f560e17de9dc13bfa9996f1603acd2d38b80c68c", func := "parchment/parchmentlaw16.RangesHit", spec := "rangesHit", inPlace := ["internal/bytealg.abigen_runtime_cmpstring", "slices.overlaps[parchment/value.field]", "internal/bytealg.CountString", "internal/bytealg.IndexByteString", "internal/bytealg.IndexString", "internal/abi.NoEscape", "internal/bytealg.MakeNoZero"], unfollowed := true, recurses := true, named := ["internal/bytealg.MaxLen", "unicode/utf8.first", "unicode/utf8.acceptRanges"], loops := true, apart := false, laid := [("unicode/utf8.acceptRanges", laid_unicode_utf8_acceptRanges), ("unicode/utf8.first", laid_unicode_utf8_first)], narrowed := true }
def RangesHitUptoSaid : Prop := rangesHitUptoRow.holds Tryd.pinned (OpenSpec.upto rangesHitSpec)

/-- 'parchmentlaw16.RangesWhole', WHERE WHAT IT READS IS OF BULK AT MOST 1048576: true; the input reads as it did. -/
def rangesWholeUptoRow : OpenClaim := { program := "ytfnfkoldifpmhaadoor", sum := "3501e621109c383fb181acb1f560e17de9dc13bfa9996f1603acd2d38b80c68c", func := "parchment/parchmentlaw16.RangesWhole", spec := "rangesWhole", inPlace := ["internal/bytealg.abigen_runtime_cmpstring", "slices.overlaps[parchment/value.field]", "internal/bytealg.CountString", "internal/bytealg.IndexByteString", "internal/bytealg.IndexString", "internal/abi.NoEscape", "internal/bytealg.MakeNoZero"], unfollowed := true, recurses := true, named := ["internal/bytealg.MaxLen", "unicode/utf8.first", "unicode/utf8.acceptRanges"], loops := true, apart := false, laid := [("unicode/utf8.acceptRanges", laid_unicode_utf8_acceptRanges), ("unicode/utf8.first", laid_unicode_utf8_first)], narrowed := true }
def RangesWholeUptoSaid : Prop := rangesWholeUptoRow.holds Tryd.pinned (OpenSpec.upto rangesWholeSpec)

/-- 'parchmentlaw16.RangesGather', WHERE WHAT IT READS IS OF BULK AT MOST 1048576: true; the input reads as it did. -/
def rangesGatherUptoRow : OpenClaim := { program := "ytfnfkoldifpmhaadoor", sum := "3501e621109c383fb181acb1f560e17de9dc13bfa9996f1603acd2d38b80c68c", func := "parchment/parchmentlaw16.RangesGather", spec := "rangesGather", inPlace := ["internal/bytealg.abigen_runtime_cmpstring", "slices.overlaps[parchment/value.field]", "internal/bytealg.CountString", "internal/bytealg.IndexByteString", "internal/bytealg.IndexString", "internal/abi.NoEscape", "internal/bytealg.MakeNoZero"], unfollowed := true, recurses := true, named := ["internal/bytealg.MaxLen", "unicode/utf8.first", "unicode/utf8.acceptRanges"], loops := true, apart := false, laid := [("unicode/utf8.acceptRanges", laid_unicode_utf8_acceptRanges), ("unicode/utf8.first", laid_unicode_utf8_first)], narrowed := true }
def RangesGatherUptoSaid : Prop := rangesGatherUptoRow.holds Tryd.pinned (OpenSpec.upto rangesGatherSpec)

end Rows
end Go.Proofs.YtfnfkoldifpmhaaDoor
