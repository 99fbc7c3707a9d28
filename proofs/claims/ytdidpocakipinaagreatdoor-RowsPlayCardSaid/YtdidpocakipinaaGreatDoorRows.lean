/-
  NARROWER THAN 'FOR EVERY INPUT', by the rows' own cells (each row's printed sentence says how): RowsOwn: loops, laid · RowsLater: loops, laid · RowsNone: laid · RowsPlay: loops, laid.
  DERIVED. THE GIVEN ROWS OF THIS SEAT. 4 by the template 'for every input the law returns true; each argument reads behind the call as it read before'; 0 by the template 'total and deterministic' (their statements: YtdidpocakipinaaGreatDoorTotals.lean).
  GIVEN WITH THE SEED: the statements are not yours to turn. If you find one false, say at which input.
  Laid BY PROGRAM, IN A SANDBOX (cutbox-rows.mjs): the forced cells as the released guide's own fill.sh prints them over the translation d721ad09d869383e… (all of the seat's roots in one cut). By AI agents, Wed Nov 11 2026. No macro, syntax, notation, axiom, sorry.
-/
import Derived.Test.YtdidpocakipinaaGreatDoorChecked
import GoSem.PinnedTables
import GoSem.Claim
import GoSem.ClaimJoined
import GoSem.ClaimMapViews
import Derived.JoinedTies
import Derived.KernelRfl
namespace Go.Proofs.YtdidpocakipinaaGreatDoor
/- THE CELL 'sum', in the pinned program and in every row, IS THE sha256 OF THE DUMP (.gsa) THAT YtdidpocakipinaaGreatDoorProg.lean LOADS. Nothing in Lean hashes anything: it is a label: what it is worth is what the hold of that sum in a sandbox is worth. -/
noncomputable def Tryz.pinned : Pinned := { name := "ytdidpocakipinaagreatdoor", sum := "d721ad09d869383e3b8127729afee1979e858d81a66ff507f80be1cdbeca0c2d", checked := Tryz.checked }
namespace Rows
def none {H : Type} : Left H := { results := [], args := [] }

/- WHAT THE LISTED PACKAGE-LEVEL VARIABLES READ AS WHEN THE CALL BEGINS. Each datum BY PROGRAM (the guide's laid-datum.mjs) off the statement by which the dump's own 'gosem.cut.vars' lays the variable. In a bare row this is a premise. The card (YtdidpocakipinaaGreatDoorCards.lean) ties it to the program's text. -/
def laid_unicode_utf8_acceptRanges {H : Type} : DataW H := .agg [.agg [.lit (.int .u8 128), .lit (.int .u8 191)], .agg [.lit (.int .u8 160), .lit (.int .u8 191)], .agg [.lit (.int .u8 128), .lit (.int .u8 159)], .agg [.lit (.int .u8 144), .lit (.int .u8 191)], .agg [.lit (.int .u8 128), .lit (.int .u8 143)], .agg [.lit (.int .u8 0), .lit (.int .u8 0)], .agg [.lit (.int .u8 0), .lit (.int .u8 0)], .agg [.lit (.int .u8 0), .lit (.int .u8 0)], .agg [.lit (.int .u8 0), .lit (.int .u8 0)], .agg [.lit (.int .u8 0), .lit (.int .u8 0)], .agg [.lit (.int .u8 0), .lit (.int .u8 0)], .agg [.lit (.int .u8 0), .lit (.int .u8 0)], .agg [.lit (.int .u8 0), .lit (.int .u8 0)], .agg [.lit (.int .u8 0), .lit (.int .u8 0)], .agg [.lit (.int .u8 0), .lit (.int .u8 0)], .agg [.lit (.int .u8 0), .lit (.int .u8 0)]]
/-- One of Go's own tables, pinned by name: the form's constant. -/
def laid_unicode_utf8_first : DataW Unit := Go.Pinned.utf8First

/-- 'parchmentlaw14.RowsOwn': WHATEVER THE INPUT: true; the input reads as it did. -/
def rowsOwnSpec : ChangeSpec := { name := "rowsOwn", fn := fun _ => fun
  | [d1, d2] => { results := [.lit (.bool true)], args := [d1, d2] }
  | _ => none }
def rowsOwnRow : OpenClaim := { program := "ytdidpocakipinaagreatdoor", sum := "d721ad09d869383e3b8127729afee1979e858d81a66ff507f80be1cdbeca0c2d", func := "parchment/parchmentlaw14.RowsOwn", spec := "rowsOwn", inPlace := ["internal/bytealg.abigen_runtime_cmpstring", "slices.overlaps[parchment/value.field]", "slices.overlaps[string]", "slices.overlaps[*parchment/btree.node]", "internal/bytealg.CountString", "internal/bytealg.IndexByteString", "internal/bytealg.IndexString", "internal/abi.NoEscape", "internal/bytealg.MakeNoZero"], unfollowed := true, recurses := true, named := ["internal/bytealg.MaxLen", "unicode/utf8.first", "unicode/utf8.acceptRanges"], loops := true, apart := false, laid := [("unicode/utf8.acceptRanges", laid_unicode_utf8_acceptRanges), ("unicode/utf8.first", laid_unicode_utf8_first)] }
def RowsOwnSaid : Prop := rowsOwnRow.holds Tryz.pinned (OpenSpec.ofChange rowsOwnSpec)

/-- ITS FALSE NEIGHBOUR: 'it returns false'. Refute it at one input. -/
def rowsOwnWrong : ChangeSpec := { name := "rowsOwn", fn := fun _ => fun
  | [d1, d2] => { results := [.lit (.bool false)], args := [d1, d2] }
  | _ => none }
def RowsOwnWrongFalsely : Prop := rowsOwnRow.holds Tryz.pinned (OpenSpec.ofChange rowsOwnWrong)

/-- 'parchmentlaw14.RowsLater': WHATEVER THE INPUT: true; the input reads as it did. -/
def rowsLaterSpec : ChangeSpec := { name := "rowsLater", fn := fun _ => fun
  | [d1, d2, d3] => { results := [.lit (.bool true)], args := [d1, d2, d3] }
  | _ => none }
def rowsLaterRow : OpenClaim := { program := "ytdidpocakipinaagreatdoor", sum := "d721ad09d869383e3b8127729afee1979e858d81a66ff507f80be1cdbeca0c2d", func := "parchment/parchmentlaw14.RowsLater", spec := "rowsLater", inPlace := ["internal/bytealg.abigen_runtime_cmpstring", "slices.overlaps[parchment/value.field]", "slices.overlaps[string]", "slices.overlaps[*parchment/btree.node]", "internal/bytealg.CountString", "internal/bytealg.IndexByteString", "internal/bytealg.IndexString", "internal/abi.NoEscape", "internal/bytealg.MakeNoZero"], unfollowed := true, recurses := true, named := ["internal/bytealg.MaxLen", "unicode/utf8.first", "unicode/utf8.acceptRanges"], loops := true, apart := false, laid := [("unicode/utf8.acceptRanges", laid_unicode_utf8_acceptRanges), ("unicode/utf8.first", laid_unicode_utf8_first)] }
def RowsLaterSaid : Prop := rowsLaterRow.holds Tryz.pinned (OpenSpec.ofChange rowsLaterSpec)

/-- ITS FALSE NEIGHBOUR: 'it returns false'. Refute it at one input. -/
def rowsLaterWrong : ChangeSpec := { name := "rowsLater", fn := fun _ => fun
  | [d1, d2, d3] => { results := [.lit (.bool false)], args := [d1, d2, d3] }
  | _ => none }
def RowsLaterWrongFalsely : Prop := rowsLaterRow.holds Tryz.pinned (OpenSpec.ofChange rowsLaterWrong)

/-- 'parchmentlaw14.RowsNone': WHATEVER THE INPUT: true; the input reads as it did. -/
def rowsNoneSpec : ChangeSpec := { name := "rowsNone", fn := fun _ => fun
  | [d1, d2] => { results := [.lit (.bool true)], args := [d1, d2] }
  | _ => none }
def rowsNoneRow : OpenClaim := { program := "ytdidpocakipinaagreatdoor", sum := "d721ad09d869383e3b8127729afee1979e858d81a66ff507f80be1cdbeca0c2d", func := "parchment/parchmentlaw14.RowsNone", spec := "rowsNone", inPlace := ["internal/bytealg.abigen_runtime_cmpstring", "slices.overlaps[parchment/value.field]", "slices.overlaps[string]", "slices.overlaps[*parchment/btree.node]", "internal/bytealg.CountString", "internal/bytealg.IndexByteString", "internal/bytealg.IndexString", "internal/abi.NoEscape", "internal/bytealg.MakeNoZero"], unfollowed := true, recurses := true, named := ["internal/bytealg.MaxLen", "unicode/utf8.first", "unicode/utf8.acceptRanges"], apart := false, laid := [("unicode/utf8.acceptRanges", laid_unicode_utf8_acceptRanges), ("unicode/utf8.first", laid_unicode_utf8_first)] }
def RowsNoneSaid : Prop := rowsNoneRow.holds Tryz.pinned (OpenSpec.ofChange rowsNoneSpec)

/-- ITS FALSE NEIGHBOUR: 'it returns false'. Refute it at one input. -/
def rowsNoneWrong : ChangeSpec := { name := "rowsNone", fn := fun _ => fun
  | [d1, d2] => { results := [.lit (.bool false)], args := [d1, d2] }
  | _ => none }
def RowsNoneWrongFalsely : Prop := rowsNoneRow.holds Tryz.pinned (OpenSpec.ofChange rowsNoneWrong)

/-- 'parchmentlaw14.RowsPlay': WHATEVER THE INPUT: true; the input reads as it did. -/
def rowsPlaySpec : ChangeSpec := { name := "rowsPlay", fn := fun _ => fun
  | [d1, d2, d3] => { results := [.lit (.bool true)], args := [d1, d2, d3] }
  | _ => none }
def rowsPlayRow : OpenClaim := { program := "ytdidpocakipinaagreatdoor", sum := "d721ad09d869383e3b8127729afee1979e858d81a66ff507f80be1cdbeca0c2d", func := "parchment/parchmentlaw14.RowsPlay", spec := "rowsPlay", inPlace := ["slices.overlaps[string]", "slices.overlaps[*parchment/btree.node]", "internal/bytealg.CountString", "internal/bytealg.IndexByteString", "internal/bytealg.IndexString", "internal/abi.NoEscape", "internal/bytealg.MakeNoZero", "internal/bytealg.abigen_runtime_cmpstring", "slices.overlaps[parchment/value.field]"], unfollowed := true, recurses := true, named := ["internal/bytealg.MaxLen", "unicode/utf8.first", "unicode/utf8.acceptRanges"], loops := true, apart := false, laid := [("unicode/utf8.acceptRanges", laid_unicode_utf8_acceptRanges), ("unicode/utf8.first", laid_unicode_utf8_first)] }
def RowsPlaySaid : Prop := rowsPlayRow.holds Tryz.pinned (OpenSpec.ofChange rowsPlaySpec)

/-- ITS FALSE NEIGHBOUR: 'it returns false'. Refute it at one input. -/
def rowsPlayWrong : ChangeSpec := { name := "rowsPlay", fn := fun _ => fun
  | [d1, d2, d3] => { results := [.lit (.bool false)], args := [d1, d2, d3] }
  | _ => none }
def RowsPlayWrongFalsely : Prop := rowsPlayRow.holds Tryz.pinned (OpenSpec.ofChange rowsPlayWrong)

/- THE SECOND FORM. 'bulk': how many values and letters a reading holds, each counted each time it is reached (what is shared counts as often as it is met; a slice's spare places count too). A statement '..UptoSaid' is the law's where the arguments, and the package variables that the reading takes, are together of bulk at most 1048576: NARROWER than '..Said'. Prove '..Said' where nothing that the law and all that it calls make is longer than what came in: it says more and counts as full. Else prove '..UptoSaid'. A law counts once. -/
mutual
def uptoBulk {H : Type} : DataW H → Nat
  | .lit (.string bytes) => bytes.length + 1
  | .lit _ => 1
  | .nil => 1
  | .ptr d => uptoBulk d + 1
  | .slice elems spare => uptoBulkAll elems + uptoBulkAll spare + 1
  | .agg parts => uptoBulkAll parts + 1
  | .iface _ d => uptoBulk d + 1
  | .map entries => uptoBulkEntries entries + 1
  | .held _ => 1
def uptoBulkAll {H : Type} : List (DataW H) → Nat
  | [] => 0
  | d :: r => uptoBulk d + uptoBulkAll r
def uptoBulkEntries {H : Type} : List (Lit × DataW H) → Nat
  | [] => 0
  | x :: r => uptoBulkEntry x + uptoBulkEntries r
def uptoBulkEntry {H : Type} : Lit × DataW H → Nat
  | (.string bytes, d) => bytes.length + uptoBulk d + 1
  | (_, d) => uptoBulk d + 1
 end
def uptoSmall : (H : Type) → List (DataW H) → Bool := fun _ ds => decide (uptoBulkAll ds ≤ 1048576)
def OpenSpec.upto (s : _root_.Go.ChangeSpec) : _root_.Go.OpenSpec := { _root_.Go.OpenSpec.ofChange s with cond := some uptoSmall }

/-- 'parchmentlaw14.RowsOwn', WHERE WHAT IT READS IS OF BULK AT MOST 1048576: true; the input reads as it did. -/
def rowsOwnUptoRow : OpenClaim := { program := "ytdidpocakipinaagreatdoor", sum := "d721ad09d869383e3b8127729afee1979e858d81a66ff507f80be1cdbeca0c2d", func := "parchment/parchmentlaw14.RowsOwn", spec := "rowsOwn", inPlace := ["internal/bytealg.abigen_runtime_cmpstring", "slices.overlaps[parchment/value.field]", "slices.overlaps[string]", "slices.overlaps[*parchment/btree.node]", "internal/bytealg.CountString", "internal/bytealg.IndexByteString", "internal/bytealg.IndexString", "internal/abi.NoEscape", "internal/bytealg.MakeNoZero"], unfollowed := true, recurses := true, named := ["internal/bytealg.MaxLen", "unicode/utf8.first", "unicode/utf8.acceptRanges"], loops := true, apart := false, laid := [("unicode/utf8.acceptRanges", laid_unicode_utf8_acceptRanges), ("unicode/utf8.first", laid_unicode_utf8_first)], narrowed := true }
def RowsOwnUptoSaid : Prop := rowsOwnUptoRow.holds Tryz.pinned (OpenSpec.upto rowsOwnSpec)

/-- 'parchmentlaw14.RowsLater', WHERE WHAT IT READS IS OF BULK AT MOST 1048576: true; the input reads as it did. -/
def rowsLaterUptoRow : OpenClaim := { program := "ytdidpocakipinaagreatdoor", sum := "d721ad09d869383e3b8127729afee1979e858d81a66ff507f80be1cdbeca0c2d", func := "parchment/parchmentlaw14.RowsLater", spec := "rowsLater", inPlace := ["internal/bytealg.abigen_runtime_cmpstring", "slices.overlaps[parchment/value.field]", "slices.overlaps[string]", "slices.overlaps[*parchment/btree.node]", "internal/bytealg.CountString", "internal/bytealg.IndexByteString", "internal/bytealg.IndexString", "internal/abi.NoEscape", "internal/bytealg.MakeNoZero"], unfollowed := true, recurses := true, named := ["internal/bytealg.MaxLen", "unicode/utf8.first", "unicode/utf8.acceptRanges"], loops := true, apart := false, laid := [("unicode/utf8.acceptRanges", laid_unicode_utf8_acceptRanges), ("unicode/utf8.first", laid_unicode_utf8_first)], narrowed := true }
def RowsLaterUptoSaid : Prop := rowsLaterUptoRow.holds Tryz.pinned (OpenSpec.upto rowsLaterSpec)

/-- 'parchmentlaw14.RowsNone', WHERE WHAT IT READS IS OF BULK AT MOST 1048576: true; the input reads as it did. -/
def rowsNoneUptoRow : OpenClaim := { program := "ytdidpocakipinaagreatdoor", sum := "d721ad09d869383e3b8127729afee1979e858d81a66ff507f80be1cdbeca0c2d", func := "parchment/parchmentlaw14.RowsNone", spec := "rowsNone", inPlace := ["internal/bytealg.abigen_runtime_cmpstring", "slices.overlaps[parchment/value.field]", "slices.overlaps[string]", "slices.overlaps[*parchment/btree.node]", "internal/bytealg.CountString", "internal/bytealg.IndexByteString", "internal/bytealg.IndexString", "internal/abi.NoEscape", "internal/bytealg.MakeNoZero"], unfollowed := true, recurses := true, named := ["internal/bytealg.MaxLen", "unicode/utf8.first", "unicode/utf8.acceptRanges"], apart := false, laid := [("unicode/utf8.acceptRanges", laid_unicode_utf8_acceptRanges), ("unicode/utf8.first", laid_unicode_utf8_first)], narrowed := true }
def RowsNoneUptoSaid : Prop := rowsNoneUptoRow.holds Tryz.pinned (OpenSpec.upto rowsNoneSpec)

/-- 'parchmentlaw14.RowsPlay', WHERE WHAT IT READS IS OF BULK AT MOST 1048576: true; the input reads as it did. -/
def rowsPlayUptoRow : OpenClaim := { program := "ytdidpocakipinaagreatdoor", sum := "d721ad09d869383e3b8127729afee1979e858d81a66ff507f80be1cdbeca0c2d", func := "parchment/parchmentlaw14.RowsPlay", spec := "rowsPlay", inPlace := ["slices.overlaps[string]", "slices.overlaps[*parchment/btree.node]", "internal/bytealg.CountString", "internal/bytealg.IndexByteString", "internal/bytealg.IndexString", "internal/abi.NoEscape", "internal/bytealg.MakeNoZero", "internal/bytealg.abigen_runtime_cmpstring", "slices.overlaps[parchment/value.field]"], unfollowed := true, recurses := true, named := ["internal/bytealg.MaxLen", "unicode/utf8.first", "unicode/utf8.acceptRanges"], loops := true, apart := false, laid := [("unicode/utf8.acceptRanges", laid_unicode_utf8_acceptRanges), ("unicode/utf8.first", laid_unicode_utf8_first)], narrowed := true }
def RowsPlayUptoSaid : Prop := rowsPlayUptoRow.holds Tryz.pinned (OpenSpec.upto rowsPlaySpec)

end Rows
end Go.Proofs.YtdidpocakipinaaGreatDoor
