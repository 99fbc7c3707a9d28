/-
  DERIVED. GIVEN WITH THE SEED: THE CARDS: each row of YtcoiejmlpinpbaaDoorRows.lean that lists a variable, with what it lists TIED to the program's text (the seventh form; the later family's looks); each row that meets fmt, with fmt's text TOLD by the authors' own Lean function (tested against real Go, not proved from fmt's source: count such statements apart). THE CARD IS WHAT COUNTS. Prove the row's statement (the work); the ties are given (YtcoiejmlpinpbaaDoorTie.lean); close each card by the builder's one call (the guide's Derived/Test/ToyasCard.lean, 'card_holds'). Laid BY PROGRAM, IN A SANDBOX (cutbox-door.mjs). By AI agents, Wed Nov 11 2026. No macro, syntax, notation, axiom, sorry.
-/
import Derived.Test.YtcoiejmlpinpbaaDoorRows
import GoSem.ClaimSeven
namespace Go.Proofs.YtcoiejmlpinpbaaDoor
namespace Rows

/-- THE TIED CARD OF 'parchmentlaw04.KeysNext'. -/
def keysNextCard : Claim7 := { stood := { row := keysNextRow, standIns := [], harness := (true, "a6fff7e9d3153a3abb4b23d770284045bae7b502d5f5a843a7c9fa16c119f1ac"), looks := false }, kinds := [], alts := [], laidByText := true, laidKinds := [.data, .pinned], laidTests := true, laidLooks := .later }
def KeysNextCardSaid : Prop := Claim7.holds Tryd.pinned (.plain (OpenSpec.ofChange keysNextSpec)) keysNextCard

/-- THE TIED CARD OF 'parchmentlaw04.KeysSpans'. -/
def keysSpansCard : Claim7 := { stood := { row := keysSpansRow, standIns := [], harness := (true, "a6fff7e9d3153a3abb4b23d770284045bae7b502d5f5a843a7c9fa16c119f1ac"), looks := false }, kinds := [], alts := [], laidByText := true, laidKinds := [.data, .pinned], laidTests := true, laidLooks := .later }
def KeysSpansCardSaid : Prop := Claim7.holds Tryd.pinned (.plain (OpenSpec.ofChange keysSpansSpec)) keysSpansCard

/-- THE TIED CARD OF 'parchmentlaw04.KeysOrder'. -/
def keysOrderCard : Claim7 := { stood := { row := keysOrderRow, standIns := [], harness := (true, "a6fff7e9d3153a3abb4b23d770284045bae7b502d5f5a843a7c9fa16c119f1ac"), looks := false }, kinds := [], alts := [], laidByText := true, laidKinds := [.data, .pinned], laidTests := true, laidLooks := .later }
def KeysOrderCardSaid : Prop := Claim7.holds Tryd.pinned (.plain (OpenSpec.ofChange keysOrderSpec)) keysOrderCard

/-- THE TIED CARD OF 'parchmentlaw04.KeysOf'. -/
def keysOfCard : Claim7 := { stood := { row := keysOfRow, standIns := [], harness := (true, "a6fff7e9d3153a3abb4b23d770284045bae7b502d5f5a843a7c9fa16c119f1ac"), looks := false }, kinds := [], alts := [], laidByText := true, laidKinds := [.data, .pinned], laidTests := true, laidLooks := .later }
def KeysOfCardSaid : Prop := Claim7.holds Tryd.pinned (.plain (OpenSpec.ofChange keysOfSpec)) keysOfCard

/-- THE TIED CARD OF 'parchmentlaw04.KeysEqual'. -/
def keysEqualCard : Claim7 := { stood := { row := keysEqualRow, standIns := [], harness := (true, "a6fff7e9d3153a3abb4b23d770284045bae7b502d5f5a843a7c9fa16c119f1ac"), looks := false }, kinds := [], alts := [], laidByText := true, laidKinds := [.data, .pinned], laidTests := true, laidLooks := .later }
def KeysEqualCardSaid : Prop := Claim7.holds Tryd.pinned (.plain (OpenSpec.ofChange keysEqualSpec)) keysEqualCard

/-- THE SECOND FORM's CARD OF 'parchmentlaw04.KeysNext'. -/
def keysNextUptoCard : Claim7 := { stood := { row := keysNextUptoRow, standIns := [], harness := (true, "a6fff7e9d3153a3abb4b23d770284045bae7b502d5f5a843a7c9fa16c119f1ac"), looks := false }, kinds := [], alts := [], laidByText := true, laidKinds := [.data, .pinned], laidTests := true, laidLooks := .later }
def KeysNextUptoCardSaid : Prop := Claim7.holds Tryd.pinned (.plain (OpenSpec.upto keysNextSpec)) keysNextUptoCard

/-- THE SECOND FORM's CARD OF 'parchmentlaw04.KeysSpans'. -/
def keysSpansUptoCard : Claim7 := { stood := { row := keysSpansUptoRow, standIns := [], harness := (true, "a6fff7e9d3153a3abb4b23d770284045bae7b502d5f5a843a7c9fa16c119f1ac"), looks := false }, kinds := [], alts := [], laidByText := true, laidKinds := [.data, .pinned], laidTests := true, laidLooks := .later }
def KeysSpansUptoCardSaid : Prop := Claim7.holds Tryd.pinned (.plain (OpenSpec.upto keysSpansSpec)) keysSpansUptoCard

/-- THE SECOND FORM's CARD OF 'parchmentlaw04.KeysOrder'. -/
def keysOrderUptoCard : Claim7 := { stood := { row := keysOrderUptoRow, standIns := [], harness := (true, "a6fff7e9d3153a3abb4b23d770284045bae7b502d5f5a843a7c9fa16c119f1ac"), looks := false }, kinds := [], alts := [], laidByText := true, laidKinds := [.data, .pinned], laidTests := true, laidLooks := .later }
def KeysOrderUptoCardSaid : Prop := Claim7.holds Tryd.pinned (.plain (OpenSpec.upto keysOrderSpec)) keysOrderUptoCard

/-- THE SECOND FORM's CARD OF 'parchmentlaw04.KeysOf'. -/
def keysOfUptoCard : Claim7 := { stood := { row := keysOfUptoRow, standIns := [], harness := (true, "a6fff7e9d3153a3abb4b23d770284045bae7b502d5f5a843a7c9fa16c119f1ac"), looks := false }, kinds := [], alts := [], laidByText := true, laidKinds := [.data, .pinned], laidTests := true, laidLooks := .later }
def KeysOfUptoCardSaid : Prop := Claim7.holds Tryd.pinned (.plain (OpenSpec.upto keysOfSpec)) keysOfUptoCard

/-- THE SECOND FORM's CARD OF 'parchmentlaw04.KeysEqual'. -/
def keysEqualUptoCard : Claim7 := { stood := { row := keysEqualUptoRow, standIns := [], harness := (true, "a6fff7e9d3153a3abb4b23d770284045bae7b502d5f5a843a7c9fa16c119f1ac"), looks := false }, kinds := [], alts := [], laidByText := true, laidKinds := [.data, .pinned], laidTests := true, laidLooks := .later }
def KeysEqualUptoCardSaid : Prop := Claim7.holds Tryd.pinned (.plain (OpenSpec.upto keysEqualSpec)) keysEqualUptoCard
end Rows
end Go.Proofs.YtcoiejmlpinpbaaDoor
