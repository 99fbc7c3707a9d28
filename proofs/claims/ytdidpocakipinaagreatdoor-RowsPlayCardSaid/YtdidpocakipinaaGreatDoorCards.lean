/-
  DERIVED. GIVEN WITH THE SEED: THE CARDS: each row of YtdidpocakipinaaGreatDoorRows.lean that lists a variable, with what it lists TIED to the program's text (the seventh form; the later family's looks); each row that meets fmt, with fmt's text TOLD by the authors' own Lean function (tested against real Go, not proved from fmt's source: count such statements apart). THE CARD IS WHAT COUNTS. Prove the row's statement (the work); the ties are given (YtdidpocakipinaaGreatDoorTie.lean); close each card by the builder's one call (the guide's Derived/Test/ToyasCard.lean, 'card_holds'). Laid BY PROGRAM, IN A SANDBOX (cutbox-door.mjs). By AI agents, Wed Nov 11 2026. No macro, syntax, notation, axiom, sorry.
-/
import Derived.Test.YtdidpocakipinaaGreatDoorRows
import GoSem.ClaimSeven
namespace Go.Proofs.YtdidpocakipinaaGreatDoor
namespace Rows

/-- THE TIED CARD OF 'parchmentlaw14.RowsOwn'. -/
def rowsOwnCard : Claim7 := { stood := { row := rowsOwnRow, standIns := [], harness := (true, "295a404d40fcd5226f65fad7858335ac63059ce989edac08f8a870c0702bc4ee"), looks := false }, kinds := [], alts := [], laidByText := true, laidKinds := [.data, .pinned], laidTests := true, laidLooks := .later }
def RowsOwnCardSaid : Prop := Claim7.holds Tryz.pinned (.plain (OpenSpec.ofChange rowsOwnSpec)) rowsOwnCard

/-- THE TIED CARD OF 'parchmentlaw14.RowsLater'. -/
def rowsLaterCard : Claim7 := { stood := { row := rowsLaterRow, standIns := [], harness := (true, "295a404d40fcd5226f65fad7858335ac63059ce989edac08f8a870c0702bc4ee"), looks := false }, kinds := [], alts := [], laidByText := true, laidKinds := [.data, .pinned], laidTests := true, laidLooks := .later }
def RowsLaterCardSaid : Prop := Claim7.holds Tryz.pinned (.plain (OpenSpec.ofChange rowsLaterSpec)) rowsLaterCard

/-- THE TIED CARD OF 'parchmentlaw14.RowsNone'. -/
def rowsNoneCard : Claim7 := { stood := { row := rowsNoneRow, standIns := [], harness := (true, "295a404d40fcd5226f65fad7858335ac63059ce989edac08f8a870c0702bc4ee"), looks := false }, kinds := [], alts := [], laidByText := true, laidKinds := [.data, .pinned], laidTests := true, laidLooks := .later }
def RowsNoneCardSaid : Prop := Claim7.holds Tryz.pinned (.plain (OpenSpec.ofChange rowsNoneSpec)) rowsNoneCard

/-- THE TIED CARD OF 'parchmentlaw14.RowsPlay'. -/
def rowsPlayCard : Claim7 := { stood := { row := rowsPlayRow, standIns := [], harness := (true, "295a404d40fcd5226f65fad7858335ac63059ce989edac08f8a870c0702bc4ee"), looks := false }, kinds := [], alts := [], laidByText := true, laidKinds := [.data, .pinned], laidTests := true, laidLooks := .later }
def RowsPlayCardSaid : Prop := Claim7.holds Tryz.pinned (.plain (OpenSpec.ofChange rowsPlaySpec)) rowsPlayCard

/-- THE SECOND FORM's CARD OF 'parchmentlaw14.RowsOwn'. -/
def rowsOwnUptoCard : Claim7 := { stood := { row := rowsOwnUptoRow, standIns := [], harness := (true, "295a404d40fcd5226f65fad7858335ac63059ce989edac08f8a870c0702bc4ee"), looks := false }, kinds := [], alts := [], laidByText := true, laidKinds := [.data, .pinned], laidTests := true, laidLooks := .later }
def RowsOwnUptoCardSaid : Prop := Claim7.holds Tryz.pinned (.plain (OpenSpec.upto rowsOwnSpec)) rowsOwnUptoCard

/-- THE SECOND FORM's CARD OF 'parchmentlaw14.RowsLater'. -/
def rowsLaterUptoCard : Claim7 := { stood := { row := rowsLaterUptoRow, standIns := [], harness := (true, "295a404d40fcd5226f65fad7858335ac63059ce989edac08f8a870c0702bc4ee"), looks := false }, kinds := [], alts := [], laidByText := true, laidKinds := [.data, .pinned], laidTests := true, laidLooks := .later }
def RowsLaterUptoCardSaid : Prop := Claim7.holds Tryz.pinned (.plain (OpenSpec.upto rowsLaterSpec)) rowsLaterUptoCard

/-- THE SECOND FORM's CARD OF 'parchmentlaw14.RowsNone'. -/
def rowsNoneUptoCard : Claim7 := { stood := { row := rowsNoneUptoRow, standIns := [], harness := (true, "295a404d40fcd5226f65fad7858335ac63059ce989edac08f8a870c0702bc4ee"), looks := false }, kinds := [], alts := [], laidByText := true, laidKinds := [.data, .pinned], laidTests := true, laidLooks := .later }
def RowsNoneUptoCardSaid : Prop := Claim7.holds Tryz.pinned (.plain (OpenSpec.upto rowsNoneSpec)) rowsNoneUptoCard

/-- THE SECOND FORM's CARD OF 'parchmentlaw14.RowsPlay'. -/
def rowsPlayUptoCard : Claim7 := { stood := { row := rowsPlayUptoRow, standIns := [], harness := (true, "295a404d40fcd5226f65fad7858335ac63059ce989edac08f8a870c0702bc4ee"), looks := false }, kinds := [], alts := [], laidByText := true, laidKinds := [.data, .pinned], laidTests := true, laidLooks := .later }
def RowsPlayUptoCardSaid : Prop := Claim7.holds Tryz.pinned (.plain (OpenSpec.upto rowsPlaySpec)) rowsPlayUptoCard
end Rows
end Go.Proofs.YtdidpocakipinaaGreatDoor
