/-
  DERIVED. GIVEN WITH THE SEED: THE CARDS: each row of YtfnfkoldifpmhaaDoorRows.lean that lists a variable, with what it lists TIED to the program's text (the seventh form; the later family's looks); each row that meets fmt, with fmt's text TOLD by the authors' own Lean function (tested against real Go, not proved from fmt's source: count such statements apart). THE CARD IS WHAT COUNTS. Prove the row's statement (the work); the ties are given (YtfnfkoldifpmhaaDoorTie.lean); close each card by the builder's one call (the guide's Derived/Test/ToyasCard.lean, 'card_holds'). Laid BY PROGRAM, IN A SANDBOX (cutbox-door.mjs). By AI agents, Wed Nov 11 2026. No macro, syntax, notation, axiom, sorry.
-/
import Derived.Test.YtfnfkoldifpmhaaDoorRows
import GoSem.ClaimSeven
namespace Go.Proofs.YtfnfkoldifpmhaaDoor
namespace Rows

/-- THE TIED CARD OF 'parchmentlaw16.RangesSound'. -/
def rangesSoundCard : Claim7 := { stood := { row := rangesSoundRow, standIns := [], harness := (true, "9e8f444173128e38d1a642c45b205560ac178b25aba03856ecb5efacba4d07d7"), looks := false }, kinds := [], alts := [], laidByText := true, laidKinds := [.data, .pinned], laidTests := true, laidLooks := .later }
def RangesSoundCardSaid : Prop := Claim7.holds Tryd.pinned (.plain (OpenSpec.ofChange rangesSoundSpec)) rangesSoundCard

/-- THE TIED CARD OF 'parchmentlaw16.RangesHit'. -/
def rangesHitCard : Claim7 := { stood := { row := rangesHitRow, standIns := [], harness := (true, "9e8f444173128e38d1a642c45b205560ac178b25aba03856ecb5efacba4d07d7"), looks := false }, kinds := [], alts := [], laidByText := true, laidKinds := [.data, .pinned], laidTests := true, laidLooks := .later }
def RangesHitCardSaid : Prop := Claim7.holds Tryd.pinned (.plain (OpenSpec.ofChange rangesHitSpec)) rangesHitCard

/-- THE TIED CARD OF 'parchmentlaw16.RangesWhole'. -/
def rangesWholeCard : Claim7 := { stood := { row := rangesWholeRow, standIns := [], harness := (true, "9e8f444173128e38d1a642c45b205560ac178b25aba03856ecb5efacba4d07d7"), looks := false }, kinds := [], alts := [], laidByText := true, laidKinds := [.data, .pinned], laidTests := true, laidLooks := .later }
def RangesWholeCardSaid : Prop := Claim7.holds Tryd.pinned (.plain (OpenSpec.ofChange rangesWholeSpec)) rangesWholeCard

/-- THE TIED CARD OF 'parchmentlaw16.RangesGather'. -/
def rangesGatherCard : Claim7 := { stood := { row := rangesGatherRow, standIns := [], harness := (true, "9e8f444173128e38d1a642c45b205560ac178b25aba03856ecb5efacba4d07d7"), looks := false }, kinds := [], alts := [], laidByText := true, laidKinds := [.data, .pinned], laidTests := true, laidLooks := .later }
def RangesGatherCardSaid : Prop := Claim7.holds Tryd.pinned (.plain (OpenSpec.ofChange rangesGatherSpec)) rangesGatherCard

/-- THE SECOND FORM's CARD OF 'parchmentlaw16.RangesSound'. -/
def rangesSoundUptoCard : Claim7 := { stood := { row := rangesSoundUptoRow, standIns := [], harness := (true, "9e8f444173128e38d1a642c45b205560ac178b25aba03856ecb5efacba4d07d7"), looks := false }, kinds := [], alts := [], laidByText := true, laidKinds := [.data, .pinned], laidTests := true, laidLooks := .later }
def RangesSoundUptoCardSaid : Prop := Claim7.holds Tryd.pinned (.plain (OpenSpec.upto rangesSoundSpec)) rangesSoundUptoCard

/-- THE SECOND FORM's CARD OF 'parchmentlaw16.RangesHit'. -/
def rangesHitUptoCard : Claim7 := { stood := { row := rangesHitUptoRow, standIns := [], harness := (true, "9e8f444173128e38d1a642c45b205560ac178b25aba03856ecb5efacba4d07d7"), looks := false }, kinds := [], alts := [], laidByText := true, laidKinds := [.data, .pinned], laidTests := true, laidLooks := .later }
def RangesHitUptoCardSaid : Prop := Claim7.holds Tryd.pinned (.plain (OpenSpec.upto rangesHitSpec)) rangesHitUptoCard

/-- THE SECOND FORM's CARD OF 'parchmentlaw16.RangesWhole'. -/
def rangesWholeUptoCard : Claim7 := { stood := { row := rangesWholeUptoRow, standIns := [], harness := (true, "9e8f444173128e38d1a642c45b205560ac178b25aba03856ecb5efacba4d07d7"), looks := false }, kinds := [], alts := [], laidByText := true, laidKinds := [.data, .pinned], laidTests := true, laidLooks := .later }
def RangesWholeUptoCardSaid : Prop := Claim7.holds Tryd.pinned (.plain (OpenSpec.upto rangesWholeSpec)) rangesWholeUptoCard

/-- THE SECOND FORM's CARD OF 'parchmentlaw16.RangesGather'. -/
def rangesGatherUptoCard : Claim7 := { stood := { row := rangesGatherUptoRow, standIns := [], harness := (true, "9e8f444173128e38d1a642c45b205560ac178b25aba03856ecb5efacba4d07d7"), looks := false }, kinds := [], alts := [], laidByText := true, laidKinds := [.data, .pinned], laidTests := true, laidLooks := .later }
def RangesGatherUptoCardSaid : Prop := Claim7.holds Tryd.pinned (.plain (OpenSpec.upto rangesGatherSpec)) rangesGatherUptoCard
end Rows
end Go.Proofs.YtfnfkoldifpmhaaDoor
