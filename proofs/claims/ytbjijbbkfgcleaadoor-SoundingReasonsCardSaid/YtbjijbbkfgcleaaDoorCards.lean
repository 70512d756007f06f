/-
  DERIVED. GIVEN WITH THE SEED: THE CARDS: each row of YtbjijbbkfgcleaaDoorRows.lean that lists a variable, with what it lists TIED to the program's text (the seventh form; the later family's looks); each row that meets fmt, with fmt's text TOLD by the authors' own Lean function (tested against real Go, not proved from fmt's source: count such statements apart). THE CARD IS WHAT COUNTS. Prove the row's statement (the work); the ties are given (YtbjijbbkfgcleaaDoorTie.lean); close each card by the builder's one call (the guide's Derived/Test/ToyasCard.lean, 'card_holds'). Laid BY PROGRAM, IN A SANDBOX (cutbox-door.mjs). By AI agents, Wed Nov 11 2026. No macro, syntax, notation, axiom, sorry.
-/
import Derived.Test.YtbjijbbkfgcleaaDoorRows
import GoSem.ClaimSeven
namespace Go.Proofs.YtbjijbbkfgcleaaDoor
namespace Rows

/-- THE TIED CARD OF 'quintadenalaw12.SoundingKeys'. -/
def soundingKeysCard : Claim7 := { stood := { row := soundingKeysRow, standIns := [], harness := (true, "3fdb53838ff09d09f1c5bdabf3d8ed56b04bb84408fdda74ac70f4c0d9c78016"), looks := false }, kinds := [], alts := [], laidByText := true, laidKinds := [.data, .data, .data], laidTests := true, laidLooks := .later }
def SoundingKeysCardSaid : Prop := Claim7.holds Tryd.pinned (.plain (OpenSpec.ofChange soundingKeysSpec)) soundingKeysCard

/-- THE TIED CARD OF 'quintadenalaw12.SoundingWhy'. -/
def soundingWhyCard : Claim7 := { stood := { row := soundingWhyRow, standIns := [], harness := (true, "3fdb53838ff09d09f1c5bdabf3d8ed56b04bb84408fdda74ac70f4c0d9c78016"), looks := false }, kinds := [], alts := [], laidByText := true, laidKinds := [.data, .data, .data], laidTests := true, laidLooks := .later }
def SoundingWhyCardSaid : Prop := Claim7.holds Tryd.pinned (.plain (OpenSpec.ofChange soundingWhySpec)) soundingWhyCard

/-- THE TIED CARD OF 'quintadenalaw12.SoundingReasons'. -/
def soundingReasonsCard : Claim7 := { stood := { row := soundingReasonsRow, standIns := [], harness := (true, "3fdb53838ff09d09f1c5bdabf3d8ed56b04bb84408fdda74ac70f4c0d9c78016"), looks := false }, kinds := [], alts := [], laidByText := true, laidKinds := [.data, .data, .data], laidTests := true, laidLooks := .later }
def SoundingReasonsCardSaid : Prop := Claim7.holds Tryd.pinned (.plain (OpenSpec.ofChange soundingReasonsSpec)) soundingReasonsCard

/-- THE TIED CARD OF 'quintadenalaw12.SoundingStops'. -/
def soundingStopsCard : Claim7 := { stood := { row := soundingStopsRow, standIns := [], harness := (true, "3fdb53838ff09d09f1c5bdabf3d8ed56b04bb84408fdda74ac70f4c0d9c78016"), looks := false }, kinds := [], alts := [], laidByText := true, laidKinds := [.data, .data, .data], laidTests := true, laidLooks := .later }
def SoundingStopsCardSaid : Prop := Claim7.holds Tryd.pinned (.plain (OpenSpec.ofChange soundingStopsSpec)) soundingStopsCard

/-- THE TIED CARD OF 'quintadenalaw12.SoundingMore'. -/
def soundingMoreCard : Claim7 := { stood := { row := soundingMoreRow, standIns := [], harness := (true, "3fdb53838ff09d09f1c5bdabf3d8ed56b04bb84408fdda74ac70f4c0d9c78016"), looks := false }, kinds := [], alts := [], laidByText := true, laidKinds := [.data, .data, .data], laidTests := true, laidLooks := .later }
def SoundingMoreCardSaid : Prop := Claim7.holds Tryd.pinned (.plain (OpenSpec.ofChange soundingMoreSpec)) soundingMoreCard

/-- THE TIED CARD OF 'quintadenalaw12.SoundingKnown'. -/
def soundingKnownCard : Claim7 := { stood := { row := soundingKnownRow, standIns := [], harness := (true, "3fdb53838ff09d09f1c5bdabf3d8ed56b04bb84408fdda74ac70f4c0d9c78016"), looks := false }, kinds := [], alts := [], laidByText := true, laidKinds := [.data, .data, .data], laidTests := true, laidLooks := .later }
def SoundingKnownCardSaid : Prop := Claim7.holds Tryd.pinned (.plain (OpenSpec.ofChange soundingKnownSpec)) soundingKnownCard

/-- THE SECOND FORM's CARD OF 'quintadenalaw12.SoundingKeys'. -/
def soundingKeysUptoCard : Claim7 := { stood := { row := soundingKeysUptoRow, standIns := [], harness := (true, "3fdb53838ff09d09f1c5bdabf3d8ed56b04bb84408fdda74ac70f4c0d9c78016"), looks := false }, kinds := [], alts := [], laidByText := true, laidKinds := [.data, .data, .data], laidTests := true, laidLooks := .later }
def SoundingKeysUptoCardSaid : Prop := Claim7.holds Tryd.pinned (.plain (OpenSpec.upto soundingKeysSpec)) soundingKeysUptoCard

/-- THE SECOND FORM's CARD OF 'quintadenalaw12.SoundingWhy'. -/
def soundingWhyUptoCard : Claim7 := { stood := { row := soundingWhyUptoRow, standIns := [], harness := (true, "3fdb53838ff09d09f1c5bdabf3d8ed56b04bb84408fdda74ac70f4c0d9c78016"), looks := false }, kinds := [], alts := [], laidByText := true, laidKinds := [.data, .data, .data], laidTests := true, laidLooks := .later }
def SoundingWhyUptoCardSaid : Prop := Claim7.holds Tryd.pinned (.plain (OpenSpec.upto soundingWhySpec)) soundingWhyUptoCard

/-- THE SECOND FORM's CARD OF 'quintadenalaw12.SoundingReasons'. -/
def soundingReasonsUptoCard : Claim7 := { stood := { row := soundingReasonsUptoRow, standIns := [], harness := (true, "3fdb53838ff09d09f1c5bdabf3d8ed56b04bb84408fdda74ac70f4c0d9c78016"), looks := false }, kinds := [], alts := [], laidByText := true, laidKinds := [.data, .data, .data], laidTests := true, laidLooks := .later }
def SoundingReasonsUptoCardSaid : Prop := Claim7.holds Tryd.pinned (.plain (OpenSpec.upto soundingReasonsSpec)) soundingReasonsUptoCard

/-- THE SECOND FORM's CARD OF 'quintadenalaw12.SoundingStops'. -/
def soundingStopsUptoCard : Claim7 := { stood := { row := soundingStopsUptoRow, standIns := [], harness := (true, "3fdb53838ff09d09f1c5bdabf3d8ed56b04bb84408fdda74ac70f4c0d9c78016"), looks := false }, kinds := [], alts := [], laidByText := true, laidKinds := [.data, .data, .data], laidTests := true, laidLooks := .later }
def SoundingStopsUptoCardSaid : Prop := Claim7.holds Tryd.pinned (.plain (OpenSpec.upto soundingStopsSpec)) soundingStopsUptoCard

/-- THE SECOND FORM's CARD OF 'quintadenalaw12.SoundingMore'. -/
def soundingMoreUptoCard : Claim7 := { stood := { row := soundingMoreUptoRow, standIns := [], harness := (true, "3fdb53838ff09d09f1c5bdabf3d8ed56b04bb84408fdda74ac70f4c0d9c78016"), looks := false }, kinds := [], alts := [], laidByText := true, laidKinds := [.data, .data, .data], laidTests := true, laidLooks := .later }
def SoundingMoreUptoCardSaid : Prop := Claim7.holds Tryd.pinned (.plain (OpenSpec.upto soundingMoreSpec)) soundingMoreUptoCard

/-- THE SECOND FORM's CARD OF 'quintadenalaw12.SoundingKnown'. -/
def soundingKnownUptoCard : Claim7 := { stood := { row := soundingKnownUptoRow, standIns := [], harness := (true, "3fdb53838ff09d09f1c5bdabf3d8ed56b04bb84408fdda74ac70f4c0d9c78016"), looks := false }, kinds := [], alts := [], laidByText := true, laidKinds := [.data, .data, .data], laidTests := true, laidLooks := .later }
def SoundingKnownUptoCardSaid : Prop := Claim7.holds Tryd.pinned (.plain (OpenSpec.upto soundingKnownSpec)) soundingKnownUptoCard
end Rows
end Go.Proofs.YtbjijbbkfgcleaaDoor
