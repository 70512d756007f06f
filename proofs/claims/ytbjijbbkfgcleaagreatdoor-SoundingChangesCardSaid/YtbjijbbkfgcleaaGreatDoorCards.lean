/-
  DERIVED. GIVEN WITH THE SEED: THE CARDS: each row of YtbjijbbkfgcleaaGreatDoorRows.lean that lists a variable, with what it lists TIED to the program's text (the seventh form; the later family's looks); each row that meets fmt, with fmt's text TOLD by the authors' own Lean function (tested against real Go, not proved from fmt's source: count such statements apart). THE CARD IS WHAT COUNTS. Prove the row's statement (the work); the ties are given (YtbjijbbkfgcleaaGreatDoorTie.lean); close each card by the builder's one call (the guide's Derived/Test/ToyasCard.lean, 'card_holds'). Laid BY PROGRAM, IN A SANDBOX (cutbox-door.mjs). By AI agents, Wed Nov 11 2026. No macro, syntax, notation, axiom, sorry.
-/
import Derived.Test.YtbjijbbkfgcleaaGreatDoorRows
import GoSem.ClaimSeven
namespace Go.Proofs.YtbjijbbkfgcleaaGreatDoor
namespace Rows

/-- THE TIED CARD OF 'quintadenalaw12.SoundingPipes'. -/
def soundingPipesCard : Claim7 := { stood := { row := soundingPipesRow, standIns := [], harness := (true, "a7c7d8dbde92a88d70be74f9498e6a5108f861e87f56a73ded518a7011e6dd82"), looks := false }, kinds := [], alts := [], laidByText := true, laidKinds := [.data, .data, .data], laidTests := true, laidLooks := .later }
def SoundingPipesCardSaid : Prop := Claim7.holds Tryz.pinned (.plain (OpenSpec.ofChange soundingPipesSpec)) soundingPipesCard

/-- THE TIED CARD OF 'quintadenalaw12.SoundingChanges'. -/
def soundingChangesCard : Claim7 := { stood := { row := soundingChangesRow, standIns := [], harness := (true, "a7c7d8dbde92a88d70be74f9498e6a5108f861e87f56a73ded518a7011e6dd82"), looks := false }, kinds := [], alts := [], laidByText := true, laidKinds := [.data, .data, .data], laidTests := true, laidLooks := .later }
def SoundingChangesCardSaid : Prop := Claim7.holds Tryz.pinned (.plain (OpenSpec.ofChange soundingChangesSpec)) soundingChangesCard

/-- THE SECOND FORM's CARD OF 'quintadenalaw12.SoundingPipes'. -/
def soundingPipesUptoCard : Claim7 := { stood := { row := soundingPipesUptoRow, standIns := [], harness := (true, "a7c7d8dbde92a88d70be74f9498e6a5108f861e87f56a73ded518a7011e6dd82"), looks := false }, kinds := [], alts := [], laidByText := true, laidKinds := [.data, .data, .data], laidTests := true, laidLooks := .later }
def SoundingPipesUptoCardSaid : Prop := Claim7.holds Tryz.pinned (.plain (OpenSpec.upto soundingPipesSpec)) soundingPipesUptoCard

/-- THE SECOND FORM's CARD OF 'quintadenalaw12.SoundingChanges'. -/
def soundingChangesUptoCard : Claim7 := { stood := { row := soundingChangesUptoRow, standIns := [], harness := (true, "a7c7d8dbde92a88d70be74f9498e6a5108f861e87f56a73ded518a7011e6dd82"), looks := false }, kinds := [], alts := [], laidByText := true, laidKinds := [.data, .data, .data], laidTests := true, laidLooks := .later }
def SoundingChangesUptoCardSaid : Prop := Claim7.holds Tryz.pinned (.plain (OpenSpec.upto soundingChangesSpec)) soundingChangesUptoCard
end Rows
end Go.Proofs.YtbjijbbkfgcleaaGreatDoor
