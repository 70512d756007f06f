/-
  DERIVED. GIVEN WITH THE SEED: THE CARDS: each row of YthcbcdjkfefnlaaGreatDoorRows.lean that lists a variable, with what it lists TIED to the program's text (the seventh form; the later family's looks); each row that meets fmt, with fmt's text TOLD by the authors' own Lean function (tested against real Go, not proved from fmt's source: count such statements apart). THE CARD IS WHAT COUNTS. Prove the row's statement (the work); the ties are given (YthcbcdjkfefnlaaGreatDoorTie.lean); close each card by the builder's one call (the guide's Derived/Test/ToyasCard.lean, 'card_holds'). Laid BY PROGRAM, IN A SANDBOX (cutbox-door.mjs). By AI agents, Wed Nov 11 2026. No macro, syntax, notation, axiom, sorry.
-/
import Derived.Test.YthcbcdjkfefnlaaGreatDoorRows
import GoSem.ClaimSeven
namespace Go.Proofs.YthcbcdjkfefnlaaGreatDoor
namespace Rows

/-- THE TIED CARD OF 'quintadenalaw21.PistonsNone'. -/
def pistonsNoneCard : Claim7 := { stood := { row := pistonsNoneRow, standIns := [], harness := (true, "3a8a81b080a07903ab95eb374d723c897ca25787b2eb29dcfbeda480d3fb6a4b"), looks := false }, kinds := [], alts := [], laidByText := true, laidKinds := [.data, .data, .data], laidTests := true, laidLooks := .later }
def PistonsNoneCardSaid : Prop := Claim7.holds Tryz.pinned (.plain (OpenSpec.ofChange pistonsNoneSpec)) pistonsNoneCard

/-- THE TIED CARD OF 'quintadenalaw21.PistonsSurvive'. -/
def pistonsSurviveCard : Claim7 := { stood := { row := pistonsSurviveRow, standIns := [], harness := (true, "3a8a81b080a07903ab95eb374d723c897ca25787b2eb29dcfbeda480d3fb6a4b"), looks := false }, kinds := [], alts := [], laidByText := true, laidKinds := [.data, .data, .data], laidTests := true, laidLooks := .later }
def PistonsSurviveCardSaid : Prop := Claim7.holds Tryz.pinned (.plain (OpenSpec.ofChange pistonsSurviveSpec)) pistonsSurviveCard

/-- THE TIED CARD OF 'quintadenalaw21.PistonsOpen'. -/
def pistonsOpenCard : Claim7 := { stood := { row := pistonsOpenRow, standIns := [], harness := (true, "3a8a81b080a07903ab95eb374d723c897ca25787b2eb29dcfbeda480d3fb6a4b"), looks := false }, kinds := [], alts := [], laidByText := true, laidKinds := [.data, .data, .data], laidTests := true, laidLooks := .later }
def PistonsOpenCardSaid : Prop := Claim7.holds Tryz.pinned (.plain (OpenSpec.ofChange pistonsOpenSpec)) pistonsOpenCard

/-- THE TIED CARD OF 'quintadenalaw21.PistonsPress'. -/
def pistonsPressCard : Claim7 := { stood := { row := pistonsPressRow, standIns := [], harness := (true, "3a8a81b080a07903ab95eb374d723c897ca25787b2eb29dcfbeda480d3fb6a4b"), looks := false }, kinds := [], alts := [], laidByText := true, laidKinds := [.data, .data, .data], laidTests := true, laidLooks := .later }
def PistonsPressCardSaid : Prop := Claim7.holds Tryz.pinned (.plain (OpenSpec.ofChange pistonsPressSpec)) pistonsPressCard

/-- THE TIED CARD OF 'quintadenalaw21.PistonsPlays'. -/
def pistonsPlaysCard : Claim7 := { stood := { row := pistonsPlaysRow, standIns := [], harness := (true, "3a8a81b080a07903ab95eb374d723c897ca25787b2eb29dcfbeda480d3fb6a4b"), looks := false }, kinds := [], alts := [], laidByText := true, laidKinds := [.data, .data, .data], laidTests := true, laidLooks := .later }
def PistonsPlaysCardSaid : Prop := Claim7.holds Tryz.pinned (.plain (OpenSpec.ofChange pistonsPlaysSpec)) pistonsPlaysCard

/-- THE TIED CARD OF 'quintadenalaw21.PistonsKnown'. -/
def pistonsKnownCard : Claim7 := { stood := { row := pistonsKnownRow, standIns := [], harness := (true, "3a8a81b080a07903ab95eb374d723c897ca25787b2eb29dcfbeda480d3fb6a4b"), looks := false }, kinds := [], alts := [], laidByText := true, laidKinds := [.data, .data, .data], laidTests := true, laidLooks := .later }
def PistonsKnownCardSaid : Prop := Claim7.holds Tryz.pinned (.plain (OpenSpec.ofChange pistonsKnownSpec)) pistonsKnownCard

/-- THE SECOND FORM's CARD OF 'quintadenalaw21.PistonsNone'. -/
def pistonsNoneUptoCard : Claim7 := { stood := { row := pistonsNoneUptoRow, standIns := [], harness := (true, "3a8a81b080a07903ab95eb374d723c897ca25787b2eb29dcfbeda480d3fb6a4b"), looks := false }, kinds := [], alts := [], laidByText := true, laidKinds := [.data, .data, .data], laidTests := true, laidLooks := .later }
def PistonsNoneUptoCardSaid : Prop := Claim7.holds Tryz.pinned (.plain (OpenSpec.upto pistonsNoneSpec)) pistonsNoneUptoCard

/-- THE SECOND FORM's CARD OF 'quintadenalaw21.PistonsSurvive'. -/
def pistonsSurviveUptoCard : Claim7 := { stood := { row := pistonsSurviveUptoRow, standIns := [], harness := (true, "3a8a81b080a07903ab95eb374d723c897ca25787b2eb29dcfbeda480d3fb6a4b"), looks := false }, kinds := [], alts := [], laidByText := true, laidKinds := [.data, .data, .data], laidTests := true, laidLooks := .later }
def PistonsSurviveUptoCardSaid : Prop := Claim7.holds Tryz.pinned (.plain (OpenSpec.upto pistonsSurviveSpec)) pistonsSurviveUptoCard

/-- THE SECOND FORM's CARD OF 'quintadenalaw21.PistonsOpen'. -/
def pistonsOpenUptoCard : Claim7 := { stood := { row := pistonsOpenUptoRow, standIns := [], harness := (true, "3a8a81b080a07903ab95eb374d723c897ca25787b2eb29dcfbeda480d3fb6a4b"), looks := false }, kinds := [], alts := [], laidByText := true, laidKinds := [.data, .data, .data], laidTests := true, laidLooks := .later }
def PistonsOpenUptoCardSaid : Prop := Claim7.holds Tryz.pinned (.plain (OpenSpec.upto pistonsOpenSpec)) pistonsOpenUptoCard

/-- THE SECOND FORM's CARD OF 'quintadenalaw21.PistonsPress'. -/
def pistonsPressUptoCard : Claim7 := { stood := { row := pistonsPressUptoRow, standIns := [], harness := (true, "3a8a81b080a07903ab95eb374d723c897ca25787b2eb29dcfbeda480d3fb6a4b"), looks := false }, kinds := [], alts := [], laidByText := true, laidKinds := [.data, .data, .data], laidTests := true, laidLooks := .later }
def PistonsPressUptoCardSaid : Prop := Claim7.holds Tryz.pinned (.plain (OpenSpec.upto pistonsPressSpec)) pistonsPressUptoCard

/-- THE SECOND FORM's CARD OF 'quintadenalaw21.PistonsPlays'. -/
def pistonsPlaysUptoCard : Claim7 := { stood := { row := pistonsPlaysUptoRow, standIns := [], harness := (true, "3a8a81b080a07903ab95eb374d723c897ca25787b2eb29dcfbeda480d3fb6a4b"), looks := false }, kinds := [], alts := [], laidByText := true, laidKinds := [.data, .data, .data], laidTests := true, laidLooks := .later }
def PistonsPlaysUptoCardSaid : Prop := Claim7.holds Tryz.pinned (.plain (OpenSpec.upto pistonsPlaysSpec)) pistonsPlaysUptoCard

/-- THE SECOND FORM's CARD OF 'quintadenalaw21.PistonsKnown'. -/
def pistonsKnownUptoCard : Claim7 := { stood := { row := pistonsKnownUptoRow, standIns := [], harness := (true, "3a8a81b080a07903ab95eb374d723c897ca25787b2eb29dcfbeda480d3fb6a4b"), looks := false }, kinds := [], alts := [], laidByText := true, laidKinds := [.data, .data, .data], laidTests := true, laidLooks := .later }
def PistonsKnownUptoCardSaid : Prop := Claim7.holds Tryz.pinned (.plain (OpenSpec.upto pistonsKnownSpec)) pistonsKnownUptoCard
end Rows
end Go.Proofs.YthcbcdjkfefnlaaGreatDoor
