/-
  No cell of these rows narrows 'for every input' (looked for: loops, veiled, ifaces, maps, wideKeys, modest, calm, conditions, laid).
  DERIVED. THE GIVEN ROWS OF THIS SEAT. 5 by the template 'for every input the law returns true; each argument reads behind the call as it read before'; 0 by the template 'total and deterministic' (their statements: YthcbcdjkfefnlaaTotals.lean).
  GIVEN WITH THE SEED: the statements are not yours to turn. If you find one false, say at which input.
  Laid BY PROGRAM, IN A SANDBOX (cutbox-rows.mjs): the forced cells as the released guide's own fill.sh prints them over the translation 71ad173cd68f6ffb… (all of the seat's roots in one cut). By AI agents, Wed Nov 11 2026. No macro, syntax, notation, axiom, sorry.
-/
import Derived.Test.YthcbcdjkfefnlaaChecked
import GoSem.Claim
import GoSem.ClaimJoined
import GoSem.ClaimMapViews
import Derived.JoinedTies
import Derived.KernelRfl
namespace Go.Proofs.Ythcbcdjkfefnlaa
/- THE CELL 'sum', in the pinned program and in every row, IS THE sha256 OF THE DUMP (.gsa) THAT YthcbcdjkfefnlaaProg.lean LOADS. Nothing in Lean hashes anything: it is a label: what it is worth is what the hold of that sum in a sandbox is worth. -/
noncomputable def Try.pinned : Pinned := { name := "ythcbcdjkfefnlaa", sum := "71ad173cd68f6ffb5d9a9c9e60f2400685713897bb935c84ef2a4c539d486398", checked := Try.checked }
namespace Rows
def none {H : Type} : Left H := { results := [], args := [] }

/-- 'quintadenalaw20.StorePlays': WHATEVER THE INPUT: true; the input reads as it did. -/
def storePlaysSpec : ChangeSpec := { name := "storePlays", fn := fun _ => fun
  | [d1, d2] => { results := [.lit (.bool true)], args := [d1, d2] }
  | _ => none }
def storePlaysRow : OpenClaim := { program := "ythcbcdjkfefnlaa", sum := "71ad173cd68f6ffb5d9a9c9e60f2400685713897bb935c84ef2a4c539d486398", func := "quintadena/quintadenalaw20.StorePlays", spec := "storePlays", inPlace := ["internal/bytealg.MakeNoZero"], recurses := true, apart := false }
def StorePlaysSaid : Prop := storePlaysRow.holds Try.pinned (OpenSpec.ofChange storePlaysSpec)

/-- ITS FALSE NEIGHBOUR: 'it returns false'. Refute it at one input. -/
def storePlaysWrong : ChangeSpec := { name := "storePlays", fn := fun _ => fun
  | [d1, d2] => { results := [.lit (.bool false)], args := [d1, d2] }
  | _ => none }
def StorePlaysWrongFalsely : Prop := storePlaysRow.holds Try.pinned (OpenSpec.ofChange storePlaysWrong)

/-- 'quintadenalaw20.StoreSurvives': WHATEVER THE INPUT: true; the input reads as it did. -/
def storeSurvivesSpec : ChangeSpec := { name := "storeSurvives", fn := fun _ => fun
  | [d1, d2] => { results := [.lit (.bool true)], args := [d1, d2] }
  | _ => none }
def storeSurvivesRow : OpenClaim := { program := "ythcbcdjkfefnlaa", sum := "71ad173cd68f6ffb5d9a9c9e60f2400685713897bb935c84ef2a4c539d486398", func := "quintadena/quintadenalaw20.StoreSurvives", spec := "storeSurvives", inPlace := ["internal/bytealg.MakeNoZero"], recurses := true, apart := false }
def StoreSurvivesSaid : Prop := storeSurvivesRow.holds Try.pinned (OpenSpec.ofChange storeSurvivesSpec)

/-- ITS FALSE NEIGHBOUR: 'it returns false'. Refute it at one input. -/
def storeSurvivesWrong : ChangeSpec := { name := "storeSurvives", fn := fun _ => fun
  | [d1, d2] => { results := [.lit (.bool false)], args := [d1, d2] }
  | _ => none }
def StoreSurvivesWrongFalsely : Prop := storeSurvivesRow.holds Try.pinned (OpenSpec.ofChange storeSurvivesWrong)

/-- 'quintadenalaw20.StoreKnown': WHATEVER THE INPUT: true; the input reads as it did. -/
def storeKnownSpec : ChangeSpec := { name := "storeKnown", fn := fun _ => fun
  | [] => { results := [.lit (.bool true)], args := [] }
  | _ => none }
def storeKnownRow : OpenClaim := { program := "ythcbcdjkfefnlaa", sum := "71ad173cd68f6ffb5d9a9c9e60f2400685713897bb935c84ef2a4c539d486398", func := "quintadena/quintadenalaw20.StoreKnown", spec := "storeKnown", inPlace := ["internal/bytealg.MakeNoZero"], recurses := true, apart := false }
def StoreKnownSaid : Prop := storeKnownRow.holds Try.pinned (OpenSpec.ofChange storeKnownSpec)

/-- ITS FALSE NEIGHBOUR: 'it returns false'. Refute it at one input. -/
def storeKnownWrong : ChangeSpec := { name := "storeKnown", fn := fun _ => fun
  | [] => { results := [.lit (.bool false)], args := [] }
  | _ => none }
def StoreKnownWrongFalsely : Prop := storeKnownRow.holds Try.pinned (OpenSpec.ofChange storeKnownWrong)

/-- 'quintadenalaw20.StoreFlash': WHATEVER THE INPUT: true; the input reads as it did. -/
def storeFlashSpec : ChangeSpec := { name := "storeFlash", fn := fun _ => fun
  | [d1, d2] => { results := [.lit (.bool true)], args := [d1, d2] }
  | _ => none }
def storeFlashRow : OpenClaim := { program := "ythcbcdjkfefnlaa", sum := "71ad173cd68f6ffb5d9a9c9e60f2400685713897bb935c84ef2a4c539d486398", func := "quintadena/quintadenalaw20.StoreFlash", spec := "storeFlash", inPlace := ["internal/bytealg.MakeNoZero"], recurses := true, apart := false }
def StoreFlashSaid : Prop := storeFlashRow.holds Try.pinned (OpenSpec.ofChange storeFlashSpec)

/-- ITS FALSE NEIGHBOUR: 'it returns false'. Refute it at one input. -/
def storeFlashWrong : ChangeSpec := { name := "storeFlash", fn := fun _ => fun
  | [d1, d2] => { results := [.lit (.bool false)], args := [d1, d2] }
  | _ => none }
def StoreFlashWrongFalsely : Prop := storeFlashRow.holds Try.pinned (OpenSpec.ofChange storeFlashWrong)

/-- 'quintadenalaw20.StoreNone': WHATEVER THE INPUT: true; the input reads as it did. -/
def storeNoneSpec : ChangeSpec := { name := "storeNone", fn := fun _ => fun
  | [d1, d2, d3] => { results := [.lit (.bool true)], args := [d1, d2, d3] }
  | _ => none }
def storeNoneRow : OpenClaim := { program := "ythcbcdjkfefnlaa", sum := "71ad173cd68f6ffb5d9a9c9e60f2400685713897bb935c84ef2a4c539d486398", func := "quintadena/quintadenalaw20.StoreNone", spec := "storeNone", inPlace := ["internal/bytealg.MakeNoZero"], recurses := true, apart := false }
def StoreNoneSaid : Prop := storeNoneRow.holds Try.pinned (OpenSpec.ofChange storeNoneSpec)

/-- ITS FALSE NEIGHBOUR: 'it returns false'. Refute it at one input. -/
def storeNoneWrong : ChangeSpec := { name := "storeNone", fn := fun _ => fun
  | [d1, d2, d3] => { results := [.lit (.bool false)], args := [d1, d2, d3] }
  | _ => none }
def StoreNoneWrongFalsely : Prop := storeNoneRow.holds Try.pinned (OpenSpec.ofChange storeNoneWrong)

/- THE SECOND FORM. 'bulk': how many values and letters a reading holds, each counted each time it is reached (what is shared counts as often as it is met; a slice's spare places count too). A statement '..UptoSaid' is the law's where the arguments, and the package variables that the reading takes, are together of bulk at most 1048576: NARROWER than '..Said'. Prove '..Said' where nothing that the law and all that it calls make is longer than what came in: it says more and counts as full. Else prove '..UptoSaid'. A law counts once. -/
mutual
def uptoBulk {H : Type} : DataW H → Nat
  | .lit (.string bytes) => bytes.length + 1
  | .lit _ => 1
  | .nil => 1
  | .ptr d => uptoBulk d + 1
  | .slice elems spare => uptoBulkAll elems + uptoBulkAll spare + 1
  | .agg parts => uptoBulkAll parts + 1
  | .iface _ d => uptoBulk d + 1
  | .map entries => uptoBulkEntries entries + 1
  | .held _ => 1
def uptoBulkAll {H : Type} : List (DataW H) → Nat
  | [] => 0
  | d :: r => uptoBulk d + uptoBulkAll r
def uptoBulkEntries {H : Type} : List (Lit × DataW H) → Nat
  | [] => 0
  | x :: r => uptoBulkEntry x + uptoBulkEntries r
def uptoBulkEntry {H : Type} : Lit × DataW H → Nat
  | (.string bytes, d) => bytes.length + uptoBulk d + 1
  | (_, d) => uptoBulk d + 1
 end
def uptoSmall : (H : Type) → List (DataW H) → Bool := fun _ ds => decide (uptoBulkAll ds ≤ 1048576)
def OpenSpec.upto (s : _root_.Go.ChangeSpec) : _root_.Go.OpenSpec := { _root_.Go.OpenSpec.ofChange s with cond := some uptoSmall }

/-- 'quintadenalaw20.StorePlays', WHERE WHAT IT READS IS OF BULK AT MOST 1048576: true; the input reads as it did. -/
def storePlaysUptoRow : OpenClaim := { program := "ythcbcdjkfefnlaa", sum := "71ad173cd68f6ffb5d9a9c9e60f2400685713897bb935c84ef2a4c539d486398", func := "quintadena/quintadenalaw20.StorePlays", spec := "storePlays", inPlace := ["internal/bytealg.MakeNoZero"], recurses := true, apart := false, narrowed := true }
def StorePlaysUptoSaid : Prop := storePlaysUptoRow.holds Try.pinned (OpenSpec.upto storePlaysSpec)

/-- 'quintadenalaw20.StoreSurvives', WHERE WHAT IT READS IS OF BULK AT MOST 1048576: true; the input reads as it did. -/
def storeSurvivesUptoRow : OpenClaim := { program := "ythcbcdjkfefnlaa", sum := "71ad173cd68f6ffb5d9a9c9e60f2400685713897bb935c84ef2a4c539d486398", func := "quintadena/quintadenalaw20.StoreSurvives", spec := "storeSurvives", inPlace := ["internal/bytealg.MakeNoZero"], recurses := true, apart := false, narrowed := true }
def StoreSurvivesUptoSaid : Prop := storeSurvivesUptoRow.holds Try.pinned (OpenSpec.upto storeSurvivesSpec)

/-- 'quintadenalaw20.StoreKnown', WHERE WHAT IT READS IS OF BULK AT MOST 1048576: true; the input reads as it did. -/
def storeKnownUptoRow : OpenClaim := { program := "ythcbcdjkfefnlaa", sum := "71ad173cd68f6ffb5d9a9c9e60f2400685713897bb935c84ef2a4c539d486398", func := "quintadena/quintadenalaw20.StoreKnown", spec := "storeKnown", inPlace := ["internal/bytealg.MakeNoZero"], recurses := true, apart := false, narrowed := true }
def StoreKnownUptoSaid : Prop := storeKnownUptoRow.holds Try.pinned (OpenSpec.upto storeKnownSpec)

/-- 'quintadenalaw20.StoreFlash', WHERE WHAT IT READS IS OF BULK AT MOST 1048576: true; the input reads as it did. -/
def storeFlashUptoRow : OpenClaim := { program := "ythcbcdjkfefnlaa", sum := "71ad173cd68f6ffb5d9a9c9e60f2400685713897bb935c84ef2a4c539d486398", func := "quintadena/quintadenalaw20.StoreFlash", spec := "storeFlash", inPlace := ["internal/bytealg.MakeNoZero"], recurses := true, apart := false, narrowed := true }
def StoreFlashUptoSaid : Prop := storeFlashUptoRow.holds Try.pinned (OpenSpec.upto storeFlashSpec)

/-- 'quintadenalaw20.StoreNone', WHERE WHAT IT READS IS OF BULK AT MOST 1048576: true; the input reads as it did. -/
def storeNoneUptoRow : OpenClaim := { program := "ythcbcdjkfefnlaa", sum := "71ad173cd68f6ffb5d9a9c9e60f2400685713897bb935c84ef2a4c539d486398", func := "quintadena/quintadenalaw20.StoreNone", spec := "storeNone", inPlace := ["internal/bytealg.MakeNoZero"], recurses := true, apart := false, narrowed := true }
def StoreNoneUptoSaid : Prop := storeNoneUptoRow.holds Try.pinned (OpenSpec.upto storeNoneSpec)

end Rows
end Go.Proofs.Ythcbcdjkfefnlaa
