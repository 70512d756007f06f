/-
  No cell of these rows narrows 'for every input' (looked for: loops, veiled, ifaces, maps, wideKeys, modest, calm, conditions, laid).
  DERIVED. THE GIVEN ROWS OF THIS SEAT. 5 by the template 'for every input the law returns true; each argument reads behind the call as it read before'; 0 by the template 'total and deterministic' (their statements: YteiopfefmphhaaaTotals.lean).
  GIVEN WITH THE SEED: the statements are not yours to turn. If you find one false, say at which input.
  Laid BY PROGRAM, IN A SANDBOX (cutbox-rows.mjs): the forced cells as the released guide's own fill.sh prints them over the translation c4f6a925008eec6b… (all of the seat's roots in one cut). By AI agents, Wed Nov 11 2026. No macro, syntax, notation, axiom, sorry.
-/
import Derived.Test.YteiopfefmphhaaaChecked
import GoSem.Claim
import GoSem.ClaimJoined
import GoSem.ClaimMapViews
import Derived.JoinedTies
import Derived.KernelRfl
namespace Go.Proofs.Yteiopfefmphhaaa
/- THE CELL 'sum', in the pinned program and in every row, IS THE sha256 OF THE DUMP (.gsa) THAT YteiopfefmphhaaaProg.lean LOADS. Nothing in Lean hashes anything: it is a label: what it is worth is what the hold of that sum in a sandbox is worth. -/
noncomputable def Try.pinned : Pinned := { name := "yteiopfefmphhaaa", sum := "c4f6a925008eec6b33b657052c83e3a0f11b833bbb29336cc2aaead5b3f32ee9", checked := Try.checked }
namespace Rows
def none {H : Type} : Left H := { results := [], args := [] }

/-- 'quintadenalaw28.InventoryFits': WHATEVER THE INPUT: true; the input reads as it did. -/
def inventoryFitsSpec : ChangeSpec := { name := "inventoryFits", fn := fun _ => fun
  | [d] => { results := [.lit (.bool true)], args := [d] }
  | _ => none }
def inventoryFitsRow : OpenClaim := { program := "yteiopfefmphhaaa", sum := "c4f6a925008eec6b33b657052c83e3a0f11b833bbb29336cc2aaead5b3f32ee9", func := "quintadena/quintadenalaw28.InventoryFits", spec := "inventoryFits", unfollowed := true, recurses := true, apart := false }
def InventoryFitsSaid : Prop := inventoryFitsRow.holds Try.pinned (OpenSpec.ofChange inventoryFitsSpec)

/-- ITS FALSE NEIGHBOUR: 'it returns false'. Refute it at one input. -/
def inventoryFitsWrong : ChangeSpec := { name := "inventoryFits", fn := fun _ => fun
  | [d] => { results := [.lit (.bool false)], args := [d] }
  | _ => none }
def InventoryFitsWrongFalsely : Prop := inventoryFitsRow.holds Try.pinned (OpenSpec.ofChange inventoryFitsWrong)

/-- 'quintadenalaw28.InventoryBest': WHATEVER THE INPUT: true; the input reads as it did. -/
def inventoryBestSpec : ChangeSpec := { name := "inventoryBest", fn := fun _ => fun
  | [d1, d2] => { results := [.lit (.bool true)], args := [d1, d2] }
  | _ => none }
def inventoryBestRow : OpenClaim := { program := "yteiopfefmphhaaa", sum := "c4f6a925008eec6b33b657052c83e3a0f11b833bbb29336cc2aaead5b3f32ee9", func := "quintadena/quintadenalaw28.InventoryBest", spec := "inventoryBest", unfollowed := true, recurses := true, apart := false }
def InventoryBestSaid : Prop := inventoryBestRow.holds Try.pinned (OpenSpec.ofChange inventoryBestSpec)

/-- ITS FALSE NEIGHBOUR: 'it returns false'. Refute it at one input. -/
def inventoryBestWrong : ChangeSpec := { name := "inventoryBest", fn := fun _ => fun
  | [d1, d2] => { results := [.lit (.bool false)], args := [d1, d2] }
  | _ => none }
def InventoryBestWrongFalsely : Prop := inventoryBestRow.holds Try.pinned (OpenSpec.ofChange inventoryBestWrong)

/-- 'quintadenalaw28.InventoryShort': WHATEVER THE INPUT: true; the input reads as it did. -/
def inventoryShortSpec : ChangeSpec := { name := "inventoryShort", fn := fun _ => fun
  | [d1, d2] => { results := [.lit (.bool true)], args := [d1, d2] }
  | _ => none }
def inventoryShortRow : OpenClaim := { program := "yteiopfefmphhaaa", sum := "c4f6a925008eec6b33b657052c83e3a0f11b833bbb29336cc2aaead5b3f32ee9", func := "quintadena/quintadenalaw28.InventoryShort", spec := "inventoryShort", unfollowed := true, recurses := true, apart := false }
def InventoryShortSaid : Prop := inventoryShortRow.holds Try.pinned (OpenSpec.ofChange inventoryShortSpec)

/-- ITS FALSE NEIGHBOUR: 'it returns false'. Refute it at one input. -/
def inventoryShortWrong : ChangeSpec := { name := "inventoryShort", fn := fun _ => fun
  | [d1, d2] => { results := [.lit (.bool false)], args := [d1, d2] }
  | _ => none }
def InventoryShortWrongFalsely : Prop := inventoryShortRow.holds Try.pinned (OpenSpec.ofChange inventoryShortWrong)

/-- 'quintadenalaw28.InventoryNone': WHATEVER THE INPUT: true; the input reads as it did. -/
def inventoryNoneSpec : ChangeSpec := { name := "inventoryNone", fn := fun _ => fun
  | [d1, d2, d3] => { results := [.lit (.bool true)], args := [d1, d2, d3] }
  | _ => none }
def inventoryNoneRow : OpenClaim := { program := "yteiopfefmphhaaa", sum := "c4f6a925008eec6b33b657052c83e3a0f11b833bbb29336cc2aaead5b3f32ee9", func := "quintadena/quintadenalaw28.InventoryNone", spec := "inventoryNone", unfollowed := true, recurses := true, apart := false }
def InventoryNoneSaid : Prop := inventoryNoneRow.holds Try.pinned (OpenSpec.ofChange inventoryNoneSpec)

/-- ITS FALSE NEIGHBOUR: 'it returns false'. Refute it at one input. -/
def inventoryNoneWrong : ChangeSpec := { name := "inventoryNone", fn := fun _ => fun
  | [d1, d2, d3] => { results := [.lit (.bool false)], args := [d1, d2, d3] }
  | _ => none }
def InventoryNoneWrongFalsely : Prop := inventoryNoneRow.holds Try.pinned (OpenSpec.ofChange inventoryNoneWrong)

/-- 'quintadenalaw28.InventoryProves': WHATEVER THE INPUT: true; the input reads as it did. -/
def inventoryProvesSpec : ChangeSpec := { name := "inventoryProves", fn := fun _ => fun
  | [d1, d2, d3] => { results := [.lit (.bool true)], args := [d1, d2, d3] }
  | _ => none }
def inventoryProvesRow : OpenClaim := { program := "yteiopfefmphhaaa", sum := "c4f6a925008eec6b33b657052c83e3a0f11b833bbb29336cc2aaead5b3f32ee9", func := "quintadena/quintadenalaw28.InventoryProves", spec := "inventoryProves", unfollowed := true, recurses := true, apart := false }
def InventoryProvesSaid : Prop := inventoryProvesRow.holds Try.pinned (OpenSpec.ofChange inventoryProvesSpec)

/-- ITS FALSE NEIGHBOUR: 'it returns false'. Refute it at one input. -/
def inventoryProvesWrong : ChangeSpec := { name := "inventoryProves", fn := fun _ => fun
  | [d1, d2, d3] => { results := [.lit (.bool false)], args := [d1, d2, d3] }
  | _ => none }
def InventoryProvesWrongFalsely : Prop := inventoryProvesRow.holds Try.pinned (OpenSpec.ofChange inventoryProvesWrong)

/- THE SECOND FORM. 'bulk': how many values and letters a reading holds, each counted each time it is reached (what is shared counts as often as it is met; a slice's spare places count too). A statement '..UptoSaid' is the law's where the arguments, and the package variables that the reading takes, are together of bulk at most 1048576: NARROWER than '..Said'. Prove '..Said' where nothing that the law and all that it calls make is longer than what came in: it says more and counts as full. Else prove '..UptoSaid'. A law counts once. -/
mutual
def uptoBulk {H : Type} : DataW H → Nat
  | .lit (.string bytes) => bytes.length + 1
  | .lit _ => 1
  | .nil => 1
  | .ptr d => uptoBulk d + 1
  | .slice elems spare => uptoBulkAll elems + uptoBulkAll spare + 1
  | .agg parts => uptoBulkAll parts + 1
  | .iface _ d => uptoBulk d + 1
  | .map entries => uptoBulkEntries entries + 1
  | .held _ => 1
def uptoBulkAll {H : Type} : List (DataW H) → Nat
  | [] => 0
  | d :: r => uptoBulk d + uptoBulkAll r
def uptoBulkEntries {H : Type} : List (Lit × DataW H) → Nat
  | [] => 0
  | x :: r => uptoBulkEntry x + uptoBulkEntries r
def uptoBulkEntry {H : Type} : Lit × DataW H → Nat
  | (.string bytes, d) => bytes.length + uptoBulk d + 1
  | (_, d) => uptoBulk d + 1
 end
def uptoSmall : (H : Type) → List (DataW H) → Bool := fun _ ds => decide (uptoBulkAll ds ≤ 1048576)
def OpenSpec.upto (s : _root_.Go.ChangeSpec) : _root_.Go.OpenSpec := { _root_.Go.OpenSpec.ofChange s with cond := some uptoSmall }

/-- 'quintadenalaw28.InventoryFits', WHERE WHAT IT READS IS OF BULK AT MOST 1048576: true; the input reads as it did. -/
def inventoryFitsUptoRow : OpenClaim := { program := "yteiopfefmphhaaa", sum := "c4f6a925008eec6b33b657052c83e3a0f11b833bbb29336cc2aaead5b3f32ee9", func := "quintadena/quintadenalaw28.InventoryFits", spec := "inventoryFits", unfollowed := true, recurses := true, apart := false, narrowed := true }
def InventoryFitsUptoSaid : Prop := inventoryFitsUptoRow.holds Try.pinned (OpenSpec.upto inventoryFitsSpec)

/-- 'quintadenalaw28.InventoryBest', WHERE WHAT IT READS IS OF BULK AT MOST 1048576: true; the input reads as it did. -/
def inventoryBestUptoRow : OpenClaim := { program := "yteiopfefmphhaaa", sum := "c4f6a925008eec6b33b657052c83e3a0f11b833bbb29336cc2aaead5b3f32ee9", func := "quintadena/quintadenalaw28.InventoryBest", spec := "inventoryBest", unfollowed := true, recurses := true, apart := false, narrowed := true }
def InventoryBestUptoSaid : Prop := inventoryBestUptoRow.holds Try.pinned (OpenSpec.upto inventoryBestSpec)

/-- 'quintadenalaw28.InventoryShort', WHERE WHAT IT READS IS OF BULK AT MOST 1048576: true; the input reads as it did. -/
def inventoryShortUptoRow : OpenClaim := { program := "yteiopfefmphhaaa", sum := "c4f6a925008eec6b33b657052c83e3a0f11b833bbb29336cc2aaead5b3f32ee9", func := "quintadena/quintadenalaw28.InventoryShort", spec := "inventoryShort", unfollowed := true, recurses := true, apart := false, narrowed := true }
def InventoryShortUptoSaid : Prop := inventoryShortUptoRow.holds Try.pinned (OpenSpec.upto inventoryShortSpec)

/-- 'quintadenalaw28.InventoryNone', WHERE WHAT IT READS IS OF BULK AT MOST 1048576: true; the input reads as it did. -/
def inventoryNoneUptoRow : OpenClaim := { program := "yteiopfefmphhaaa", sum := "c4f6a925008eec6b33b657052c83e3a0f11b833bbb29336cc2aaead5b3f32ee9", func := "quintadena/quintadenalaw28.InventoryNone", spec := "inventoryNone", unfollowed := true, recurses := true, apart := false, narrowed := true }
def InventoryNoneUptoSaid : Prop := inventoryNoneUptoRow.holds Try.pinned (OpenSpec.upto inventoryNoneSpec)

/-- 'quintadenalaw28.InventoryProves', WHERE WHAT IT READS IS OF BULK AT MOST 1048576: true; the input reads as it did. -/
def inventoryProvesUptoRow : OpenClaim := { program := "yteiopfefmphhaaa", sum := "c4f6a925008eec6b33b657052c83e3a0f11b833bbb29336cc2aaead5b3f32ee9", func := "quintadena/quintadenalaw28.InventoryProves", spec := "inventoryProves", unfollowed := true, recurses := true, apart := false, narrowed := true }
def InventoryProvesUptoSaid : Prop := inventoryProvesUptoRow.holds Try.pinned (OpenSpec.upto inventoryProvesSpec)

end Rows
end Go.Proofs.Yteiopfefmphhaaa
