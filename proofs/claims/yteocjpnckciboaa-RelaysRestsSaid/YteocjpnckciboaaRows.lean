/-
  No cell of these rows narrows 'for every input' (looked for: loops, veiled, ifaces, maps, wideKeys, modest, calm, conditions, laid).
  DERIVED. THE GIVEN ROWS OF THIS SEAT. 8 by the template 'for every input the law returns true; each argument reads behind the call as it read before'; 0 by the template 'total and deterministic' (their statements: YteocjpnckciboaaTotals.lean).
  GIVEN WITH THE SEED: the statements are not yours to turn. If you find one false, say at which input.
  Laid BY PROGRAM, IN A SANDBOX (cutbox-rows.mjs): the forced cells as the released guide's own fill.sh prints them over the translation 40f550277d4d7225… (all of the seat's roots in one cut). By AI agents, Wed Nov 11 2026. No macro, syntax, notation, axiom, sorry.
-/
import Derived.Test.YteocjpnckciboaaChecked
import GoSem.Claim
import GoSem.ClaimJoined
import GoSem.ClaimMapViews
import Derived.JoinedTies
import Derived.KernelRfl
namespace Go.Proofs.Yteocjpnckciboaa
/- THE CELL 'sum', in the pinned program and in every row, IS THE sha256 OF THE DUMP (.gsa) THAT YteocjpnckciboaaProg.lean LOADS. Nothing in Lean hashes anything: it is a label: what it is worth is what the hold of that sum in a sandbox is worth. -/
noncomputable def Try.pinned : Pinned := { name := "yteocjpnckciboaa", sum := "40f550277d4d7225a55001edcc433350db9c3a68d8c1b7bd8efe8422cefcc74f", checked := Try.checked }
namespace Rows
def none {H : Type} : Left H := { results := [], args := [] }

/-- 'quintadenalaw19.RelaysOrders': WHATEVER THE INPUT: true; the input reads as it did. -/
def relaysOrdersSpec : ChangeSpec := { name := "relaysOrders", fn := fun _ => fun
  | [d1, d2, d3] => { results := [.lit (.bool true)], args := [d1, d2, d3] }
  | _ => none }
def relaysOrdersRow : OpenClaim := { program := "yteocjpnckciboaa", sum := "40f550277d4d7225a55001edcc433350db9c3a68d8c1b7bd8efe8422cefcc74f", func := "quintadena/quintadenalaw19.RelaysOrders", spec := "relaysOrders", unfollowed := true, recurses := true, apart := false }
def RelaysOrdersSaid : Prop := relaysOrdersRow.holds Try.pinned (OpenSpec.ofChange relaysOrdersSpec)

/-- ITS FALSE NEIGHBOUR: 'it returns false'. Refute it at one input. -/
def relaysOrdersWrong : ChangeSpec := { name := "relaysOrders", fn := fun _ => fun
  | [d1, d2, d3] => { results := [.lit (.bool false)], args := [d1, d2, d3] }
  | _ => none }
def RelaysOrdersWrongFalsely : Prop := relaysOrdersRow.holds Try.pinned (OpenSpec.ofChange relaysOrdersWrong)

/-- 'quintadenalaw19.RelaysWitness': WHATEVER THE INPUT: true; the input reads as it did. -/
def relaysWitnessSpec : ChangeSpec := { name := "relaysWitness", fn := fun _ => fun
  | [d1, d2, d3] => { results := [.lit (.bool true)], args := [d1, d2, d3] }
  | _ => none }
def relaysWitnessRow : OpenClaim := { program := "yteocjpnckciboaa", sum := "40f550277d4d7225a55001edcc433350db9c3a68d8c1b7bd8efe8422cefcc74f", func := "quintadena/quintadenalaw19.RelaysWitness", spec := "relaysWitness", unfollowed := true, recurses := true, apart := false }
def RelaysWitnessSaid : Prop := relaysWitnessRow.holds Try.pinned (OpenSpec.ofChange relaysWitnessSpec)

/-- ITS FALSE NEIGHBOUR: 'it returns false'. Refute it at one input. -/
def relaysWitnessWrong : ChangeSpec := { name := "relaysWitness", fn := fun _ => fun
  | [d1, d2, d3] => { results := [.lit (.bool false)], args := [d1, d2, d3] }
  | _ => none }
def RelaysWitnessWrongFalsely : Prop := relaysWitnessRow.holds Try.pinned (OpenSpec.ofChange relaysWitnessWrong)

/-- 'quintadenalaw19.RelaysNexts': WHATEVER THE INPUT: true; the input reads as it did. -/
def relaysNextsSpec : ChangeSpec := { name := "relaysNexts", fn := fun _ => fun
  | [d1, d2, d3] => { results := [.lit (.bool true)], args := [d1, d2, d3] }
  | _ => none }
def relaysNextsRow : OpenClaim := { program := "yteocjpnckciboaa", sum := "40f550277d4d7225a55001edcc433350db9c3a68d8c1b7bd8efe8422cefcc74f", func := "quintadena/quintadenalaw19.RelaysNexts", spec := "relaysNexts", unfollowed := true, recurses := true, apart := false }
def RelaysNextsSaid : Prop := relaysNextsRow.holds Try.pinned (OpenSpec.ofChange relaysNextsSpec)

/-- ITS FALSE NEIGHBOUR: 'it returns false'. Refute it at one input. -/
def relaysNextsWrong : ChangeSpec := { name := "relaysNexts", fn := fun _ => fun
  | [d1, d2, d3] => { results := [.lit (.bool false)], args := [d1, d2, d3] }
  | _ => none }
def RelaysNextsWrongFalsely : Prop := relaysNextsRow.holds Try.pinned (OpenSpec.ofChange relaysNextsWrong)

/-- 'quintadenalaw19.RelaysPlain': WHATEVER THE INPUT: true; the input reads as it did. -/
def relaysPlainSpec : ChangeSpec := { name := "relaysPlain", fn := fun _ => fun
  | [d1, d2] => { results := [.lit (.bool true)], args := [d1, d2] }
  | _ => none }
def relaysPlainRow : OpenClaim := { program := "yteocjpnckciboaa", sum := "40f550277d4d7225a55001edcc433350db9c3a68d8c1b7bd8efe8422cefcc74f", func := "quintadena/quintadenalaw19.RelaysPlain", spec := "relaysPlain", unfollowed := true, recurses := true, apart := false }
def RelaysPlainSaid : Prop := relaysPlainRow.holds Try.pinned (OpenSpec.ofChange relaysPlainSpec)

/-- ITS FALSE NEIGHBOUR: 'it returns false'. Refute it at one input. -/
def relaysPlainWrong : ChangeSpec := { name := "relaysPlain", fn := fun _ => fun
  | [d1, d2] => { results := [.lit (.bool false)], args := [d1, d2] }
  | _ => none }
def RelaysPlainWrongFalsely : Prop := relaysPlainRow.holds Try.pinned (OpenSpec.ofChange relaysPlainWrong)

/-- 'quintadenalaw19.RelaysKnown': WHATEVER THE INPUT: true; the input reads as it did. -/
def relaysKnownSpec : ChangeSpec := { name := "relaysKnown", fn := fun _ => fun
  | [] => { results := [.lit (.bool true)], args := [] }
  | _ => none }
def relaysKnownRow : OpenClaim := { program := "yteocjpnckciboaa", sum := "40f550277d4d7225a55001edcc433350db9c3a68d8c1b7bd8efe8422cefcc74f", func := "quintadena/quintadenalaw19.RelaysKnown", spec := "relaysKnown", unfollowed := true, recurses := true, apart := false }
def RelaysKnownSaid : Prop := relaysKnownRow.holds Try.pinned (OpenSpec.ofChange relaysKnownSpec)

/-- ITS FALSE NEIGHBOUR: 'it returns false'. Refute it at one input. -/
def relaysKnownWrong : ChangeSpec := { name := "relaysKnown", fn := fun _ => fun
  | [] => { results := [.lit (.bool false)], args := [] }
  | _ => none }
def RelaysKnownWrongFalsely : Prop := relaysKnownRow.holds Try.pinned (OpenSpec.ofChange relaysKnownWrong)

/-- 'quintadenalaw19.RelaysAccepts': WHATEVER THE INPUT: true; the input reads as it did. -/
def relaysAcceptsSpec : ChangeSpec := { name := "relaysAccepts", fn := fun _ => fun
  | [d1, d2, d3] => { results := [.lit (.bool true)], args := [d1, d2, d3] }
  | _ => none }
def relaysAcceptsRow : OpenClaim := { program := "yteocjpnckciboaa", sum := "40f550277d4d7225a55001edcc433350db9c3a68d8c1b7bd8efe8422cefcc74f", func := "quintadena/quintadenalaw19.RelaysAccepts", spec := "relaysAccepts", unfollowed := true, recurses := true, apart := false }
def RelaysAcceptsSaid : Prop := relaysAcceptsRow.holds Try.pinned (OpenSpec.ofChange relaysAcceptsSpec)

/-- ITS FALSE NEIGHBOUR: 'it returns false'. Refute it at one input. -/
def relaysAcceptsWrong : ChangeSpec := { name := "relaysAccepts", fn := fun _ => fun
  | [d1, d2, d3] => { results := [.lit (.bool false)], args := [d1, d2, d3] }
  | _ => none }
def RelaysAcceptsWrongFalsely : Prop := relaysAcceptsRow.holds Try.pinned (OpenSpec.ofChange relaysAcceptsWrong)

/-- 'quintadenalaw19.RelaysAccepted': WHATEVER THE INPUT: true; the input reads as it did. -/
def relaysAcceptedSpec : ChangeSpec := { name := "relaysAccepted", fn := fun _ => fun
  | [d1, d2, d3] => { results := [.lit (.bool true)], args := [d1, d2, d3] }
  | _ => none }
def relaysAcceptedRow : OpenClaim := { program := "yteocjpnckciboaa", sum := "40f550277d4d7225a55001edcc433350db9c3a68d8c1b7bd8efe8422cefcc74f", func := "quintadena/quintadenalaw19.RelaysAccepted", spec := "relaysAccepted", unfollowed := true, recurses := true, apart := false }
def RelaysAcceptedSaid : Prop := relaysAcceptedRow.holds Try.pinned (OpenSpec.ofChange relaysAcceptedSpec)

/-- ITS FALSE NEIGHBOUR: 'it returns false'. Refute it at one input. -/
def relaysAcceptedWrong : ChangeSpec := { name := "relaysAccepted", fn := fun _ => fun
  | [d1, d2, d3] => { results := [.lit (.bool false)], args := [d1, d2, d3] }
  | _ => none }
def RelaysAcceptedWrongFalsely : Prop := relaysAcceptedRow.holds Try.pinned (OpenSpec.ofChange relaysAcceptedWrong)

/-- 'quintadenalaw19.RelaysRests': WHATEVER THE INPUT: true; the input reads as it did. -/
def relaysRestsSpec : ChangeSpec := { name := "relaysRests", fn := fun _ => fun
  | [d1, d2, d3] => { results := [.lit (.bool true)], args := [d1, d2, d3] }
  | _ => none }
def relaysRestsRow : OpenClaim := { program := "yteocjpnckciboaa", sum := "40f550277d4d7225a55001edcc433350db9c3a68d8c1b7bd8efe8422cefcc74f", func := "quintadena/quintadenalaw19.RelaysRests", spec := "relaysRests", unfollowed := true, recurses := true, apart := false }
def RelaysRestsSaid : Prop := relaysRestsRow.holds Try.pinned (OpenSpec.ofChange relaysRestsSpec)

/-- ITS FALSE NEIGHBOUR: 'it returns false'. Refute it at one input. -/
def relaysRestsWrong : ChangeSpec := { name := "relaysRests", fn := fun _ => fun
  | [d1, d2, d3] => { results := [.lit (.bool false)], args := [d1, d2, d3] }
  | _ => none }
def RelaysRestsWrongFalsely : Prop := relaysRestsRow.holds Try.pinned (OpenSpec.ofChange relaysRestsWrong)

/- THE SECOND FORM. 'bulk': how many values and letters a reading holds, each counted each time it is reached (what is shared counts as often as it is met; a slice's spare places count too). A statement '..UptoSaid' is the law's where the arguments, and the package variables that the reading takes, are together of bulk at most 1048576: NARROWER than '..Said'. Prove '..Said' where nothing that the law and all that it calls make is longer than what came in: it says more and counts as full. Else prove '..UptoSaid'. A law counts once. -/
mutual
def uptoBulk {H : Type} : DataW H → Nat
  | .lit (.string bytes) => bytes.length + 1
  | .lit _ => 1
  | .nil => 1
  | .ptr d => uptoBulk d + 1
  | .slice elems spare => uptoBulkAll elems + uptoBulkAll spare + 1
  | .agg parts => uptoBulkAll parts + 1
  | .iface _ d => uptoBulk d + 1
  | .map entries => uptoBulkEntries entries + 1
  | .held _ => 1
def uptoBulkAll {H : Type} : List (DataW H) → Nat
  | [] => 0
  | d :: r => uptoBulk d + uptoBulkAll r
def uptoBulkEntries {H : Type} : List (Lit × DataW H) → Nat
  | [] => 0
  | x :: r => uptoBulkEntry x + uptoBulkEntries r
def uptoBulkEntry {H : Type} : Lit × DataW H → Nat
  | (.string bytes, d) => bytes.length + uptoBulk d + 1
  | (_, d) => uptoBulk d + 1
 end
def uptoSmall : (H : Type) → List (DataW H) → Bool := fun _ ds => decide (uptoBulkAll ds ≤ 1048576)
def OpenSpec.upto (s : _root_.Go.ChangeSpec) : _root_.Go.OpenSpec := { _root_.Go.OpenSpec.ofChange s with cond := some uptoSmall }

/-- 'quintadenalaw19.RelaysOrders', WHERE WHAT IT READS IS OF BULK AT MOST 1048576: true; the input reads as it did. -/
def relaysOrdersUptoRow : OpenClaim := { program := "yteocjpnckciboaa", sum := "40f550277d4d7225a55001edcc433350db9c3a68d8c1b7bd8efe8422cefcc74f", func := "quintadena/quintadenalaw19.RelaysOrders", spec := "relaysOrders", unfollowed := true, recurses := true, apart := false, narrowed := true }
def RelaysOrdersUptoSaid : Prop := relaysOrdersUptoRow.holds Try.pinned (OpenSpec.upto relaysOrdersSpec)

/-- 'quintadenalaw19.RelaysWitness', WHERE WHAT IT READS IS OF BULK AT MOST 1048576: true; the input reads as it did. -/
def relaysWitnessUptoRow : OpenClaim := { program := "yteocjpnckciboaa", sum := "40f550277d4d7225a55001edcc433350db9c3a68d8c1b7bd8efe8422cefcc74f", func := "quintadena/quintadenalaw19.RelaysWitness", spec := "relaysWitness", unfollowed := true, recurses := true, apart := false, narrowed := true }
def RelaysWitnessUptoSaid : Prop := relaysWitnessUptoRow.holds Try.pinned (OpenSpec.upto relaysWitnessSpec)

/-- 'quintadenalaw19.RelaysNexts', WHERE WHAT IT READS IS OF BULK AT MOST 1048576: true; the input reads as it did. -/
def relaysNextsUptoRow : OpenClaim := { program := "yteocjpnckciboaa", sum := "40f550277d4d7225a55001edcc433350db9c3a68d8c1b7bd8efe8422cefcc74f", func := "quintadena/quintadenalaw19.RelaysNexts", spec := "relaysNexts", unfollowed := true, recurses := true, apart := false, narrowed := true }
def RelaysNextsUptoSaid : Prop := relaysNextsUptoRow.holds Try.pinned (OpenSpec.upto relaysNextsSpec)

/-- 'quintadenalaw19.RelaysPlain', WHERE WHAT IT READS IS OF BULK AT MOST 1048576: true; the input reads as it did. -/
def relaysPlainUptoRow : OpenClaim := { program := "yteocjpnckciboaa", sum := "40f550277d4d7225a55001edcc433350db9c3a68d8c1b7bd8efe8422cefcc74f", func := "quintadena/quintadenalaw19.RelaysPlain", spec := "relaysPlain", unfollowed := true, recurses := true, apart := false, narrowed := true }
def RelaysPlainUptoSaid : Prop := relaysPlainUptoRow.holds Try.pinned (OpenSpec.upto relaysPlainSpec)

/-- 'quintadenalaw19.RelaysKnown', WHERE WHAT IT READS IS OF BULK AT MOST 1048576: true; the input reads as it did. -/
def relaysKnownUptoRow : OpenClaim := { program := "yteocjpnckciboaa", sum := "40f550277d4d7225a55001edcc433350db9c3a68d8c1b7bd8efe8422cefcc74f", func := "quintadena/quintadenalaw19.RelaysKnown", spec := "relaysKnown", unfollowed := true, recurses := true, apart := false, narrowed := true }
def RelaysKnownUptoSaid : Prop := relaysKnownUptoRow.holds Try.pinned (OpenSpec.upto relaysKnownSpec)

/-- 'quintadenalaw19.RelaysAccepts', WHERE WHAT IT READS IS OF BULK AT MOST 1048576: true; the input reads as it did. -/
def relaysAcceptsUptoRow : OpenClaim := { program := "yteocjpnckciboaa", sum := "40f550277d4d7225a55001edcc433350db9c3a68d8c1b7bd8efe8422cefcc74f", func := "quintadena/quintadenalaw19.RelaysAccepts", spec := "relaysAccepts", unfollowed := true, recurses := true, apart := false, narrowed := true }
def RelaysAcceptsUptoSaid : Prop := relaysAcceptsUptoRow.holds Try.pinned (OpenSpec.upto relaysAcceptsSpec)

/-- 'quintadenalaw19.RelaysAccepted', WHERE WHAT IT READS IS OF BULK AT MOST 1048576: true; the input reads as it did. -/
def relaysAcceptedUptoRow : OpenClaim := { program := "yteocjpnckciboaa", sum := "40f550277d4d7225a55001edcc433350db9c3a68d8c1b7bd8efe8422cefcc74f", func := "quintadena/quintadenalaw19.RelaysAccepted", spec := "relaysAccepted", unfollowed := true, recurses := true, apart := false, narrowed := true }
def RelaysAcceptedUptoSaid : Prop := relaysAcceptedUptoRow.holds Try.pinned (OpenSpec.upto relaysAcceptedSpec)

/-- 'quintadenalaw19.RelaysRests', WHERE WHAT IT READS IS OF BULK AT MOST 1048576: true; the input reads as it did. -/
def relaysRestsUptoRow : OpenClaim := { program := "yteocjpnckciboaa", sum := "40f550277d4d7225a55001edcc433350db9c3a68d8c1b7bd8efe8422cefcc74f", func := "quintadena/quintadenalaw19.RelaysRests", spec := "relaysRests", unfollowed := true, recurses := true, apart := false, narrowed := true }
def RelaysRestsUptoSaid : Prop := relaysRestsUptoRow.holds Try.pinned (OpenSpec.upto relaysRestsSpec)

end Rows
end Go.Proofs.Yteocjpnckciboaa
