/-
  No cell of these rows narrows 'for every input' (looked for: loops, veiled, ifaces, maps, wideKeys, modest, calm, conditions, laid).
  DERIVED. THE GIVEN ROWS OF THIS SEAT. 5 by the template 'for every input the law returns true; each argument reads behind the call as it read before'; 0 by the template 'total and deterministic' (their statements: YtafmcflggikbfaaTotals.lean).
  GIVEN WITH THE SEED: the statements are not yours to turn. If you find one false, say at which input.
  Laid BY PROGRAM, IN A SANDBOX (cutbox-rows.mjs): the forced cells as the released guide's own fill.sh prints them over the translation ebe0e3f977bd0cd3… (all of the seat's roots in one cut). By AI agents, Wed Nov 11 2026. No macro, syntax, notation, axiom, sorry.
-/
import Derived.Test.YtafmcflggikbfaaChecked
import GoSem.Claim
import GoSem.ClaimJoined
import GoSem.ClaimMapViews
import Derived.JoinedTies
import Derived.KernelRfl
namespace Go.Proofs.Ytafmcflggikbfaa
/- THE CELL 'sum', in the pinned program and in every row, IS THE sha256 OF THE DUMP (.gsa) THAT YtafmcflggikbfaaProg.lean LOADS. Nothing in Lean hashes anything: it is a label: what it is worth is what the hold of that sum in a sandbox is worth. -/
noncomputable def Try.pinned : Pinned := { name := "ytafmcflggikbfaa", sum := "ebe0e3f977bd0cd3b1c954b8d1887a330f6b41bfb64eb5f8a269bf6f03ebe9ae", checked := Try.checked }
namespace Rows
def none {H : Type} : Left H := { results := [], args := [] }

/-- 'quintadenalaw29.WorkshopChecks': WHATEVER THE INPUT: true; the input reads as it did. -/
def workshopChecksSpec : ChangeSpec := { name := "workshopChecks", fn := fun _ => fun
  | [d] => { results := [.lit (.bool true)], args := [d] }
  | _ => none }
def workshopChecksRow : OpenClaim := { program := "ytafmcflggikbfaa", sum := "ebe0e3f977bd0cd3b1c954b8d1887a330f6b41bfb64eb5f8a269bf6f03ebe9ae", func := "quintadena/quintadenalaw29.WorkshopChecks", spec := "workshopChecks", unfollowed := true, recurses := true, apart := false }
def WorkshopChecksSaid : Prop := workshopChecksRow.holds Try.pinned (OpenSpec.ofChange workshopChecksSpec)

/-- ITS FALSE NEIGHBOUR: 'it returns false'. Refute it at one input. -/
def workshopChecksWrong : ChangeSpec := { name := "workshopChecks", fn := fun _ => fun
  | [d] => { results := [.lit (.bool false)], args := [d] }
  | _ => none }
def WorkshopChecksWrongFalsely : Prop := workshopChecksRow.holds Try.pinned (OpenSpec.ofChange workshopChecksWrong)

/-- 'quintadenalaw29.WorkshopFits': WHATEVER THE INPUT: true; the input reads as it did. -/
def workshopFitsSpec : ChangeSpec := { name := "workshopFits", fn := fun _ => fun
  | [d1, d2, d3] => { results := [.lit (.bool true)], args := [d1, d2, d3] }
  | _ => none }
def workshopFitsRow : OpenClaim := { program := "ytafmcflggikbfaa", sum := "ebe0e3f977bd0cd3b1c954b8d1887a330f6b41bfb64eb5f8a269bf6f03ebe9ae", func := "quintadena/quintadenalaw29.WorkshopFits", spec := "workshopFits", unfollowed := true, recurses := true, apart := false }
def WorkshopFitsSaid : Prop := workshopFitsRow.holds Try.pinned (OpenSpec.ofChange workshopFitsSpec)

/-- ITS FALSE NEIGHBOUR: 'it returns false'. Refute it at one input. -/
def workshopFitsWrong : ChangeSpec := { name := "workshopFits", fn := fun _ => fun
  | [d1, d2, d3] => { results := [.lit (.bool false)], args := [d1, d2, d3] }
  | _ => none }
def WorkshopFitsWrongFalsely : Prop := workshopFitsRow.holds Try.pinned (OpenSpec.ofChange workshopFitsWrong)

/-- 'quintadenalaw29.WorkshopPlans': WHATEVER THE INPUT: true; the input reads as it did. -/
def workshopPlansSpec : ChangeSpec := { name := "workshopPlans", fn := fun _ => fun
  | [d1, d2] => { results := [.lit (.bool true)], args := [d1, d2] }
  | _ => none }
def workshopPlansRow : OpenClaim := { program := "ytafmcflggikbfaa", sum := "ebe0e3f977bd0cd3b1c954b8d1887a330f6b41bfb64eb5f8a269bf6f03ebe9ae", func := "quintadena/quintadenalaw29.WorkshopPlans", spec := "workshopPlans", unfollowed := true, recurses := true, apart := false }
def WorkshopPlansSaid : Prop := workshopPlansRow.holds Try.pinned (OpenSpec.ofChange workshopPlansSpec)

/-- ITS FALSE NEIGHBOUR: 'it returns false'. Refute it at one input. -/
def workshopPlansWrong : ChangeSpec := { name := "workshopPlans", fn := fun _ => fun
  | [d1, d2] => { results := [.lit (.bool false)], args := [d1, d2] }
  | _ => none }
def WorkshopPlansWrongFalsely : Prop := workshopPlansRow.holds Try.pinned (OpenSpec.ofChange workshopPlansWrong)

/-- 'quintadenalaw29.WorkshopNone': WHATEVER THE INPUT: true; the input reads as it did. -/
def workshopNoneSpec : ChangeSpec := { name := "workshopNone", fn := fun _ => fun
  | [d] => { results := [.lit (.bool true)], args := [d] }
  | _ => none }
def workshopNoneRow : OpenClaim := { program := "ytafmcflggikbfaa", sum := "ebe0e3f977bd0cd3b1c954b8d1887a330f6b41bfb64eb5f8a269bf6f03ebe9ae", func := "quintadena/quintadenalaw29.WorkshopNone", spec := "workshopNone", unfollowed := true, recurses := true, apart := false }
def WorkshopNoneSaid : Prop := workshopNoneRow.holds Try.pinned (OpenSpec.ofChange workshopNoneSpec)

/-- ITS FALSE NEIGHBOUR: 'it returns false'. Refute it at one input. -/
def workshopNoneWrong : ChangeSpec := { name := "workshopNone", fn := fun _ => fun
  | [d] => { results := [.lit (.bool false)], args := [d] }
  | _ => none }
def WorkshopNoneWrongFalsely : Prop := workshopNoneRow.holds Try.pinned (OpenSpec.ofChange workshopNoneWrong)

/-- 'quintadenalaw29.WorkshopCritical': WHATEVER THE INPUT: true; the input reads as it did. -/
def workshopCriticalSpec : ChangeSpec := { name := "workshopCritical", fn := fun _ => fun
  | [d1, d2, d3] => { results := [.lit (.bool true)], args := [d1, d2, d3] }
  | _ => none }
def workshopCriticalRow : OpenClaim := { program := "ytafmcflggikbfaa", sum := "ebe0e3f977bd0cd3b1c954b8d1887a330f6b41bfb64eb5f8a269bf6f03ebe9ae", func := "quintadena/quintadenalaw29.WorkshopCritical", spec := "workshopCritical", unfollowed := true, recurses := true, apart := false }
def WorkshopCriticalSaid : Prop := workshopCriticalRow.holds Try.pinned (OpenSpec.ofChange workshopCriticalSpec)

/-- ITS FALSE NEIGHBOUR: 'it returns false'. Refute it at one input. -/
def workshopCriticalWrong : ChangeSpec := { name := "workshopCritical", fn := fun _ => fun
  | [d1, d2, d3] => { results := [.lit (.bool false)], args := [d1, d2, d3] }
  | _ => none }
def WorkshopCriticalWrongFalsely : Prop := workshopCriticalRow.holds Try.pinned (OpenSpec.ofChange workshopCriticalWrong)

/- THE SECOND FORM. 'bulk': how many values and letters a reading holds, each counted each time it is reached (what is shared counts as often as it is met; a slice's spare places count too). A statement '..UptoSaid' is the law's where the arguments, and the package variables that the reading takes, are together of bulk at most 1048576: NARROWER than '..Said'. Prove '..Said' where nothing that the law and all that it calls make is longer than what came in: it says more and counts as full. Else prove '..UptoSaid'. A law counts once. -/
mutual
def uptoBulk {H : Type} : DataW H → Nat
  | .lit (.string bytes) => bytes.length + 1
  | .lit _ => 1
  | .nil => 1
  | .ptr d => uptoBulk d + 1
  | .slice elems spare => uptoBulkAll elems + uptoBulkAll spare + 1
  | .agg parts => uptoBulkAll parts + 1
  | .iface _ d => uptoBulk d + 1
  | .map entries => uptoBulkEntries entries + 1
  | .held _ => 1
def uptoBulkAll {H : Type} : List (DataW H) → Nat
  | [] => 0
  | d :: r => uptoBulk d + uptoBulkAll r
def uptoBulkEntries {H : Type} : List (Lit × DataW H) → Nat
  | [] => 0
  | x :: r => uptoBulkEntry x + uptoBulkEntries r
def uptoBulkEntry {H : Type} : Lit × DataW H → Nat
  | (.string bytes, d) => bytes.length + uptoBulk d + 1
  | (_, d) => uptoBulk d + 1
 end
def uptoSmall : (H : Type) → List (DataW H) → Bool := fun _ ds => decide (uptoBulkAll ds ≤ 1048576)
def OpenSpec.upto (s : _root_.Go.ChangeSpec) : _root_.Go.OpenSpec := { _root_.Go.OpenSpec.ofChange s with cond := some uptoSmall }

/-- 'quintadenalaw29.WorkshopChecks', WHERE WHAT IT READS IS OF BULK AT MOST 1048576: true; the input reads as it did. -/
def workshopChecksUptoRow : OpenClaim := { program := "ytafmcflggikbfaa", sum := "ebe0e3f977bd0cd3b1c954b8d1887a330f6b41bfb64eb5f8a269bf6f03ebe9ae", func := "quintadena/quintadenalaw29.WorkshopChecks", spec := "workshopChecks", unfollowed := true, recurses := true, apart := false, narrowed := true }
def WorkshopChecksUptoSaid : Prop := workshopChecksUptoRow.holds Try.pinned (OpenSpec.upto workshopChecksSpec)

/-- 'quintadenalaw29.WorkshopFits', WHERE WHAT IT READS IS OF BULK AT MOST 1048576: true; the input reads as it did. -/
def workshopFitsUptoRow : OpenClaim := { program := "ytafmcflggikbfaa", sum := "ebe0e3f977bd0cd3b1c954b8d1887a330f6b41bfb64eb5f8a269bf6f03ebe9ae", func := "quintadena/quintadenalaw29.WorkshopFits", spec := "workshopFits", unfollowed := true, recurses := true, apart := false, narrowed := true }
def WorkshopFitsUptoSaid : Prop := workshopFitsUptoRow.holds Try.pinned (OpenSpec.upto workshopFitsSpec)

/-- 'quintadenalaw29.WorkshopPlans', WHERE WHAT IT READS IS OF BULK AT MOST 1048576: true; the input reads as it did. -/
def workshopPlansUptoRow : OpenClaim := { program := "ytafmcflggikbfaa", sum := "ebe0e3f977bd0cd3b1c954b8d1887a330f6b41bfb64eb5f8a269bf6f03ebe9ae", func := "quintadena/quintadenalaw29.WorkshopPlans", spec := "workshopPlans", unfollowed := true, recurses := true, apart := false, narrowed := true }
def WorkshopPlansUptoSaid : Prop := workshopPlansUptoRow.holds Try.pinned (OpenSpec.upto workshopPlansSpec)

/-- 'quintadenalaw29.WorkshopNone', WHERE WHAT IT READS IS OF BULK AT MOST 1048576: true; the input reads as it did. -/
def workshopNoneUptoRow : OpenClaim := { program := "ytafmcflggikbfaa", sum := "ebe0e3f977bd0cd3b1c954b8d1887a330f6b41bfb64eb5f8a269bf6f03ebe9ae", func := "quintadena/quintadenalaw29.WorkshopNone", spec := "workshopNone", unfollowed := true, recurses := true, apart := false, narrowed := true }
def WorkshopNoneUptoSaid : Prop := workshopNoneUptoRow.holds Try.pinned (OpenSpec.upto workshopNoneSpec)

/-- 'quintadenalaw29.WorkshopCritical', WHERE WHAT IT READS IS OF BULK AT MOST 1048576: true; the input reads as it did. -/
def workshopCriticalUptoRow : OpenClaim := { program := "ytafmcflggikbfaa", sum := "ebe0e3f977bd0cd3b1c954b8d1887a330f6b41bfb64eb5f8a269bf6f03ebe9ae", func := "quintadena/quintadenalaw29.WorkshopCritical", spec := "workshopCritical", unfollowed := true, recurses := true, apart := false, narrowed := true }
def WorkshopCriticalUptoSaid : Prop := workshopCriticalUptoRow.holds Try.pinned (OpenSpec.upto workshopCriticalSpec)

end Rows
end Go.Proofs.Ytafmcflggikbfaa
