import Derived.Test.YthcbcdjkfefnlaaGreatDoorW00
import Derived.Test.YthcbcdjkfefnlaaGreatDoorW04
import Derived.Test.YthcbcdjkfefnlaaGreatDoorRows
import Derived.Test.YthcbcdjkfefnlaaGreatDoorCards
import Derived.Test.YthcbcdjkfefnlaaGreatDoorTie
import Derived.SevenTiedAt
import Derived.ProofKit
import Derived.Handed
import Derived.LaidMore
import Derived.LaidLaws
import Derived.WideShapes
/- The law PistonsKnown returns true. -/
set_option autoImplicit false
set_option linter.unusedSimpArgs false
set_option linter.unusedVariables false
set_option linter.unnecessarySimpa false
set_option maxRecDepth 100000
set_option maxHeartbeats 8000000
namespace Go.Proofs.YthcbcdjkfefnlaaGreatDoor
open Go.Gv
open Go.RowKit
open Go.Sn hiding En keysP keysP_len stop_ok
open Go.Ps
open Go.Deep Go.ChangeShapes Go.WideShapes
open Iv Sx Ip
theorem J9 (os : Os) (started : os.Started) (H : Type) (enc : TypeId × Value → H) :
    ReturnsInHanded {} Tryz.checked os 8 .any (fun w args => (Rows.pistonsKnownSpec.pre enc Tryz.prog Tryz.f8 [] false w args ∧ laidMetH Tryz.prog laidL w) ∧ sizedMet enc Tryz.prog Tryz.f8 (OpenSpec.ofChange Rows.pistonsKnownSpec) false w args) (Rows.pistonsKnownSpec.post enc Tryz.prog Tryz.f8 false true false false) := by
  refine returnsInHanded_of_change_and (C := Tryz.checked) (X := (fun w _ => laidMetH Tryz.prog laidL w)) (fun _ _ _ hh h => h.of_heap hh) tryOwn started (by kernel_rfl) Tryz.func8
    (ChangeSpec.witness_shaped (enc := enc) (C := Tryz.checked) (os := os) (X := (fun w _ => laidMetH Tryz.prog laidL w)) false (World.doorLaid Tryz.prog 400 os) #[] 8 rfl (World.shaped_of_RefB (by kernel_rfl) (by kernel_rfl)) (by kernel_rfl) (by kernel_rfl) (by kernel_rfl) (door_met os _)) ?_
  intro W base args ds gs before hval0 hW _ hwt hL _
  have hval : ∀ (j : Nat) t v, Tryz.f8.params[j]? = some t → args[j]? = some v → Value.okWide Tryz.prog W .any base t v := hval0
  have hW' := hW
  obtain ⟨p, q, hA0, hV, rfl, hfz, hnd⟩ := hW
  have hA : DataW.TrodAll enc Tryz.prog W 0 (fun _ => true) true Tryz.f8.params.toList args.toList ds p := hA0
  rw [Tryz.params8] at hA hval
  obtain ⟨hargs, rfl, rfl⟩ := trodAll_nil hA
  obtain rfl : args = #[] := Array.toList_inj.1 hargs
  obtain ⟨rfl, rfl⟩ := trodVars_none hV
  have hcall := Zkv W
  unfold Sp at hcall
  refine Calls.mono hcall fun e W' ⟨v, l, he, hR, ho⟩ => ⟨v, he, ?_⟩
  obtain ⟨rfl, rfl⟩ := hR
  exact law_post hW' rfl ho.below rfl rfl rfl rfl (by rw [Tryz.params8]; intro t ht; exact absurd ht (by simp))
theorem Zb2 : Rows.PistonsKnownSaid :=
  OpenClaim.holds_of_wide 8 Tryz.f8 rfl rfl rfl rfl rfl rfl rfl ⟨rfl, rfl, rfl, rfl, rfl⟩ rfl rfl rfl rfl rfl (by kernel_rfl) Tryz.func8 (by kernel_rfl)
    (of_decide_eq_true (by kernel_rfl)) (by unfold Func.isWrapper; (rw [if_neg (by decide +kernel)]; exact ⟨rfl, rfl⟩))
    (fun os started H enc _ => J9 os started H enc)
theorem pistonsKnown_proved : Rows.PistonsKnownCardSaid :=
  Claim7.holds_tied_plain_at .later [] [.data, .data, .data] true (true, "3a8a81b080a07903ab95eb374d723c897ca25787b2eb29dcfbeda480d3fb6a4b") false
    Zb2 (fun _ h => by cases h) (by kernel_rfl) (fun _ h => by cases h) pistonsKnown_row_tie rfl ⟨rfl, rfl⟩ (by kernel_rfl) rfl
    (fun f fn hf hfn => by
      obtain rfl : f = 8 := Option.some.inj ((show Tryz.prog.funcNamed "quintadena/quintadenalaw21.PistonsKnown" = some 8 by kernel_rfl).symm.trans hf) |>.symm
      obtain rfl : fn = Tryz.f8 := (Option.some.inj (Tryz.func8.symm.trans hfn)).symm
      exact ⟨by kernel_rfl, fun j t ht => by
        rw [Tryz.params8] at ht
        exact absurd ht (by simp)⟩)
    (by kernel_rfl)
end Go.Proofs.YthcbcdjkfefnlaaGreatDoor
