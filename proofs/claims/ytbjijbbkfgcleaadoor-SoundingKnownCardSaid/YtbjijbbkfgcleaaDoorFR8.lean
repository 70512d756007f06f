import Derived.Test.YtbjijbbkfgcleaaDoorW03
import Derived.Test.YtbjijbbkfgcleaaDoorW04
import Derived.Test.YtbjijbbkfgcleaaDoorRows
import Derived.Test.YtbjijbbkfgcleaaDoorCards
import Derived.Test.YtbjijbbkfgcleaaDoorTie
import Derived.SevenTiedAt
import Derived.ProofKit
import Derived.Handed
import Derived.LaidMore
import Derived.LaidLaws
import Derived.WideShapes
/- This text proves the statement of the claim: for every input the law returns true, and its arguments read as before. -/
set_option autoImplicit false
set_option linter.unusedSimpArgs false
set_option linter.unusedVariables false
set_option linter.unnecessarySimpa false
namespace Go.Proofs.YtbjijbbkfgcleaaDoor
open Go.Gv
open Go.RowKit
open Go.Sn
open Go.Deep Go.ChangeShapes Go.WideShapes
open Sx
set_option maxHeartbeats 1000000 in
set_option maxRecDepth 100000 in
theorem soundingKnown_lifted (os : Os) (started : os.Started) (H : Type) (enc : TypeId × Value → H) :
    ReturnsInHanded {} Tryd.checked os 8 .any (fun w args => (Rows.soundingKnownSpec.pre enc Tryd.prog Tryd.f8 [] false w args ∧ laidMetH Tryd.prog laidL w) ∧ sizedMet enc Tryd.prog Tryd.f8 (OpenSpec.ofChange Rows.soundingKnownSpec) false w args) (Rows.soundingKnownSpec.post enc Tryd.prog Tryd.f8 false true false false) := by
  refine returnsInHanded_of_change_and (C := Tryd.checked) (X := (fun w _ => laidMetH Tryd.prog laidL w)) (fun _ _ _ hh h => h.of_heap hh) tryOwn started (by kernel_rfl) Tryd.func8
    (ChangeSpec.witness_shaped (enc := enc) (C := Tryd.checked) (os := os) (X := (fun w _ => laidMetH Tryd.prog laidL w)) false (World.doorLaid Tryd.prog 400 os) #[] 8 rfl (World.shaped_of_RefB (by kernel_rfl) (by kernel_rfl)) (by kernel_rfl) (by kernel_rfl) (by kernel_rfl) (door_met os _)) ?_
  intro W base args ds gs before hval0 hW _ hwt hL _
  have hval : ∀ (j : Nat) t v, Tryd.f8.params[j]? = some t → args[j]? = some v → Value.okWide Tryd.prog W .any base t v := hval0
  have hW' := hW
  obtain ⟨p, q, hA0, hV, rfl, hfz, hnd⟩ := hW
  have hA : DataW.TrodAll enc Tryd.prog W 0 (fun _ => true) true Tryd.f8.params.toList args.toList ds p := hA0
  rw [Tryd.params8] at hA hval
  obtain ⟨hargs, rfl, rfl⟩ := trodAll_nil hA
  obtain rfl : args = #[] := Array.toList_inj.1 hargs
  obtain ⟨rfl, rfl⟩ := trodVars_none hV
  have hcall := lawKnown_ok W (tab_of hL)
  unfold Sp at hcall
  refine Calls.mono hcall fun e W' ⟨v, l, he, hR, ho⟩ => ⟨v, he, ?_⟩
  obtain ⟨rfl, rfl⟩ := hR
  exact law_post hW' rfl ho.below rfl rfl rfl rfl (by rw [Tryd.params8]; intro t ht; exact absurd ht (by simp))
theorem soundingKnown_over : Rows.SoundingKnownSaid :=
  OpenClaim.holds_of_wide 8 Tryd.f8 rfl rfl rfl rfl rfl rfl rfl ⟨rfl, rfl, rfl, rfl, rfl⟩ rfl rfl rfl rfl rfl (by kernel_rfl) Tryd.func8 (by kernel_rfl)
    (of_decide_eq_true (by kernel_rfl)) (by unfold Func.isWrapper; (rw [if_neg (by decide +kernel)]; exact ⟨rfl, rfl⟩))
    (fun os started H enc _ => soundingKnown_lifted os started H enc)
theorem soundingKnown_proved : Rows.SoundingKnownCardSaid :=
  Claim7.holds_tied_plain_at .later [] [.data, .data, .data] true (true, "3fdb53838ff09d09f1c5bdabf3d8ed56b04bb84408fdda74ac70f4c0d9c78016") false
    soundingKnown_over (fun _ h => by cases h) (by kernel_rfl) (fun _ h => by cases h) soundingKnown_row_tie rfl ⟨rfl, rfl⟩ (by kernel_rfl) rfl
    (fun f fn hf hfn => by
      obtain rfl : f = 8 := Option.some.inj ((show Tryd.prog.funcNamed "quintadena/quintadenalaw12.SoundingKnown" = some 8 by kernel_rfl).symm.trans hf) |>.symm
      obtain rfl : fn = Tryd.f8 := (Option.some.inj (Tryd.func8.symm.trans hfn)).symm
      exact ⟨by kernel_rfl, fun j t ht => by
        rw [Tryd.params8] at ht
        exact absurd ht (by simp)⟩)
    (by kernel_rfl)
end Go.Proofs.YtbjijbbkfgcleaaDoor
