import Derived.Test.YtbjijbbkfgcleaaGreatDoorW05
import Derived.Test.YtbjijbbkfgcleaaGreatDoorRows
import Derived.Test.YtbjijbbkfgcleaaGreatDoorCards
import Derived.Test.YtbjijbbkfgcleaaGreatDoorTie
import Derived.SevenTiedAt
import Derived.ProofKit
import Derived.Handed
import Derived.LaidMore
import Derived.LaidLaws
import Derived.WideShapes
/- This text proves the statement of the claim: for every input the law returns true, and its arguments read as before. -/
set_option autoImplicit false
set_option linter.unusedSimpArgs false
set_option linter.unusedVariables false
set_option linter.unnecessarySimpa false
namespace Go.Proofs.YtbjijbbkfgcleaaGreatDoor
open Go.Gv
open Go.RowKit
open Go.Sn
open Go.Deep Go.ChangeShapes Go.WideShapes
open Sx
set_option maxHeartbeats 1000000 in
set_option maxRecDepth 100000 in
theorem soundingChanges_lifted (os : Os) (started : os.Started) (H : Type) (enc : TypeId × Value → H) :
    ReturnsInHanded {} Tryz.checked os 4 .any (fun w args => (Rows.soundingChangesSpec.pre enc Tryz.prog Tryz.f4 [] false w args ∧ laidMetH Tryz.prog laidL w) ∧ sizedMet enc Tryz.prog Tryz.f4 (OpenSpec.ofChange Rows.soundingChangesSpec) false w args) (Rows.soundingChangesSpec.post enc Tryz.prog Tryz.f4 false true false false) := by
  refine returnsInHanded_of_change_and (C := Tryz.checked) (X := (fun w _ => laidMetH Tryz.prog laidL w)) (fun _ _ _ hh h => h.of_heap hh) tryOwn started (by kernel_rfl) Tryz.func4
    (ChangeSpec.witness_shaped (enc := enc) (C := Tryz.checked) (os := os) (X := (fun w _ => laidMetH Tryz.prog laidL w)) false (World.doorLaid Tryz.prog 400 os) #[.agg #[.slice none 0 0, .slice none 0 0, .slice none 0 0, .slice none 0 0], .agg #[.slice none 0 0, .slice none 0 0, .slice none 0 0], .agg #[.slice none 0 0, .slice none 0 0, .slice none 0 0]] 8 rfl (World.shaped_of_RefB (by kernel_rfl) (by kernel_rfl)) (by kernel_rfl) (by kernel_rfl) (by kernel_rfl) (door_met os _)) ?_
  intro W base args ds gs before hval0 hW _ hwt hL _
  have hval : ∀ (j : Nat) t v, Tryz.f4.params[j]? = some t → args[j]? = some v → Value.okWide Tryz.prog W .any base t v := hval0
  have hW' := hW
  obtain ⟨p, q, hA0, hV, rfl, hfz, hnd⟩ := hW
  have hA : DataW.TrodAll enc Tryz.prog W 0 (fun _ => true) true Tryz.f4.params.toList args.toList ds p := hA0
  rw [Tryz.params4] at hA hval
  obtain ⟨v0, vs0, d0, ds0, p0, q0, hargs, rfl, rfl, h0, r0⟩ := trodAll_cons hA
  obtain ⟨v1, vs1, d1, ds1, p1, q1, rfl, rfl, rfl, h1, r1⟩ := trodAll_cons r0
  obtain ⟨v2, vs2, d2, ds2, p2, q2, rfl, rfl, rfl, h2, r2⟩ := trodAll_cons r1
  obtain ⟨rfl, rfl, rfl⟩ := trodAll_nil r2
  obtain rfl : args = #[v0, v1, v2] := Array.toList_inj.1 hargs
  obtain ⟨rfl, rfl⟩ := trodVars_none hV
  obtain ⟨cs0, rfl, hsz0⟩ := okWide_struct Tryz.underlying27 (hval 0 27 v0 rfl rfl)
  obtain ⟨fuel0, hf0⟩ := h0
  obtain ⟨s0, hc0, hin0, hle0⟩ := openOrg hf0 (fun b hb => by
    have := List.all_eq_true.1 hwt b (DataW.weights_mem_each (j := 0) (t := 27) rfl rfl b hb)
    simpa using this)
  have e0 : Value.agg cs0 = s0.val := by
    have : cs0 = s0.cells.toArray := by rw [← hc0]; simp [Value.cells]
    rw [this]; rfl
  obtain ⟨cs1, rfl, hsz1⟩ := okWide_struct Tryz.underlying31 (hval 1 31 v1 rfl rfl)
  obtain ⟨fuel1, hf1⟩ := h1
  obtain ⟨s1, hc1, hin1, hle1⟩ := openHd hf1 (fun b hb => by
    have := List.all_eq_true.1 hwt b (DataW.weights_mem_each (j := 1) (t := 31) rfl rfl b hb)
    simpa using this)
  have e1 : Value.agg cs1 = s1.val := by
    have : cs1 = s1.cells.toArray := by rw [← hc1]; simp [Value.cells]
    rw [this]; rfl
  obtain ⟨cs2, rfl, hsz2⟩ := okWide_struct Tryz.underlying31 (hval 2 31 v2 rfl rfl)
  obtain ⟨fuel2, hf2⟩ := h2
  obtain ⟨s2, hc2, hin2, hle2⟩ := openHd hf2 (fun b hb => by
    have := List.all_eq_true.1 hwt b (DataW.weights_mem_each (j := 2) (t := 31) rfl rfl b hb)
    simpa using this)
  have e2 : Value.agg cs2 = s2.val := by
    have : cs2 = s2.cells.toArray := by rw [← hc2]; simp [Value.cells]
    rw [this]; rfl
  have hcall := lawChanges_ok s0 s1 s2 hle0 hle1 hle2 W hin0 hin1 hin2 (tab_of hL)
  rw [e0]
  rw [e0] at hW'
  rw [e1]
  rw [e1] at hW'
  rw [e2]
  rw [e2] at hW'
  unfold Sp at hcall
  refine Calls.mono hcall fun e W' ⟨v, l, he, hR, ho⟩ => ⟨v, he, ?_⟩
  obtain ⟨rfl, rfl⟩ := hR
  exact law_post hW' rfl ho.below rfl rfl rfl rfl (by rw [Tryz.params4]; intro t ht; simp at ht; rcases ht with rfl | rfl <;> exact ⟨by kernel_rfl, of_decide_eq_true (by kernel_rfl)⟩)
theorem soundingChanges_over : Rows.SoundingChangesSaid :=
  OpenClaim.holds_of_wide 4 Tryz.f4 rfl rfl rfl rfl rfl rfl rfl ⟨rfl, rfl, rfl, rfl, rfl⟩ rfl rfl rfl rfl rfl (by kernel_rfl) Tryz.func4 (by kernel_rfl)
    (of_decide_eq_true (by kernel_rfl)) (by unfold Func.isWrapper; (rw [if_neg (by decide +kernel)]; exact ⟨rfl, rfl⟩))
    (fun os started H enc _ => soundingChanges_lifted os started H enc)
theorem soundingChanges_proved : Rows.SoundingChangesCardSaid :=
  Claim7.holds_tied_plain_at .later [] [.data, .data, .data] true (true, "a7c7d8dbde92a88d70be74f9498e6a5108f861e87f56a73ded518a7011e6dd82") false
    soundingChanges_over (fun _ h => by cases h) (by kernel_rfl) (fun _ h => by cases h) soundingChanges_row_tie rfl ⟨rfl, rfl⟩ (by kernel_rfl) rfl
    (fun f fn hf hfn => by
      obtain rfl : f = 4 := Option.some.inj ((show Tryz.prog.funcNamed "quintadena/quintadenalaw12.SoundingChanges" = some 4 by kernel_rfl).symm.trans hf) |>.symm
      obtain rfl : fn = Tryz.f4 := (Option.some.inj (Tryz.func4.symm.trans hfn)).symm
      exact ⟨by kernel_rfl, fun j t ht => by
        rw [Tryz.params4] at ht
        have hm : t ∈ [27, 31, 31] := by simpa using Array.mem_of_getElem? ht
        have hall : ([27, 31, 31].all fun u => !Tryz.prog.wantsStandIn u) = true := by kernel_rfl
        exact (show Tryz.prog.wantsStandIn t = false by simpa using List.all_eq_true.1 hall t hm)⟩)
    (by kernel_rfl)
end Go.Proofs.YtbjijbbkfgcleaaGreatDoor
