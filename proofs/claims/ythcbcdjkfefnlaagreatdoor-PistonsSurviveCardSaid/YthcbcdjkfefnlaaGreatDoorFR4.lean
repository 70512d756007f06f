import Derived.Test.YthcbcdjkfefnlaaGreatDoorW00
import Derived.Test.YthcbcdjkfefnlaaGreatDoorW05
import Derived.Test.YthcbcdjkfefnlaaGreatDoorW06
import Derived.Test.YthcbcdjkfefnlaaGreatDoorRows
import Derived.Test.YthcbcdjkfefnlaaGreatDoorCards
import Derived.Test.YthcbcdjkfefnlaaGreatDoorTie
import Derived.SevenTiedAt
import Derived.ProofKit
import Derived.Handed
import Derived.LaidMore
import Derived.LaidLaws
import Derived.WideShapes
/- For every input the law PistonsSurvive returns true, and its arguments read as before. -/
set_option autoImplicit false
set_option linter.unusedSimpArgs false
set_option linter.unusedVariables false
set_option linter.unnecessarySimpa false
set_option maxRecDepth 100000
set_option maxHeartbeats 8000000
namespace Go.Proofs.YthcbcdjkfefnlaaGreatDoor
open Go.Gv
open Go.RowKit
open Go.Sn hiding En keysP keysP_len stop_ok
open Go.Ps
open Go.Deep Go.ChangeShapes Go.WideShapes
open Iv Sx Ip
theorem Zbs (os : Os) (started : os.Started) (H : Type) (enc : TypeId × Value → H) :
    ReturnsInHanded {} Tryz.checked os 4 .any (fun w args => (Rows.pistonsSurviveSpec.pre enc Tryz.prog Tryz.f4 [] false w args ∧ laidMetH Tryz.prog laidL w) ∧ sizedMet enc Tryz.prog Tryz.f4 (OpenSpec.ofChange Rows.pistonsSurviveSpec) false w args) (Rows.pistonsSurviveSpec.post enc Tryz.prog Tryz.f4 false true false false) := by
  refine returnsInHanded_of_change_and (C := Tryz.checked) (X := (fun w _ => laidMetH Tryz.prog laidL w)) (fun _ _ _ hh h => h.of_heap hh) tryOwn started (by kernel_rfl) Tryz.func4
    (ChangeSpec.witness_shaped (enc := enc) (C := Tryz.checked) (os := os) (X := (fun w _ => laidMetH Tryz.prog laidL w)) false (World.doorLaid Tryz.prog 400 os) #[.agg #[.slice none 0 0, .slice none 0 0, .slice none 0 0, .slice none 0 0], .slice none 0 0, .agg #[.int .u16 0, .slice none 0 0]] 8 rfl (World.shaped_of_RefB (by kernel_rfl) (by kernel_rfl)) (by kernel_rfl) (by kernel_rfl) (by kernel_rfl) (door_met os _)) ?_
  intro W base args ds gs before hval0 hW _ hwt hL _
  have hval : ∀ (j : Nat) t v, Tryz.f4.params[j]? = some t → args[j]? = some v → Value.okWide Tryz.prog W .any base t v := hval0
  have hW' := hW
  obtain ⟨p, q, hA0, hV, rfl, hfz, hnd⟩ := hW
  have hA : DataW.TrodAll enc Tryz.prog W 0 (fun _ => true) true Tryz.f4.params.toList args.toList ds p := hA0
  rw [Tryz.params4] at hA hval
  obtain ⟨v0, vs0, d0, ds0, p0, q0, hargs, rfl, rfl, h0, r0⟩ := trodAll_cons hA
  obtain ⟨v1, vs1, d1, ds1, p1, q1, rfl, rfl, rfl, h1, r1⟩ := trodAll_cons r0
  obtain ⟨v2, vs2, d2, ds2, p2, q2, rfl, rfl, rfl, h2, r2⟩ := trodAll_cons r1
  obtain ⟨rfl, rfl, rfl⟩ := trodAll_nil r2
  obtain rfl : args = #[v0, v1, v2] := Array.toList_inj.1 hargs
  obtain ⟨rfl, rfl⟩ := trodVars_none hV
  obtain ⟨cs0, rfl, hsz0⟩ := okWide_struct Tryz.underlying45 (hval 0 45 v0 rfl rfl)
  obtain ⟨fuel0, hf0⟩ := h0
  obtain ⟨s0, hc0, hin0, hle0⟩ := openOrg hf0 (fun b hb => by
    have := List.all_eq_true.1 hwt b (DataW.weights_mem_each (j := 0) (t := 45) rfl rfl b hb)
    simpa using this)
  have e0 : Value.agg cs0 = s0.val := by
    have : cs0 = s0.cells.toArray := by rw [← hc0]; simp [Value.cells]
    rw [this]; rfl
  obtain ⟨sa1, sn1, sc1, rfl⟩ := okWide_slice Tryz.underlying30 (hval 1 30 v1 rfl rfl)
  obtain ⟨fuel1, hf1⟩ := h1
  obtain ⟨la1, l1, lc1, hc1, hin1, hll1, _, hac1⟩ := openActs hf1 (fun b hb => by
    have := List.all_eq_true.1 hwt b (DataW.weights_mem_each (j := 1) (t := 30) rfl rfl b hb)
    simpa using this)
  have e1 : Value.slice sa1 sn1 sc1 = .slice la1 l1.length lc1 := by
    simpa [Value.cells] using hc1
  obtain ⟨cs2, rfl, hsz2⟩ := okWide_struct Tryz.underlying67 (hval 2 67 v2 rfl rfl)
  obtain ⟨fuel2, hf2⟩ := h2
  obtain ⟨n2, hn2, a2, l2, c2, hc2, hi2, hl2, hb2⟩ := openLoss hf2 (fun b hb => by
    have := List.all_eq_true.1 hwt b (DataW.weights_mem_each (j := 2) (t := 67) rfl rfl b hb)
    simpa using this)
  have e2 : Value.agg cs2 = .agg #[.int .u16 (n2 : Int), .slice a2 l2.length c2] := by
    have : cs2 = #[.int .u16 (n2 : Int), .slice a2 l2.length c2] := Array.toList_inj.1 (by simpa [Value.cells] using hc2)
    rw [this]
  have hcall := Zji s0 hle0 la1 lc1 l1 hll1 (fun g hg => (hac1 g hg).2) n2 hn2 a2 c2 l2 hl2 hb2 W hin0 ⟨hin1, fun g hg => (hac1 g hg).1⟩ hi2
  rw [e0]
  rw [e0] at hW'
  rw [e1]
  rw [e1] at hW'
  rw [e2]
  rw [e2] at hW'
  unfold Sp at hcall
  refine Calls.mono hcall fun e W' ⟨v, l, he, hR, ho⟩ => ⟨v, he, ?_⟩
  obtain ⟨rfl, rfl⟩ := hR
  exact law_post hW' rfl ho.below rfl rfl rfl rfl (by rw [Tryz.params4]; intro t ht; simp at ht; rcases ht with rfl | rfl | rfl <;> exact ⟨by kernel_rfl, of_decide_eq_true (by kernel_rfl)⟩)
theorem Zc2 : Rows.PistonsSurviveSaid :=
  OpenClaim.holds_of_wide 4 Tryz.f4 rfl rfl rfl rfl rfl rfl rfl ⟨rfl, rfl, rfl, rfl, rfl⟩ rfl rfl rfl rfl rfl (by kernel_rfl) Tryz.func4 (by kernel_rfl)
    (of_decide_eq_true (by kernel_rfl)) (by unfold Func.isWrapper; (rw [if_neg (by decide +kernel)]; exact ⟨rfl, rfl⟩))
    (fun os started H enc _ => Zbs os started H enc)
theorem pistonsSurvive_proved : Rows.PistonsSurviveCardSaid :=
  Claim7.holds_tied_plain_at .later [] [.data, .data, .data] true (true, "3a8a81b080a07903ab95eb374d723c897ca25787b2eb29dcfbeda480d3fb6a4b") false
    Zc2 (fun _ h => by cases h) (by kernel_rfl) (fun _ h => by cases h) pistonsSurvive_row_tie rfl ⟨rfl, rfl⟩ (by kernel_rfl) rfl
    (fun f fn hf hfn => by
      obtain rfl : f = 4 := Option.some.inj ((show Tryz.prog.funcNamed "quintadena/quintadenalaw21.PistonsSurvive" = some 4 by kernel_rfl).symm.trans hf) |>.symm
      obtain rfl : fn = Tryz.f4 := (Option.some.inj (Tryz.func4.symm.trans hfn)).symm
      exact ⟨by kernel_rfl, fun j t ht => by
        rw [Tryz.params4] at ht
        have hm : t ∈ [45, 30, 67] := by simpa using Array.mem_of_getElem? ht
        have hall : ([45, 30, 67].all fun u => !Tryz.prog.wantsStandIn u) = true := by kernel_rfl
        exact (show Tryz.prog.wantsStandIn t = false by simpa using List.all_eq_true.1 hall t hm)⟩)
    (by kernel_rfl)
end Go.Proofs.YthcbcdjkfefnlaaGreatDoor
