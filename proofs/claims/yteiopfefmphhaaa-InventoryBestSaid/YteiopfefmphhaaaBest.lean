import Derived.Test.YteiopfefmphhaaaVg
import Derived.Test.YteiopfefmphhaaaVf
/- This text proves InventoryBestSaid: for all pipes and wishes InventoryBest returns true, and its arguments read as before. -/
set_option linter.unusedSimpArgs false
set_option linter.unusedVariables false
set_option linter.unnecessarySimpa false
set_option autoImplicit false
set_option linter.unusedVariables false
namespace Go.Proofs.Yteiopfefmphhaaa
open Go.Gv
open Go.RowKit
open Iv
theorem rbestF_len (l : List Pipe) (w : List Wish) : (rbestF l w).1.length ≤ w.length := by
  unfold rbestF
  split
  · exact Nat.le_of_eq (ref_ok (l := l) (w := w) w.length 0 0 _ rfl).1
  · exact Nat.zero_le _

set_option maxRecDepth 100000 in
set_option maxHeartbeats 2000000 in
theorem InventoryBest_ok (l : List Pipe) (w : List Wish) (a b : Option Addr) (ca cb : Nat) (w0 : World) (hl : OldSl w0 [] a l.length 3 (l.flatMap Pipe.cells)) (hw : OldSl w0 [] b w.length 5 (w.flatMap Wish.cells)) (hlb : l.length ≤ 140737488355328) (hwb : w.length ≤ 140737488355328) : Sp Try.prog 4 [.slice a l.length ca, .slice b w.length cb] w0 [] (RV (.bool true)) := by
  refine spec_enter Try.func4 rfl Try.ntmps4 rfl (Own.refl _) ?_
  simp only [argEnv]
  refine gc_seq ?_
  refine gc_region ?_
  refine gl_op (op_rd rfl (rd_assign rfl) ?_)
  refine gl_nil ?_
  refine gx_then ?_
  refine gc_seq ?_
  refine gc_seq ?_
  refine gc_region ?_
  refine gl_op (op_rd rfl (rd_move rfl) ?_)
  refine gl_op (op_rd rfl (rd_move rfl) ?_)
  obtain ⟨res, cst, hres⟩ : ∃ res cst, rbestF l w = (res, cst) := ⟨_, _, rfl⟩
  have hbest : bestF l w = some (res, cst) := by rw [best_same, hres]
  have hrl : res.length ≤ w.length := by have := rbestF_len l w; rw [hres] at this; exact this
  refine gl_op (op_call rfl (vf := []) (vc := []) rfl rfl Try.call13 (fun w1 ho => few_ok l w a b ca cb w1 hlb hwb) ?_)
  rintro _ _ ⟨rfl, rfl⟩
  refine gk_bool (fun hfew => ?_) (fun hfew => ?_)
  · skip
    refine gl_op (op_rd rfl (rd_not rfl) ?_)
    refine gl_op (op_rd rfl (rd_move rfl) ?_)
    refine gl_yes rfl rfl (op_rd rfl (rd_move rfl) ?_)
    refine gl_yes rfl rfl (op_rd rfl (rd_lenSlice Try.underlying22 rfl) ?_)
    refine gl_yes rfl rfl (op_rd rfl (rd_move rfl) ?_)
    refine gl_yes rfl rfl (op_rd rfl (rd_lenSlice Try.underlying23 rfl) ?_)
    refine gl_yes rfl rfl (op_rd rfl (by first | exact rd_addN rfl rfl (by omega) | exact rd_add rfl rfl (by omega) (by omega)) ?_)
    refine gl_yes rfl rfl (op_rd rfl (rd_gtr rfl rfl) (gk_dec (fun h21 => ?_) (fun h21 => ?_)))
    · skip
      refine gl_op (op_rd rfl (rd_pick_f rfl rfl) ?_)
      refine gl_nil ?_
      refine gx_then ?_
      refine gc_cond_t rfl ?_
      refine gc_seq ?_
      refine gc_region ?_
      refine gl_op (op_call rfl (vf := []) (vc := []) rfl rfl Try.call8 (fun w1 ho => shown_ok w1) ?_)
      rintro _ _ ⟨rfl, rfl⟩
      refine gl_op (op_rd rfl (rd_assign rfl) ?_)
      refine gl_nil ?_
      refine gx_then ?_
      refine gc_ret ?_
      refine gx_then_ret ?_
      refine gx_ret1 (.inl rfl) Try.results4 rfl [] (by decide) ?_
      exact ⟨rfl, rfl⟩
    · skip
      refine gl_op (op_rd rfl (rd_pick_f rfl rfl) ?_)
      refine gl_nil ?_
      refine gx_then ?_
      refine gc_cond_f rfl ?_
      refine gc_skip ?_
      refine gx_then ?_
      refine gc_seq ?_
      refine gc_region ?_
      refine gl_op (op_rd rfl (rd_move rfl) ?_)
      refine gl_op (op_rd rfl (rd_move rfl) ?_)
      refine gl_op (op_call rfl (vf := []) (vc := []) rfl rfl Try.call14 (fun w2 ho => Best_ok l w a b ca cb w2 (hl.at ho) (hw.at ho) hlb hwb res cst hbest) ?_)
      rintro _ _ ⟨rr, cr, rfl, rfl⟩
      refine gl_op (op_rd rfl (rd_move rfl) ?_)
      refine gl_op (op_rd rfl (rd_extract rfl rfl) ?_)
      refine gl_op (op_rd rfl (rd_extract rfl rfl) ?_)
      refine gl_op (op_rd rfl (rd_extract rfl rfl) ?_)
      refine gl_op (op_rd rfl (rd_assign rfl) ?_)
      refine gl_op (op_rd rfl (rd_assign rfl) ?_)
      refine gl_op (op_rd rfl (rd_assign rfl) ?_)
      refine gl_nil ?_
      refine gx_then ?_
      refine gc_seq ?_
      refine gc_region ?_
      refine gl_op (op_rd rfl (rd_move rfl) ?_)
      refine gl_op (op_rd rfl (rd_move rfl) ?_)
      refine gl_op (op_call rfl (vf := []) (vc := []) rfl rfl Try.call15 (fun w2 ho => rBest_ok l w a b ca cb w2 (hl.at ho) (hw.at ho) hlb hwb res cst hres) ?_)
      rintro _ _ ⟨rs, cs, rfl, rfl⟩
      refine gl_op (op_rd rfl (rd_move rfl) ?_)
      refine gl_op (op_rd rfl (rd_extract rfl rfl) ?_)
      refine gl_op (op_rd rfl (rd_extract rfl rfl) ?_)
      refine gl_op (op_rd rfl (rd_extract rfl rfl) ?_)
      refine gl_op (op_rd rfl (rd_assign rfl) ?_)
      refine gl_op (op_rd rfl (rd_assign rfl) ?_)
      refine gl_op (op_rd rfl (rd_assign rfl) ?_)
      refine gl_nil ?_
      refine gx_then ?_
      refine gc_seq ?_
      refine gc_region ?_
      refine gl_op (op_rd rfl (rd_move rfl) ?_)
      refine gl_op (op_rd rfl (rd_move rfl) ?_)
      refine gl_op (op_call rfl (vf := []) (vc := []) rfl rfl Try.call16 (fun w2 ho => same_ok res res (rowA rr) (rowA rs) cr cs w2 (ho.rowSl 1 rfl) (ho.rowSl 0 rfl) (by omega) (by omega)) ?_)
      rintro _ _ ⟨rfl, rfl⟩
      rw [show decide (res = res) = true from decide_eq_true rfl]
      refine gl_op (op_rd rfl (rd_move rfl) ?_)
      refine gl_yes rfl rfl (op_rd rfl (rd_move rfl) ?_)
      refine gl_yes rfl rfl (op_rd rfl (rd_move rfl) ?_)
      refine gl_yes rfl rfl (op_rd rfl (rd_eql rfl rfl) (gk_dec (fun hd1 => ?_) (fun hd1 => ?_)))
      · skip
        refine gl_op (op_rd rfl (rd_pick_t rfl rfl) ?_)
        refine gl_op (op_rd rfl (rd_move rfl) ?_)
        refine gl_yes rfl rfl (op_rd rfl (rd_move rfl) ?_)
        refine gl_yes rfl rfl (op_rd rfl (rd_move rfl) ?_)
        refine gl_yes rfl rfl (op_rd rfl (rd_eql rfl rfl) (gk_dec (fun hd2 => ?_) (fun hd2 => ?_)))
        · skip
          refine gl_op (op_rd rfl (rd_pick_t rfl rfl) ?_)
          refine gl_op (op_rd rfl (rd_move rfl) ?_)
          refine gl_yes rfl rfl (op_call rfl (vf := []) (vc := []) rfl rfl Try.call8 (fun w1 ho => shown_ok w1) ?_)
          rintro _ _ ⟨rfl, rfl⟩
          refine gl_op (op_rd rfl (rd_pick_t rfl rfl) ?_)
          refine gl_op (op_rd rfl (rd_assign rfl) ?_)
          refine gl_nil ?_
          refine gx_then ?_
          refine gc_ret ?_
          refine gx_ret1 (.inl rfl) Try.results4 rfl [] (by decide) ?_
          exact ⟨rfl, rfl⟩
        · skip
          exact absurd rfl (by assumption)
      · skip
        exact absurd rfl (by assumption)
  · skip
    refine gl_op (op_rd rfl (rd_not rfl) ?_)
    refine gl_op (op_rd rfl (rd_move rfl) ?_)
    refine gl_no rfl rfl rfl ?_
    refine gl_no rfl rfl rfl ?_
    refine gl_no rfl rfl rfl ?_
    refine gl_no rfl rfl rfl ?_
    refine gl_no rfl rfl rfl ?_
    refine gl_no rfl rfl rfl ?_
    refine gl_op (op_rd rfl (rd_pick_t rfl rfl) ?_)
    refine gl_nil ?_
    refine gx_then ?_
    refine gc_cond_t rfl ?_
    refine gc_seq ?_
    refine gc_region ?_
    refine gl_op (op_call rfl (vf := []) (vc := []) rfl rfl Try.call8 (fun w1 ho => shown_ok w1) ?_)
    rintro _ _ ⟨rfl, rfl⟩
    refine gl_op (op_rd rfl (rd_assign rfl) ?_)
    refine gl_nil ?_
    refine gx_then ?_
    refine gc_ret ?_
    refine gx_then_ret ?_
    refine gx_ret1 (.inl rfl) Try.results4 rfl [] (by decide) ?_
    exact ⟨rfl, rfl⟩

end Go.Proofs.Yteiopfefmphhaaa

set_option autoImplicit false
set_option linter.unusedVariables false
namespace Go.Proofs.Yteiopfefmphhaaa
open Go.Gv
open Go.RowKit Go.ChangeShapes Go.WideShapes
open Iv
set_option maxHeartbeats 1000000 in
set_option maxRecDepth 100000 in
theorem inventoryBest_lifted (os : Os) (started : os.Started) (H : Type) (enc : TypeId × Value → H) :
    ReturnsInHanded {} Try.checked os 4 .any (Rows.inventoryBestSpec.pre6 enc Try.prog Try.f4 Rows.inventoryBestRow.domain false) (Rows.inventoryBestSpec.post enc Try.prog Try.f4 false true false false) := by
  refine returnsInHanded_of_change_sized (C := Try.checked) tryOwn started (by kernel_rfl) Try.func4
    (ChangeSpec.witness6 (enc := enc) (C := Try.checked) false ⟨#[], #[.slice none 0 0, .slice none 0 0], []⟩ 8 (by kernel_rfl) (by kernel_rfl) (by kernel_rfl) (by kernel_rfl)) ?_
  intro W base args ds gs before hval0 hW _ hwt _
  have hval : ∀ (j : Nat) t v, Try.f4.params[j]? = some t → args[j]? = some v → Value.okWide Try.prog W .any base t v := hval0
  have hW' := hW
  obtain ⟨p, q, hA0, hV, rfl, hfz, hnd⟩ := hW
  have hA : DataW.TrodAll enc Try.prog W 0 (fun _ => true) true Try.f4.params.toList args.toList ds p := hA0
  rw [Try.params4] at hA hval
  obtain ⟨v0, vs0, d0, ds0, p0, q0, hargs, rfl, rfl, h0, r0⟩ := trodAll_cons hA
  obtain ⟨v1, vs1, d1, ds1, p1, q1, rfl, rfl, rfl, h1, r1⟩ := trodAll_cons r0
  obtain ⟨rfl, rfl, rfl⟩ := trodAll_nil r1
  obtain rfl : args = #[v0, v1] := Array.toList_inj.1 hargs
  obtain ⟨rfl, rfl⟩ := trodVars_none hV
  obtain ⟨sa0, sn0, sc0, rfl⟩ := okWide_slice Try.underlying22 (hval 0 22 v0 rfl rfl)
  obtain ⟨fuel0, hf0⟩ := h0
  obtain ⟨pa0, zs0, cp0, hz0, hsl0, hlen0⟩ := openPipes hf0 (fun b hb => by
    have := List.all_eq_true.1 hwt b (DataW.weights_mem_each (j := 0) (t := 22) rfl rfl b hb)
    simpa using this)
  have e0 : Value.slice sa0 sn0 sc0 = .slice pa0 zs0.length cp0 := by
    simpa [Value.cells] using hz0
  obtain ⟨sa1, sn1, sc1, rfl⟩ := okWide_slice Try.underlying23 (hval 1 23 v1 rfl rfl)
  obtain ⟨fuel1, hf1⟩ := h1
  obtain ⟨pa1, zs1, cp1, hz1, hsl1, hlen1⟩ := openWishes hf1 (fun b hb => by
    have := List.all_eq_true.1 hwt b (DataW.weights_mem_each (j := 1) (t := 23) rfl rfl b hb)
    simpa using this)
  have e1 : Value.slice sa1 sn1 sc1 = .slice pa1 zs1.length cp1 := by
    simpa [Value.cells] using hz1
  have hcall := InventoryBest_ok zs0 zs1 pa0 pa1 cp0 cp1 W hsl0 hsl1 hlen0 hlen1
  rw [e0]
  rw [e0] at hW'
  rw [e1]
  rw [e1] at hW'
  unfold Sp at hcall
  refine Calls.mono hcall fun e W' ⟨v, l, he, hR, ho⟩ => ⟨v, he, ?_⟩
  obtain ⟨rfl, rfl⟩ := hR
  exact law_post hW' rfl ho.below rfl rfl rfl rfl (by rw [Try.params4]; intro t ht; simp at ht; rcases ht with rfl | rfl <;> exact ⟨by kernel_rfl, of_decide_eq_true (by kernel_rfl)⟩)
theorem inventoryBest_over : Rows.inventoryBestRow.holds Try.pinned (OpenSpec.ofChange Rows.inventoryBestSpec) :=
  OpenClaim.holds_of_wide 4 Try.f4 rfl rfl rfl rfl rfl rfl rfl ⟨rfl, rfl, rfl, rfl, rfl⟩ rfl rfl rfl rfl rfl (by kernel_rfl) Try.func4 (by kernel_rfl)
    (of_decide_eq_true (by kernel_rfl)) (by unfold Func.isWrapper; first | (rw [if_pos (by decide +kernel)]; kernel_rfl) | (rw [if_neg (by decide +kernel)]; exact ⟨rfl, rfl⟩))
    (fun os started H enc _ => inventoryBest_lifted os started H enc)
theorem inventoryBest_proved : Rows.InventoryBestSaid := inventoryBest_over
end Go.Proofs.Yteiopfefmphhaaa
