import Derived.Test.YteiopfefmphhaaaVd
/- This text proves InventoryFitsSaid: for every case InventoryFits returns true, and its argument reads as before. -/
set_option linter.unusedSimpArgs false
set_option linter.unusedVariables false
set_option linter.unnecessarySimpa false
set_option autoImplicit false
set_option linter.unusedVariables false
namespace Go.Proofs.Yteiopfefmphhaaa
open Go.Gv
open Go.RowKit
open Iv
set_option maxRecDepth 100000 in
set_option maxHeartbeats 1000000 in
theorem InventoryFits_ok (c : Case) (w0 : World) (hin : c.In w0) : Sp Try.prog 3 [c.val] w0 [] (RV (.bool true)) := by
  refine spec_enter Try.func3 rfl Try.ntmps3 rfl (Own.refl _) ?_
  simp only [argEnv]
  refine gc_seq ?_
  refine gc_region ?_
  refine gl_op (op_box rfl rfl rfl (fun b1 => ?_))
  refine gl_op (op_rd rfl (rd_assign rfl) ?_)
  refine gl_nil ?_
  refine gx_then ?_
  refine gc_seq ?_
  refine gc_drawP [0] false 13 rfl ?_
  refine ga_first 0 #[true, false, false, false, false, false, false, false, false, false, false, false, false, false] rfl rfl rfl rfl (by kernel_rfl) rfl ⟨[0], by decide, rfl⟩ (qt_rd (rd_fieldAddr rfl (fa_31_0 _))) ?_
  refine ga_first 1 #[true, true, false, false, false, false, false, false, false, false, false, false, false, false] rfl rfl rfl rfl (by kernel_rfl) rfl ⟨[0], by decide, rfl⟩ (qt_rd (rd_load Try.underlying22 rfl rfl (by first | exact ld_blk 0 rfl rfl | exact ld_old (by assumption) (by simp) | exact ld_cells (by assumption) (by simp) rfl))) ?_
  refine ga_first 2 #[true, true, true, false, false, false, false, false, false, false, false, false, false, false] rfl rfl rfl rfl (by kernel_rfl) rfl ⟨[0], by decide, rfl⟩ (qt_rd (rd_fieldAddr rfl (fa_31_1 _))) ?_
  refine ga_first 3 #[true, true, true, true, false, false, false, false, false, false, false, false, false, false] rfl rfl rfl rfl (by kernel_rfl) rfl ⟨[0], by decide, rfl⟩ (qt_rd (rd_load Try.underlying23 rfl rfl (by first | exact ld_blk 0 rfl rfl | exact ld_old (by assumption) (by simp) | exact ld_cells (by assumption) (by simp) rfl))) ?_
  refine ga_first 4 #[true, true, true, true, true, false, false, false, false, false, false, false, false, false] rfl rfl rfl rfl (by kernel_rfl) rfl ⟨[0], by decide, rfl⟩ (qt_rd (rd_fieldAddr rfl (fa_31_2 _))) ?_
  refine ga_first 5 #[true, true, true, true, true, true, false, false, false, false, false, false, false, false] rfl rfl rfl rfl (by kernel_rfl) rfl ⟨[0], by decide, rfl⟩ (qt_rd (rd_loadAgg Try.underlying25 rfl ty_25 rfl (cs_blk 0 (off := 2) (k := 3) rfl rfl) rfl)) ?_
  refine ga_first 6 #[true, true, true, true, true, true, true, false, false, false, false, false, false, false] rfl rfl rfl rfl (by kernel_rfl) rfl ⟨[0], by decide, rfl⟩ (qt_rd (rd_fieldAddr rfl (fa_31_3 _))) ?_
  refine ga_first 7 #[true, true, true, true, true, true, true, true, false, false, false, false, false, false] rfl rfl rfl rfl (by kernel_rfl) rfl ⟨[0], by decide, rfl⟩ (qt_rd (rd_loadAgg Try.underlying29 rfl ty_29 rfl (cs_blk 0 (off := 5) (k := 5) rfl rfl) rfl)) ?_
  refine ga_two 8 9 #[true, true, true, true, true, true, true, true, true, false, false, false, false, false] #[true, true, true, true, true, true, true, true, false, true, false, false, false, false] rfl rfl rfl rfl (by kernel_rfl) rfl rfl (.inr ⟨[0], by decide, rfl⟩) ?_ ?_
  · skip
    refine (op_alloc ty_25 rfl rfl (fun b5 => ?_))
    refine ga_only 9 #[true, true, true, true, true, true, true, true, true, true, false, false, false, false] rfl rfl (by kernel_rfl) rfl (.inr ⟨[1], by decide, rfl⟩) (op_alloc ty_29 rfl rfl (fun b6 => ?_))
    refine ga_first 10 #[true, true, true, true, true, true, true, true, true, true, true, false, false, false] rfl rfl rfl rfl (by kernel_rfl) rfl ⟨[2], by decide, rfl⟩ (qt_rd (rd_assign rfl)) ?_
    refine ga_first 11 #[true, true, true, true, true, true, true, true, true, true, true, true, false, false] rfl rfl rfl rfl (by kernel_rfl) rfl ⟨[2], by decide, rfl⟩ (qt_rd (rd_assign rfl)) ?_
    first | refine ga_only 12 #[true, true, true, true, true, true, true, true, true, true, true, true, true, false] rfl rfl (by kernel_rfl) rfl (.inr ⟨[2], by decide, rfl⟩) (op_storeAgg 0 ty_25 rfl rfl rfl rfl rfl rfl (by first | rfl | (simp only [List.set_cons_succ, List.set_cons_zero]; exact rfl)) ?_) | refine ga_only 12 #[true, true, true, true, true, true, true, true, true, true, true, true, true, false] rfl rfl (by kernel_rfl) rfl (.inr ⟨[2], by decide, rfl⟩) (op_storeAgg 1 ty_25 rfl rfl rfl rfl rfl rfl (by first | rfl | (simp only [List.set_cons_succ, List.set_cons_zero]; exact rfl)) ?_) | refine ga_only 12 #[true, true, true, true, true, true, true, true, true, true, true, true, true, false] rfl rfl (by kernel_rfl) rfl (.inr ⟨[2], by decide, rfl⟩) (op_storeAgg 2 ty_25 rfl rfl rfl rfl rfl rfl (by first | rfl | (simp only [List.set_cons_succ, List.set_cons_zero]; exact rfl)) ?_)
    first | refine ga_only 13 #[true, true, true, true, true, true, true, true, true, true, true, true, true, true] rfl rfl (by kernel_rfl) rfl (.inr ⟨[2], by decide, rfl⟩) (op_storeAgg 0 ty_29 rfl rfl rfl rfl rfl rfl (by first | rfl | (simp only [List.set_cons_succ, List.set_cons_zero]; exact rfl)) ?_) | refine ga_only 13 #[true, true, true, true, true, true, true, true, true, true, true, true, true, true] rfl rfl (by kernel_rfl) rfl (.inr ⟨[2], by decide, rfl⟩) (op_storeAgg 1 ty_29 rfl rfl rfl rfl rfl rfl (by first | rfl | (simp only [List.set_cons_succ, List.set_cons_zero]; exact rfl)) ?_) | refine ga_only 13 #[true, true, true, true, true, true, true, true, true, true, true, true, true, true] rfl rfl (by kernel_rfl) rfl (.inr ⟨[2], by decide, rfl⟩) (op_storeAgg 2 ty_29 rfl rfl rfl rfl rfl rfl (by first | rfl | (simp only [List.set_cons_succ, List.set_cons_zero]; exact rfl)) ?_)
    refine ga_end (by kernel_rfl) (.inl (by kernel_rfl)) ?_
    refine gx_then ?_
    refine gc_seq ?_
    refine gc_seq ?_
    refine gc_region ?_
    refine gl_op (op_rd rfl (rd_move rfl) ?_)
    refine gl_op (op_rd rfl (rd_lenSlice Try.underlying22 rfl) ?_)
    refine gl_op (op_rd rfl (rd_gtr rfl rfl) (gk_dec (fun h23 => ?_) (fun h23 => ?_)))
    · skip
      refine gl_op (op_rd rfl (rd_move rfl) ?_)
      refine gl_no rfl rfl rfl ?_
      refine gl_no rfl rfl rfl ?_
      refine gl_no rfl rfl rfl ?_
      refine gl_op (op_rd rfl (rd_pick_t rfl rfl) ?_)
      refine gl_nil ?_
      refine gx_then ?_
      refine gc_cond_t rfl ?_
      refine gc_seq ?_
      refine gc_region ?_
      refine gl_op (op_call rfl (vf := []) (vc := []) rfl rfl Try.call8 (fun w1 ho => shown_ok w1) ?_)
      rintro _ _ ⟨rfl, rfl⟩
      refine gl_op (op_rd rfl (rd_assign rfl) ?_)
      refine gl_nil ?_
      refine gx_then ?_
      refine gc_ret ?_
      refine gx_then_ret ?_
      refine gx_ret1 (.inl rfl) Try.results3 rfl [] (by decide) ?_
      exact ⟨rfl, rfl⟩
    · skip
      refine gl_op (op_rd rfl (rd_move rfl) ?_)
      refine gl_yes rfl rfl (op_rd rfl (rd_move rfl) ?_)
      refine gl_yes rfl rfl (op_rd rfl (rd_lenSlice Try.underlying23 rfl) ?_)
      refine gl_yes rfl rfl (op_rd rfl (rd_gtr rfl rfl) (gk_dec (fun h27 => ?_) (fun h27 => ?_)))
      · skip
        refine gl_op (op_rd rfl (rd_pick_f rfl rfl) ?_)
        refine gl_nil ?_
        refine gx_then ?_
        refine gc_cond_t rfl ?_
        refine gc_seq ?_
        refine gc_region ?_
        refine gl_op (op_call rfl (vf := []) (vc := []) rfl rfl Try.call8 (fun w1 ho => shown_ok w1) ?_)
        rintro _ _ ⟨rfl, rfl⟩
        refine gl_op (op_rd rfl (rd_assign rfl) ?_)
        refine gl_nil ?_
        refine gx_then ?_
        refine gc_ret ?_
        refine gx_then_ret ?_
        refine gx_ret1 (.inl rfl) Try.results3 rfl [] (by decide) ?_
        exact ⟨rfl, rfl⟩
      · skip
        refine gl_op (op_rd rfl (rd_pick_f rfl rfl) ?_)
        refine gl_nil ?_
        refine gx_then ?_
        refine gc_cond_f rfl ?_
        refine gc_skip ?_
        refine gx_then ?_
        refine gc_seq ?_
        refine gc_region ?_
        refine gl_op (op_rd rfl (rd_loadAgg Try.underlying25 rfl ty_25 rfl (by first | exact cs_blk 0 (off := 0) (k := 3) rfl rfl | exact cs_blk 1 (off := 0) (k := 3) rfl rfl | exact cs_blk 2 (off := 0) (k := 3) rfl rfl | exact cs_old (by assumption) (by simp)) rfl) ?_)
        refine gl_op (op_rd rfl (rd_loadAgg Try.underlying29 rfl ty_29 rfl (by first | exact cs_blk 0 (off := 0) (k := 5) rfl rfl | exact cs_blk 1 (off := 0) (k := 5) rfl rfl | exact cs_blk 2 (off := 0) (k := 5) rfl rfl | exact cs_old (by assumption) (by simp)) rfl) ?_)
        refine gl_op (op_call rfl (vf := []) (vc := []) rfl rfl Try.call9 (fun w1 ho => Fit_ok c.p c.x w1) ?_)
        rintro _ _ ⟨rfl, rfl⟩
        refine gl_op (op_rd rfl (rd_move rfl) ?_)
        refine gl_op (op_rd rfl (rd_extract rfl rfl) ?_)
        refine gl_op (op_rd rfl (rd_extract rfl rfl) ?_)
        refine gl_op (op_rd rfl (rd_extract rfl rfl) ?_)
        refine gl_op (op_rd rfl (rd_assign rfl) ?_)
        refine gl_op (op_rd rfl (rd_assign rfl) ?_)
        refine gl_op (op_rd rfl (rd_assign rfl) ?_)
        refine gl_nil ?_
        refine gx_then ?_
        refine gc_seq ?_
        refine gc_region ?_
        refine gl_op (op_rd rfl (rd_loadAgg Try.underlying25 rfl ty_25 rfl (by first | exact cs_blk 0 (off := 0) (k := 3) rfl rfl | exact cs_blk 1 (off := 0) (k := 3) rfl rfl | exact cs_blk 2 (off := 0) (k := 3) rfl rfl | exact cs_old (by assumption) (by simp)) rfl) ?_)
        refine gl_op (op_rd rfl (rd_loadAgg Try.underlying29 rfl ty_29 rfl (by first | exact cs_blk 0 (off := 0) (k := 5) rfl rfl | exact cs_blk 1 (off := 0) (k := 5) rfl rfl | exact cs_blk 2 (off := 0) (k := 5) rfl rfl | exact cs_old (by assumption) (by simp)) rfl) ?_)
        refine gl_op (op_call rfl (vf := []) (vc := []) rfl rfl Try.call10 (fun w1 ho => rFit_ok c.p c.x w1) ?_)
        rintro _ _ ⟨rfl, rfl⟩
        refine gl_op (op_rd rfl (rd_move rfl) ?_)
        refine gl_op (op_rd rfl (rd_extract rfl rfl) ?_)
        refine gl_op (op_rd rfl (rd_extract rfl rfl) ?_)
        refine gl_op (op_rd rfl (rd_extract rfl rfl) ?_)
        refine gl_op (op_rd rfl (rd_assign rfl) ?_)
        refine gl_op (op_rd rfl (rd_assign rfl) ?_)
        refine gl_op (op_rd rfl (rd_assign rfl) ?_)
        refine gl_nil ?_
        refine gx_then ?_
        refine gc_seq ?_
        refine gc_region ?_
        refine gl_op (op_rd rfl (rd_move rfl) ?_)
        refine gl_op (op_rd rfl (rd_move rfl) ?_)
        refine gl_op (op_call rfl (vf := []) (vc := []) rfl rfl Try.call11 (fun w1 ho => Check_ok c.l c.w c.la c.wa c.lc c.wc w1 (hin.hl.at ho) (hin.hw.at ho) hin.hlb hin.hwb) ?_)
        rintro _ _ ⟨rfl, rfl⟩
        refine gl_op (op_rd rfl (rd_move rfl) ?_)
        refine gl_op (op_rd rfl (rd_move rfl) ?_)
        refine gl_op (op_call rfl (vf := []) (vc := []) rfl rfl Try.call12 (fun w1 ho => rCheck_ok c.l c.w c.la c.wa c.lc c.wc w1 (hin.hl.at ho) (hin.hw.at ho) hin.hlb hin.hwb) ?_)
        rintro _ _ ⟨rfl, rfl⟩
        refine gl_op (op_rd rfl (rd_eql rfl rfl) (gk_dec (fun hd1 => ?_) (fun hd1 => ?_)))
        · skip
          refine gl_op (op_rd rfl (rd_move rfl) ?_)
          refine gl_yes rfl rfl (op_rd rfl (rd_move rfl) ?_)
          refine gl_yes rfl rfl (op_rd rfl (rd_move rfl) ?_)
          refine gl_yes rfl rfl (op_rd rfl (rd_eql rfl rfl) (gk_dec (fun hd2 => ?_) (fun hd2 => ?_)))
          · skip
            refine gl_op (op_rd rfl (rd_pick_t rfl rfl) ?_)
            refine gl_op (op_rd rfl (rd_move rfl) ?_)
            refine gl_yes rfl rfl (op_rd rfl (rd_move rfl) ?_)
            refine gl_yes rfl rfl (op_rd rfl (rd_move rfl) ?_)
            refine gl_yes rfl rfl (op_rd rfl (rd_eqlb Try.runUnderlying4 rfl rfl) ?_)
            refine gk_bool (fun h59 => ?_) (fun h59 => ?_)
            · skip
              refine gl_op (op_rd rfl (rd_pick_t rfl rfl) ?_)
              refine gl_op (op_rd rfl (rd_move rfl) ?_)
              refine gl_yes rfl rfl (op_rd rfl (rd_move rfl) ?_)
              refine gl_yes rfl rfl (op_rd rfl (rd_move rfl) ?_)
              refine gl_yes rfl rfl (op_rd rfl (rd_eql rfl rfl) (gk_dec (fun hd3 => ?_) (fun hd3 => ?_)))
              · skip
                refine gl_op (op_rd rfl (rd_pick_t rfl rfl) ?_)
                refine gl_op (op_rd rfl (rd_move rfl) ?_)
                refine gl_yes rfl rfl (op_call rfl (vf := []) (vc := []) rfl rfl Try.call8 (fun w1 ho => shown_ok w1) ?_)
                rintro _ _ ⟨rfl, rfl⟩
                refine gl_op (op_rd rfl (rd_pick_t rfl rfl) ?_)
                refine gl_op (op_rd rfl (rd_assign rfl) ?_)
                refine gl_nil ?_
                refine gx_then ?_
                refine gc_ret ?_
                refine gx_ret1 (.inl rfl) Try.results3 rfl [] (by decide) ?_
                exact ⟨rfl, rfl⟩
              · skip
                exact absurd rfl (by assumption)
            · skip
              simp at h59
          · skip
            exact absurd rfl (by assumption)
        · skip
          exact absurd rfl (by assumption)
  · skip
    refine (op_alloc ty_29 rfl rfl (fun b6 => ?_))
    refine ga_only 8 #[true, true, true, true, true, true, true, true, true, true, false, false, false, false] rfl rfl (by kernel_rfl) rfl (.inr ⟨[1], by decide, rfl⟩) (op_alloc ty_25 rfl rfl (fun b5 => ?_))
    refine ga_first 10 #[true, true, true, true, true, true, true, true, true, true, true, false, false, false] rfl rfl rfl rfl (by kernel_rfl) rfl ⟨[2], by decide, rfl⟩ (qt_rd (rd_assign rfl)) ?_
    refine ga_first 11 #[true, true, true, true, true, true, true, true, true, true, true, true, false, false] rfl rfl rfl rfl (by kernel_rfl) rfl ⟨[2], by decide, rfl⟩ (qt_rd (rd_assign rfl)) ?_
    first | refine ga_only 12 #[true, true, true, true, true, true, true, true, true, true, true, true, true, false] rfl rfl (by kernel_rfl) rfl (.inr ⟨[2], by decide, rfl⟩) (op_storeAgg 0 ty_25 rfl rfl rfl rfl rfl rfl (by first | rfl | (simp only [List.set_cons_succ, List.set_cons_zero]; exact rfl)) ?_) | refine ga_only 12 #[true, true, true, true, true, true, true, true, true, true, true, true, true, false] rfl rfl (by kernel_rfl) rfl (.inr ⟨[2], by decide, rfl⟩) (op_storeAgg 1 ty_25 rfl rfl rfl rfl rfl rfl (by first | rfl | (simp only [List.set_cons_succ, List.set_cons_zero]; exact rfl)) ?_) | refine ga_only 12 #[true, true, true, true, true, true, true, true, true, true, true, true, true, false] rfl rfl (by kernel_rfl) rfl (.inr ⟨[2], by decide, rfl⟩) (op_storeAgg 2 ty_25 rfl rfl rfl rfl rfl rfl (by first | rfl | (simp only [List.set_cons_succ, List.set_cons_zero]; exact rfl)) ?_)
    first | refine ga_only 13 #[true, true, true, true, true, true, true, true, true, true, true, true, true, true] rfl rfl (by kernel_rfl) rfl (.inr ⟨[2], by decide, rfl⟩) (op_storeAgg 0 ty_29 rfl rfl rfl rfl rfl rfl (by first | rfl | (simp only [List.set_cons_succ, List.set_cons_zero]; exact rfl)) ?_) | refine ga_only 13 #[true, true, true, true, true, true, true, true, true, true, true, true, true, true] rfl rfl (by kernel_rfl) rfl (.inr ⟨[2], by decide, rfl⟩) (op_storeAgg 1 ty_29 rfl rfl rfl rfl rfl rfl (by first | rfl | (simp only [List.set_cons_succ, List.set_cons_zero]; exact rfl)) ?_) | refine ga_only 13 #[true, true, true, true, true, true, true, true, true, true, true, true, true, true] rfl rfl (by kernel_rfl) rfl (.inr ⟨[2], by decide, rfl⟩) (op_storeAgg 2 ty_29 rfl rfl rfl rfl rfl rfl (by first | rfl | (simp only [List.set_cons_succ, List.set_cons_zero]; exact rfl)) ?_)
    refine ga_end (by kernel_rfl) (.inl (by kernel_rfl)) ?_
    refine gx_then ?_
    refine gc_seq ?_
    refine gc_seq ?_
    refine gc_region ?_
    refine gl_op (op_rd rfl (rd_move rfl) ?_)
    refine gl_op (op_rd rfl (rd_lenSlice Try.underlying22 rfl) ?_)
    refine gl_op (op_rd rfl (rd_gtr rfl rfl) (gk_dec (fun h23 => ?_) (fun h23 => ?_)))
    · skip
      refine gl_op (op_rd rfl (rd_move rfl) ?_)
      refine gl_no rfl rfl rfl ?_
      refine gl_no rfl rfl rfl ?_
      refine gl_no rfl rfl rfl ?_
      refine gl_op (op_rd rfl (rd_pick_t rfl rfl) ?_)
      refine gl_nil ?_
      refine gx_then ?_
      refine gc_cond_t rfl ?_
      refine gc_seq ?_
      refine gc_region ?_
      refine gl_op (op_call rfl (vf := []) (vc := []) rfl rfl Try.call8 (fun w1 ho => shown_ok w1) ?_)
      rintro _ _ ⟨rfl, rfl⟩
      refine gl_op (op_rd rfl (rd_assign rfl) ?_)
      refine gl_nil ?_
      refine gx_then ?_
      refine gc_ret ?_
      refine gx_then_ret ?_
      refine gx_ret1 (.inl rfl) Try.results3 rfl [] (by decide) ?_
      exact ⟨rfl, rfl⟩
    · skip
      refine gl_op (op_rd rfl (rd_move rfl) ?_)
      refine gl_yes rfl rfl (op_rd rfl (rd_move rfl) ?_)
      refine gl_yes rfl rfl (op_rd rfl (rd_lenSlice Try.underlying23 rfl) ?_)
      refine gl_yes rfl rfl (op_rd rfl (rd_gtr rfl rfl) (gk_dec (fun h27 => ?_) (fun h27 => ?_)))
      · skip
        refine gl_op (op_rd rfl (rd_pick_f rfl rfl) ?_)
        refine gl_nil ?_
        refine gx_then ?_
        refine gc_cond_t rfl ?_
        refine gc_seq ?_
        refine gc_region ?_
        refine gl_op (op_call rfl (vf := []) (vc := []) rfl rfl Try.call8 (fun w1 ho => shown_ok w1) ?_)
        rintro _ _ ⟨rfl, rfl⟩
        refine gl_op (op_rd rfl (rd_assign rfl) ?_)
        refine gl_nil ?_
        refine gx_then ?_
        refine gc_ret ?_
        refine gx_then_ret ?_
        refine gx_ret1 (.inl rfl) Try.results3 rfl [] (by decide) ?_
        exact ⟨rfl, rfl⟩
      · skip
        refine gl_op (op_rd rfl (rd_pick_f rfl rfl) ?_)
        refine gl_nil ?_
        refine gx_then ?_
        refine gc_cond_f rfl ?_
        refine gc_skip ?_
        refine gx_then ?_
        refine gc_seq ?_
        refine gc_region ?_
        refine gl_op (op_rd rfl (rd_loadAgg Try.underlying25 rfl ty_25 rfl (by first | exact cs_blk 0 (off := 0) (k := 3) rfl rfl | exact cs_blk 1 (off := 0) (k := 3) rfl rfl | exact cs_blk 2 (off := 0) (k := 3) rfl rfl | exact cs_old (by assumption) (by simp)) rfl) ?_)
        refine gl_op (op_rd rfl (rd_loadAgg Try.underlying29 rfl ty_29 rfl (by first | exact cs_blk 0 (off := 0) (k := 5) rfl rfl | exact cs_blk 1 (off := 0) (k := 5) rfl rfl | exact cs_blk 2 (off := 0) (k := 5) rfl rfl | exact cs_old (by assumption) (by simp)) rfl) ?_)
        refine gl_op (op_call rfl (vf := []) (vc := []) rfl rfl Try.call9 (fun w1 ho => Fit_ok c.p c.x w1) ?_)
        rintro _ _ ⟨rfl, rfl⟩
        refine gl_op (op_rd rfl (rd_move rfl) ?_)
        refine gl_op (op_rd rfl (rd_extract rfl rfl) ?_)
        refine gl_op (op_rd rfl (rd_extract rfl rfl) ?_)
        refine gl_op (op_rd rfl (rd_extract rfl rfl) ?_)
        refine gl_op (op_rd rfl (rd_assign rfl) ?_)
        refine gl_op (op_rd rfl (rd_assign rfl) ?_)
        refine gl_op (op_rd rfl (rd_assign rfl) ?_)
        refine gl_nil ?_
        refine gx_then ?_
        refine gc_seq ?_
        refine gc_region ?_
        refine gl_op (op_rd rfl (rd_loadAgg Try.underlying25 rfl ty_25 rfl (by first | exact cs_blk 0 (off := 0) (k := 3) rfl rfl | exact cs_blk 1 (off := 0) (k := 3) rfl rfl | exact cs_blk 2 (off := 0) (k := 3) rfl rfl | exact cs_old (by assumption) (by simp)) rfl) ?_)
        refine gl_op (op_rd rfl (rd_loadAgg Try.underlying29 rfl ty_29 rfl (by first | exact cs_blk 0 (off := 0) (k := 5) rfl rfl | exact cs_blk 1 (off := 0) (k := 5) rfl rfl | exact cs_blk 2 (off := 0) (k := 5) rfl rfl | exact cs_old (by assumption) (by simp)) rfl) ?_)
        refine gl_op (op_call rfl (vf := []) (vc := []) rfl rfl Try.call10 (fun w1 ho => rFit_ok c.p c.x w1) ?_)
        rintro _ _ ⟨rfl, rfl⟩
        refine gl_op (op_rd rfl (rd_move rfl) ?_)
        refine gl_op (op_rd rfl (rd_extract rfl rfl) ?_)
        refine gl_op (op_rd rfl (rd_extract rfl rfl) ?_)
        refine gl_op (op_rd rfl (rd_extract rfl rfl) ?_)
        refine gl_op (op_rd rfl (rd_assign rfl) ?_)
        refine gl_op (op_rd rfl (rd_assign rfl) ?_)
        refine gl_op (op_rd rfl (rd_assign rfl) ?_)
        refine gl_nil ?_
        refine gx_then ?_
        refine gc_seq ?_
        refine gc_region ?_
        refine gl_op (op_rd rfl (rd_move rfl) ?_)
        refine gl_op (op_rd rfl (rd_move rfl) ?_)
        refine gl_op (op_call rfl (vf := []) (vc := []) rfl rfl Try.call11 (fun w1 ho => Check_ok c.l c.w c.la c.wa c.lc c.wc w1 (hin.hl.at ho) (hin.hw.at ho) hin.hlb hin.hwb) ?_)
        rintro _ _ ⟨rfl, rfl⟩
        refine gl_op (op_rd rfl (rd_move rfl) ?_)
        refine gl_op (op_rd rfl (rd_move rfl) ?_)
        refine gl_op (op_call rfl (vf := []) (vc := []) rfl rfl Try.call12 (fun w1 ho => rCheck_ok c.l c.w c.la c.wa c.lc c.wc w1 (hin.hl.at ho) (hin.hw.at ho) hin.hlb hin.hwb) ?_)
        rintro _ _ ⟨rfl, rfl⟩
        refine gl_op (op_rd rfl (rd_eql rfl rfl) (gk_dec (fun hd4 => ?_) (fun hd4 => ?_)))
        · skip
          refine gl_op (op_rd rfl (rd_move rfl) ?_)
          refine gl_yes rfl rfl (op_rd rfl (rd_move rfl) ?_)
          refine gl_yes rfl rfl (op_rd rfl (rd_move rfl) ?_)
          refine gl_yes rfl rfl (op_rd rfl (rd_eql rfl rfl) (gk_dec (fun hd5 => ?_) (fun hd5 => ?_)))
          · skip
            refine gl_op (op_rd rfl (rd_pick_t rfl rfl) ?_)
            refine gl_op (op_rd rfl (rd_move rfl) ?_)
            refine gl_yes rfl rfl (op_rd rfl (rd_move rfl) ?_)
            refine gl_yes rfl rfl (op_rd rfl (rd_move rfl) ?_)
            refine gl_yes rfl rfl (op_rd rfl (rd_eqlb Try.runUnderlying4 rfl rfl) ?_)
            refine gk_bool (fun h59 => ?_) (fun h59 => ?_)
            · skip
              refine gl_op (op_rd rfl (rd_pick_t rfl rfl) ?_)
              refine gl_op (op_rd rfl (rd_move rfl) ?_)
              refine gl_yes rfl rfl (op_rd rfl (rd_move rfl) ?_)
              refine gl_yes rfl rfl (op_rd rfl (rd_move rfl) ?_)
              refine gl_yes rfl rfl (op_rd rfl (rd_eql rfl rfl) (gk_dec (fun hd6 => ?_) (fun hd6 => ?_)))
              · skip
                refine gl_op (op_rd rfl (rd_pick_t rfl rfl) ?_)
                refine gl_op (op_rd rfl (rd_move rfl) ?_)
                refine gl_yes rfl rfl (op_call rfl (vf := []) (vc := []) rfl rfl Try.call8 (fun w1 ho => shown_ok w1) ?_)
                rintro _ _ ⟨rfl, rfl⟩
                refine gl_op (op_rd rfl (rd_pick_t rfl rfl) ?_)
                refine gl_op (op_rd rfl (rd_assign rfl) ?_)
                refine gl_nil ?_
                refine gx_then ?_
                refine gc_ret ?_
                refine gx_ret1 (.inl rfl) Try.results3 rfl [] (by decide) ?_
                exact ⟨rfl, rfl⟩
              · skip
                exact absurd rfl (by assumption)
            · skip
              simp at h59
          · skip
            exact absurd rfl (by assumption)
        · skip
          exact absurd rfl (by assumption)

end Go.Proofs.Yteiopfefmphhaaa

set_option autoImplicit false
set_option linter.unusedVariables false
namespace Go.Proofs.Yteiopfefmphhaaa
open Go.Gv
open Go.RowKit Go.ChangeShapes Go.WideShapes
open Iv
set_option maxHeartbeats 1000000 in
set_option maxRecDepth 100000 in
theorem inventoryFits_lifted (os : Os) (started : os.Started) (H : Type) (enc : TypeId × Value → H) :
    ReturnsInHanded {} Try.checked os 3 .any (Rows.inventoryFitsSpec.pre6 enc Try.prog Try.f3 Rows.inventoryFitsRow.domain false) (Rows.inventoryFitsSpec.post enc Try.prog Try.f3 false true false false) := by
  refine returnsInHanded_of_change_sized (C := Try.checked) tryOwn started (by kernel_rfl) Try.func3
    (ChangeSpec.witness6 (enc := enc) (C := Try.checked) false ⟨#[], #[.agg #[.slice none 0 0, .slice none 0 0, .int .i64 0, .int .i64 0, .int .i64 0, .int .i64 0, .int .i64 0, .int .i64 0, .int .i64 0, .int .i64 0]], []⟩ 8 (by kernel_rfl) (by kernel_rfl) (by kernel_rfl) (by kernel_rfl)) ?_
  intro W base args ds gs before hval0 hW _ hwt _
  have hval : ∀ (j : Nat) t v, Try.f3.params[j]? = some t → args[j]? = some v → Value.okWide Try.prog W .any base t v := hval0
  have hW' := hW
  obtain ⟨p, q, hA0, hV, rfl, hfz, hnd⟩ := hW
  have hA : DataW.TrodAll enc Try.prog W 0 (fun _ => true) true Try.f3.params.toList args.toList ds p := hA0
  rw [Try.params3] at hA hval
  obtain ⟨v0, vs0, d0, ds0, p0, q0, hargs, rfl, rfl, h0, r0⟩ := trodAll_cons hA
  obtain ⟨rfl, rfl, rfl⟩ := trodAll_nil r0
  obtain rfl : args = #[v0] := Array.toList_inj.1 hargs
  obtain ⟨rfl, rfl⟩ := trodVars_none hV
  obtain ⟨cs0, rfl, hsz0⟩ := okWide_struct Try.underlying31 (hval 0 31 v0 rfl rfl)
  obtain ⟨fuel0, hf0⟩ := h0
  obtain ⟨c0, hc0, hin0⟩ := openCase hf0 (fun b hb => by
    have := List.all_eq_true.1 hwt b (DataW.weights_mem_each (j := 0) (t := 31) rfl rfl b hb)
    simpa using this)
  have e0 : Value.agg cs0 = c0.val := by
    have : cs0 = c0.cells.toArray := by rw [← hc0]; simp [Value.cells]
    rw [this]; rfl
  have hcall := InventoryFits_ok c0 W hin0
  rw [e0]
  rw [e0] at hW'
  unfold Sp at hcall
  refine Calls.mono hcall fun e W' ⟨v, l, he, hR, ho⟩ => ⟨v, he, ?_⟩
  obtain ⟨rfl, rfl⟩ := hR
  exact law_post hW' rfl ho.below rfl rfl rfl rfl (by rw [Try.params3]; intro t ht; simp at ht; subst ht; exact ⟨by kernel_rfl, of_decide_eq_true (by kernel_rfl)⟩)
theorem inventoryFits_over : Rows.inventoryFitsRow.holds Try.pinned (OpenSpec.ofChange Rows.inventoryFitsSpec) :=
  OpenClaim.holds_of_wide 3 Try.f3 rfl rfl rfl rfl rfl rfl rfl ⟨rfl, rfl, rfl, rfl, rfl⟩ rfl rfl rfl rfl rfl (by kernel_rfl) Try.func3 (by kernel_rfl)
    (of_decide_eq_true (by kernel_rfl)) (by unfold Func.isWrapper; first | (rw [if_pos (by decide +kernel)]; kernel_rfl) | (rw [if_neg (by decide +kernel)]; exact ⟨rfl, rfl⟩))
    (fun os started H enc _ => inventoryFits_lifted os started H enc)
theorem inventoryFits_proved : Rows.InventoryFitsSaid := inventoryFits_over
end Go.Proofs.Yteiopfefmphhaaa
