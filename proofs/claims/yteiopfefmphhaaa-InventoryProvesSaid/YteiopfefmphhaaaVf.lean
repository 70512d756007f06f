import Derived.Test.YteiopfefmphhaaaVe
import Derived.Test.YteiopfefmphhaaaVd
/- The walks of Met and few; a row of numbers as an argument. -/
set_option linter.unusedSimpArgs false
set_option linter.unusedVariables false
set_option linter.unnecessarySimpa false
set_option autoImplicit false
set_option linter.unusedVariables false
namespace Go.Proofs.Yteiopfefmphhaaa
open Go.Gv
open Go.RowKit
open Iv
set_option maxRecDepth 100000 in
set_option maxHeartbeats 4000000 in
theorem Met_ok (l : List Pipe) (w : List Wish) (xs : List Int) (a b d : Option Addr) (ca cb cd : Nat) (w0 : World) (hl : OldSl w0 [] a l.length 3 (l.flatMap Pipe.cells)) (hw : OldSl w0 [] b w.length 5 (w.flatMap Wish.cells)) (hx : OldSl w0 [] d xs.length 1 (xs.map intV)) (hd : Dat l w) (hxb : xs.length ≤ 140737488355328) : Sp Try.prog 19 [.slice a l.length ca, .slice b w.length cb, .slice d xs.length cd] w0 [] (RV (.tuple #[.int .i64 (metP l w xs).1, .int .i64 (metP l w xs).2])) := by
  refine spec_enter Try.func19 rfl Try.ntmps19 rfl (Own.refl _) ?_
  simp only [argEnv]
  refine gc_seq ?_
  refine gc_region ?_
  refine gl_op (op_rd rfl (rd_assign rfl) ?_)
  refine gl_op (op_rd rfl (rd_assign rfl) ?_)
  refine gl_nil ?_
  refine gx_then ?_
  refine gc_seq ?_
  refine gc_seq ?_
  refine gc_region ?_
  refine gl_op (op_rd rfl (rd_move rfl) ?_)
  refine gl_op (op_rd rfl (rd_lenSlice Try.underlying39 rfl) ?_)
  refine gl_op (op_rd rfl (rd_move rfl) ?_)
  refine gl_op (op_rd rfl (rd_lenSlice Try.underlying23 rfl) ?_)
  refine gl_op (op_rd rfl (rd_neq rfl rfl) (gk_dec (fun h16 => ?_) (fun h16 => ?_)))
  · skip
    refine gl_nil ?_
    refine gx_then ?_
    refine gc_cond_t rfl ?_
    refine gc_seq ?_
    refine gc_region ?_
    refine gl_op (op_rd rfl (rd_assign rfl) ?_)
    refine gl_op (op_rd rfl (rd_assign rfl) ?_)
    refine gl_nil ?_
    refine gx_then ?_
    refine gc_ret ?_
    refine gx_then_ret ?_
    refine gx_ret2 (.inl rfl) Try.results19 rfl rfl [] (by decide) ?_
    have hm : metP l w xs = (-1, 0) := by unfold metP; rw [if_neg (by omega)]
    rw [hm]
    exact ⟨rfl, rfl⟩
  · skip
    have hwn := hd.wn
    have hln := hd.ln
    have hxl : xs.length = w.length := by omega
    refine gl_nil ?_
    refine gx_then ?_
    refine gc_cond_f rfl ?_
    refine gc_skip ?_
    refine gx_then ?_
    refine gc_seq ?_
    refine gc_region ?_
    refine gl_op (op_rd rfl (rd_assign rfl) ?_)
    refine gl_op (op_rd rfl (rd_assign rfl) ?_)
    refine gl_nil ?_
    refine gx_then ?_
    refine gc_seq ?_
    refine gc_seq ?_
    refine gc_region ?_
    refine gl_op (op_rd rfl (rd_assign rfl) ?_)
    refine gl_nil ?_
    refine gx_then ?_
    refine gc_block ?_
    refine gc_loopF (ι := Nat × Nat × Int) [(0, _), (1, _), (2, _)] [] (fun j => j.1 ≤ xs.length ∧ metTo l w xs j.1 = some (j.2.1, j.2.2) ∧ j.2.1 ≤ j.1 ∧ 0 ≤ j.2.2 ∧ j.2.2 ≤ j.1 * 12200000) (fun j Fr0 => ((8, natV j.2.1) :: (9, .int .i64 j.2.2) :: (10, natV j.1) :: Fr0)) (fun j Fr0 => Fr0) (fun j => xs.length - j.1) (0, 0, 0) (⟨Nat.zero_le _, rfl, Nat.le_refl _, Int.le_refl _, by simp⟩) ⟨rfl, rfl, rfl, rfl, rfl, rfl, trivial⟩ ⟨[], by decide, rfl⟩ ?_
    rintro ⟨i, c, k⟩ ⟨hi, hto, hci, hk0, hk1⟩
    simp only at hi hto hci hk0 hk1 ⊢
    refine gc_seq ?_
    refine gc_seq ?_
    refine gc_region ?_
    refine gl_op (op_rd rfl (rd_move rfl) ?_)
    refine gl_op (op_rd rfl (rd_move rfl) ?_)
    refine gl_op (op_rd rfl (rd_lenSlice Try.underlying39 rfl) ?_)
    refine gl_op (op_rd rfl (rd_lss rfl rfl) (gk_dec (fun hlt => ?_) (fun hlt => ?_)))
    · skip
      obtain ⟨z, hz⟩ := get_some (show i < xs.length by omega)
      obtain ⟨y, hy⟩ := get_some (show i < w.length by omega)
      have hzd : xs.getD i 0 = z := getD_some hz
      have hyd : w.getD i default = y := getD_some hy
      have hyo := hd.w y (List.mem_of_getElem? hy)
      refine gl_nil ?_
      refine gx_then ?_
      refine gc_cond_t rfl ?_
      refine gc_skip ?_
      refine gx_then ?_
      refine gc_seq ?_
      refine gc_block ?_
      refine gc_seq ?_
      refine gc_seq ?_
      refine gc_region ?_
      refine gl_op (op_rd rfl (rd_move rfl) ?_)
      refine gl_op (op_rd rfl (rd_move rfl) ?_)
      refine gl_op (op_rd rfl (rd_indexOld1 hx Try.underlying39 ty_3 rfl rfl (by omega) (by omega)) ?_)
      refine gl_op (op_rd rfl (rd_load Try.underlying3 rfl rfl (ld_slN hx (get_iv hz))) ?_)
      refine gl_op (op_rd rfl (rd_eql rfl rfl) (gk_dec (fun h27 => ?_) (fun h27 => ?_)))
      · skip
        refine gl_nil ?_
        refine gx_then ?_
        refine gc_cond_t rfl ?_
        refine gc_exit ?_
        refine gx_then_exit ?_
        refine gx_block_exit ?_
        refine gx_then ?_
        refine gc_region ?_
        refine gl_op (op_rd rfl (rd_move rfl) ?_)
        refine gl_op (op_rd rfl (by first | exact rd_addN (b := 1) rfl rfl (by omega) | exact rd_add rfl rfl (by omega) (by omega)) ?_)
        refine gl_op (op_rd rfl (rd_assign rfl) ?_)
        refine gl_nil ?_
        refine gx_then ?_
        exact gx_cut ((i + 1, c, k)) ⟨⟨by simp only; omega, by simp only; rw [metTo_succ, hto]; unfold metOne; simp only; rw [hzd, if_pos h27], by simp only; omega, hk0, by simp only; omega⟩, by simp only; omega⟩ ⟨rfl, rfl, rfl, rfl, rfl, rfl, trivial⟩ ⟨[], by decide, rfl⟩
      · skip
        refine gl_nil ?_
        refine gx_then ?_
        refine gc_cond_f rfl ?_
        refine gc_skip ?_
        refine gx_then ?_
        refine gc_seq ?_
        refine gc_seq ?_
        refine gc_drawP [] true 28 rfl ?_
        refine ga_first 0 #[true, false, false, false, false, false, false, false, false, false, false, false, false, false, false, false, false, false, false, false, false, false, false, false, false, false, false, false, false] rfl rfl rfl rfl (by kernel_rfl) rfl ⟨[], by decide, rfl⟩ (qt_rd (rd_move rfl)) ?_
        refine ga_first 1 #[true, true, false, false, false, false, false, false, false, false, false, false, false, false, false, false, false, false, false, false, false, false, false, false, false, false, false, false, false] rfl rfl rfl rfl (by kernel_rfl) rfl ⟨[], by decide, rfl⟩ (qt_rd (rd_move rfl)) ?_
        refine ga_first 2 #[true, true, true, false, false, false, false, false, false, false, false, false, false, false, false, false, false, false, false, false, false, false, false, false, false, false, false, false, false] rfl rfl rfl rfl (by kernel_rfl) rfl ⟨[], by decide, rfl⟩ (qt_rd (rd_indexOld1 hx Try.underlying39 ty_3 rfl rfl (by omega) (by omega))) ?_
        refine ga_first 3 #[true, true, true, true, false, false, false, false, false, false, false, false, false, false, false, false, false, false, false, false, false, false, false, false, false, false, false, false, false] rfl rfl rfl rfl (by kernel_rfl) rfl ⟨[], by decide, rfl⟩ (qt_rd (rd_load Try.underlying3 rfl rfl (ld_slN hx (get_iv hz)))) ?_
        refine ga_first 4 #[true, true, true, true, true, false, false, false, false, false, false, false, false, false, false, false, false, false, false, false, false, false, false, false, false, false, false, false, false] rfl rfl rfl rfl (by kernel_rfl) rfl ⟨[], by decide, rfl⟩ (qt_rd (rd_lss rfl rfl)) (gk_dec (fun h32 => ?_) (fun h32 => ?_))
        · skip
          have hno : metTo l w xs (i + 1) = none := by
            rw [metTo_succ, hto]; unfold metOne; simp only; rw [hzd, if_neg (by omega), if_pos]; unfold metBad; rw [hzd]; rw [decide_eq_true h32]; rfl
          refine ga_first 5 #[true, true, true, true, true, true, false, false, false, false, false, false, false, false, false, false, false, false, false, false, false, false, false, false, false, false, false, false, false] rfl rfl rfl rfl (by kernel_rfl) rfl ⟨[], by decide, rfl⟩ (qt_rd (rd_move rfl)) ?_
          refine ga_firstN 6 #[true, true, true, true, true, true, true, false, false, false, false, false, false, false, false, false, false, false, false, false, false, false, false, false, false, false, false, false, false] rfl rfl rfl rfl rfl rfl (by kernel_rfl) rfl ⟨[], by decide, rfl⟩ ?_
          refine ga_firstN 7 #[true, true, true, true, true, true, true, true, false, false, false, false, false, false, false, false, false, false, false, false, false, false, false, false, false, false, false, false, false] rfl rfl rfl rfl rfl rfl (by kernel_rfl) rfl ⟨[], by decide, rfl⟩ ?_
          refine ga_firstN 8 #[true, true, true, true, true, true, true, true, true, false, false, false, false, false, false, false, false, false, false, false, false, false, false, false, false, false, false, false, false] rfl rfl rfl rfl rfl rfl (by kernel_rfl) rfl ⟨[], by decide, rfl⟩ ?_
          refine ga_firstN 9 #[true, true, true, true, true, true, true, true, true, true, false, false, false, false, false, false, false, false, false, false, false, false, false, false, false, false, false, false, false] rfl rfl rfl rfl rfl rfl (by kernel_rfl) rfl ⟨[], by decide, rfl⟩ ?_
          refine ga_firstN 10 #[true, true, true, true, true, true, true, true, true, true, true, false, false, false, false, false, false, false, false, false, false, false, false, false, false, false, false, false, false] rfl rfl rfl rfl rfl rfl (by kernel_rfl) rfl ⟨[], by decide, rfl⟩ ?_
          refine ga_firstN 11 #[true, true, true, true, true, true, true, true, true, true, true, true, false, false, false, false, false, false, false, false, false, false, false, false, false, false, false, false, false] rfl rfl rfl rfl rfl rfl (by kernel_rfl) rfl ⟨[], by decide, rfl⟩ ?_
          refine ga_firstN 12 #[true, true, true, true, true, true, true, true, true, true, true, true, true, false, false, false, false, false, false, false, false, false, false, false, false, false, false, false, false] rfl rfl rfl rfl rfl rfl (by kernel_rfl) rfl ⟨[], by decide, rfl⟩ ?_
          refine ga_first 13 #[true, true, true, true, true, true, true, true, true, true, true, true, true, true, false, false, false, false, false, false, false, false, false, false, false, false, false, false, false] rfl rfl rfl rfl (by kernel_rfl) rfl ⟨[], by decide, rfl⟩ (qt_rd (rd_pick_t rfl rfl)) ?_
          refine ga_first 14 #[true, true, true, true, true, true, true, true, true, true, true, true, true, true, true, false, false, false, false, false, false, false, false, false, false, false, false, false, false] rfl rfl rfl rfl (by kernel_rfl) rfl ⟨[], by decide, rfl⟩ (qt_rd (rd_move rfl)) ?_
          refine ga_firstN 15 #[true, true, true, true, true, true, true, true, true, true, true, true, true, true, true, true, false, false, false, false, false, false, false, false, false, false, false, false, false] rfl rfl rfl rfl rfl rfl (by kernel_rfl) rfl ⟨[], by decide, rfl⟩ ?_
          refine ga_firstN 16 #[true, true, true, true, true, true, true, true, true, true, true, true, true, true, true, true, true, false, false, false, false, false, false, false, false, false, false, false, false] rfl rfl rfl rfl rfl rfl (by kernel_rfl) rfl ⟨[], by decide, rfl⟩ ?_
          refine ga_firstN 17 #[true, true, true, true, true, true, true, true, true, true, true, true, true, true, true, true, true, true, false, false, false, false, false, false, false, false, false, false, false] rfl rfl rfl rfl rfl rfl (by kernel_rfl) rfl ⟨[], by decide, rfl⟩ ?_
          refine ga_firstN 18 #[true, true, true, true, true, true, true, true, true, true, true, true, true, true, true, true, true, true, true, false, false, false, false, false, false, false, false, false, false] rfl rfl rfl rfl rfl rfl (by kernel_rfl) rfl ⟨[], by decide, rfl⟩ ?_
          refine ga_firstN 19 #[true, true, true, true, true, true, true, true, true, true, true, true, true, true, true, true, true, true, true, true, false, false, false, false, false, false, false, false, false] rfl rfl rfl rfl rfl rfl (by kernel_rfl) rfl ⟨[], by decide, rfl⟩ ?_
          refine ga_firstN 20 #[true, true, true, true, true, true, true, true, true, true, true, true, true, true, true, true, true, true, true, true, true, false, false, false, false, false, false, false, false] rfl rfl rfl rfl rfl rfl (by kernel_rfl) rfl ⟨[], by decide, rfl⟩ ?_
          refine ga_firstN 21 #[true, true, true, true, true, true, true, true, true, true, true, true, true, true, true, true, true, true, true, true, true, true, false, false, false, false, false, false, false] rfl rfl rfl rfl rfl rfl (by kernel_rfl) rfl ⟨[], by decide, rfl⟩ ?_
          refine ga_firstN 22 #[true, true, true, true, true, true, true, true, true, true, true, true, true, true, true, true, true, true, true, true, true, true, true, false, false, false, false, false, false] rfl rfl rfl rfl rfl rfl (by kernel_rfl) rfl ⟨[], by decide, rfl⟩ ?_
          refine ga_firstN 23 #[true, true, true, true, true, true, true, true, true, true, true, true, true, true, true, true, true, true, true, true, true, true, true, true, false, false, false, false, false] rfl rfl rfl rfl rfl rfl (by kernel_rfl) rfl ⟨[], by decide, rfl⟩ ?_
          refine ga_firstN 24 #[true, true, true, true, true, true, true, true, true, true, true, true, true, true, true, true, true, true, true, true, true, true, true, true, true, false, false, false, false] rfl rfl rfl rfl rfl rfl (by kernel_rfl) rfl ⟨[], by decide, rfl⟩ ?_
          refine ga_firstN 25 #[true, true, true, true, true, true, true, true, true, true, true, true, true, true, true, true, true, true, true, true, true, true, true, true, true, true, false, false, false] rfl rfl rfl rfl rfl rfl (by kernel_rfl) rfl ⟨[], by decide, rfl⟩ ?_
          refine ga_firstN 26 #[true, true, true, true, true, true, true, true, true, true, true, true, true, true, true, true, true, true, true, true, true, true, true, true, true, true, true, false, false] rfl rfl rfl rfl rfl rfl (by kernel_rfl) rfl ⟨[], by decide, rfl⟩ ?_
          refine ga_firstN 27 #[true, true, true, true, true, true, true, true, true, true, true, true, true, true, true, true, true, true, true, true, true, true, true, true, true, true, true, true, false] rfl rfl rfl rfl rfl rfl (by kernel_rfl) rfl ⟨[], by decide, rfl⟩ ?_
          refine ga_first 28 #[true, true, true, true, true, true, true, true, true, true, true, true, true, true, true, true, true, true, true, true, true, true, true, true, true, true, true, true, true] rfl rfl rfl rfl (by kernel_rfl) rfl ⟨[], by decide, rfl⟩ (qt_rd (rd_pick_t rfl rfl)) ?_
          refine ga_end (by kernel_rfl) (.inr ⟨[], by decide, rfl⟩) ?_
          refine gx_then ?_
          refine gc_cond_t rfl ?_
          refine gc_seq ?_
          refine gc_region ?_
          refine gl_op (op_rd rfl (rd_assign rfl) ?_)
          refine gl_op (op_rd rfl (rd_assign rfl) ?_)
          refine gl_nil ?_
          refine gx_then ?_
          refine gc_ret ?_
          refine gx_then_ret ?_
          refine gx_block_ret ?_
          refine gx_then_ret ?_
          refine gx_then_ret ?_
          refine gx_block_ret ?_
          refine gx_then_ret ?_
          refine gx_ret2 (.inl rfl) Try.results19 rfl rfl [] (by decide) ?_
          rw [met_no (by omega) hno]
          exact ⟨rfl, rfl⟩
        · skip
          refine ga_first 5 #[true, true, true, true, true, true, false, false, false, false, false, false, false, false, false, false, false, false, false, false, false, false, false, false, false, false, false, false, false] rfl rfl rfl rfl (by kernel_rfl) rfl ⟨[], by decide, rfl⟩ (qt_rd (rd_move rfl)) ?_
          refine ga_firstY 6 #[true, true, true, true, true, true, true, false, false, false, false, false, false, false, false, false, false, false, false, false, false, false, false, false, false, false, false, false, false] rfl rfl rfl rfl rfl rfl (by kernel_rfl) rfl ⟨[], by decide, rfl⟩ (qt_rd (rd_move rfl)) ?_
          refine ga_firstY 7 #[true, true, true, true, true, true, true, true, false, false, false, false, false, false, false, false, false, false, false, false, false, false, false, false, false, false, false, false, false] rfl rfl rfl rfl rfl rfl (by kernel_rfl) rfl ⟨[], by decide, rfl⟩ (qt_rd (rd_move rfl)) ?_
          refine ga_firstY 8 #[true, true, true, true, true, true, true, true, true, false, false, false, false, false, false, false, false, false, false, false, false, false, false, false, false, false, false, false, false] rfl rfl rfl rfl rfl rfl (by kernel_rfl) rfl ⟨[], by decide, rfl⟩ (qt_rd (rd_indexOld1 hx Try.underlying39 ty_3 rfl rfl (by omega) (by omega))) ?_
          refine ga_firstY 9 #[true, true, true, true, true, true, true, true, true, true, false, false, false, false, false, false, false, false, false, false, false, false, false, false, false, false, false, false, false] rfl rfl rfl rfl rfl rfl (by kernel_rfl) rfl ⟨[], by decide, rfl⟩ (qt_rd (rd_load Try.underlying3 rfl rfl (ld_slN hx (get_iv hz)))) ?_
          refine ga_firstY 10 #[true, true, true, true, true, true, true, true, true, true, true, false, false, false, false, false, false, false, false, false, false, false, false, false, false, false, false, false, false] rfl rfl rfl rfl rfl rfl (by kernel_rfl) rfl ⟨[], by decide, rfl⟩ (qt_rd (rd_move rfl)) ?_
          refine ga_firstY 11 #[true, true, true, true, true, true, true, true, true, true, true, true, false, false, false, false, false, false, false, false, false, false, false, false, false, false, false, false, false] rfl rfl rfl rfl rfl rfl (by kernel_rfl) rfl ⟨[], by decide, rfl⟩ (qt_rd (rd_lenSlice Try.underlying22 rfl)) ?_
          refine ga_firstY 12 #[true, true, true, true, true, true, true, true, true, true, true, true, true, false, false, false, false, false, false, false, false, false, false, false, false, false, false, false, false] rfl rfl rfl rfl rfl rfl (by kernel_rfl) rfl ⟨[], by decide, rfl⟩ (qt_rd (rd_geq rfl rfl)) (gk_dec (fun h40 => ?_) (fun h40 => ?_))
          · skip
            have hno : metTo l w xs (i + 1) = none := by
              rw [metTo_succ, hto]; unfold metOne; simp only; rw [hzd, if_neg (by omega), if_pos]; unfold metBad; rw [hzd]; rw [decide_eq_true (show (l.length : Int) ≤ z by omega), Bool.or_true]; rfl
            refine ga_first 13 #[true, true, true, true, true, true, true, true, true, true, true, true, true, true, false, false, false, false, false, false, false, false, false, false, false, false, false, false, false] rfl rfl rfl rfl (by kernel_rfl) rfl ⟨[], by decide, rfl⟩ (qt_rd (rd_pick_f rfl rfl)) ?_
            refine ga_first 14 #[true, true, true, true, true, true, true, true, true, true, true, true, true, true, true, false, false, false, false, false, false, false, false, false, false, false, false, false, false] rfl rfl rfl rfl (by kernel_rfl) rfl ⟨[], by decide, rfl⟩ (qt_rd (rd_move rfl)) ?_
            refine ga_firstN 15 #[true, true, true, true, true, true, true, true, true, true, true, true, true, true, true, true, false, false, false, false, false, false, false, false, false, false, false, false, false] rfl rfl rfl rfl rfl rfl (by kernel_rfl) rfl ⟨[], by decide, rfl⟩ ?_
            refine ga_firstN 16 #[true, true, true, true, true, true, true, true, true, true, true, true, true, true, true, true, true, false, false, false, false, false, false, false, false, false, false, false, false] rfl rfl rfl rfl rfl rfl (by kernel_rfl) rfl ⟨[], by decide, rfl⟩ ?_
            refine ga_firstN 17 #[true, true, true, true, true, true, true, true, true, true, true, true, true, true, true, true, true, true, false, false, false, false, false, false, false, false, false, false, false] rfl rfl rfl rfl rfl rfl (by kernel_rfl) rfl ⟨[], by decide, rfl⟩ ?_
            refine ga_firstN 18 #[true, true, true, true, true, true, true, true, true, true, true, true, true, true, true, true, true, true, true, false, false, false, false, false, false, false, false, false, false] rfl rfl rfl rfl rfl rfl (by kernel_rfl) rfl ⟨[], by decide, rfl⟩ ?_
            refine ga_firstN 19 #[true, true, true, true, true, true, true, true, true, true, true, true, true, true, true, true, true, true, true, true, false, false, false, false, false, false, false, false, false] rfl rfl rfl rfl rfl rfl (by kernel_rfl) rfl ⟨[], by decide, rfl⟩ ?_
            refine ga_firstN 20 #[true, true, true, true, true, true, true, true, true, true, true, true, true, true, true, true, true, true, true, true, true, false, false, false, false, false, false, false, false] rfl rfl rfl rfl rfl rfl (by kernel_rfl) rfl ⟨[], by decide, rfl⟩ ?_
            refine ga_firstN 21 #[true, true, true, true, true, true, true, true, true, true, true, true, true, true, true, true, true, true, true, true, true, true, false, false, false, false, false, false, false] rfl rfl rfl rfl rfl rfl (by kernel_rfl) rfl ⟨[], by decide, rfl⟩ ?_
            refine ga_firstN 22 #[true, true, true, true, true, true, true, true, true, true, true, true, true, true, true, true, true, true, true, true, true, true, true, false, false, false, false, false, false] rfl rfl rfl rfl rfl rfl (by kernel_rfl) rfl ⟨[], by decide, rfl⟩ ?_
            refine ga_firstN 23 #[true, true, true, true, true, true, true, true, true, true, true, true, true, true, true, true, true, true, true, true, true, true, true, true, false, false, false, false, false] rfl rfl rfl rfl rfl rfl (by kernel_rfl) rfl ⟨[], by decide, rfl⟩ ?_
            refine ga_firstN 24 #[true, true, true, true, true, true, true, true, true, true, true, true, true, true, true, true, true, true, true, true, true, true, true, true, true, false, false, false, false] rfl rfl rfl rfl rfl rfl (by kernel_rfl) rfl ⟨[], by decide, rfl⟩ ?_
            refine ga_firstN 25 #[true, true, true, true, true, true, true, true, true, true, true, true, true, true, true, true, true, true, true, true, true, true, true, true, true, true, false, false, false] rfl rfl rfl rfl rfl rfl (by kernel_rfl) rfl ⟨[], by decide, rfl⟩ ?_
            refine ga_firstN 26 #[true, true, true, true, true, true, true, true, true, true, true, true, true, true, true, true, true, true, true, true, true, true, true, true, true, true, true, false, false] rfl rfl rfl rfl rfl rfl (by kernel_rfl) rfl ⟨[], by decide, rfl⟩ ?_
            refine ga_firstN 27 #[true, true, true, true, true, true, true, true, true, true, true, true, true, true, true, true, true, true, true, true, true, true, true, true, true, true, true, true, false] rfl rfl rfl rfl rfl rfl (by kernel_rfl) rfl ⟨[], by decide, rfl⟩ ?_
            refine ga_first 28 #[true, true, true, true, true, true, true, true, true, true, true, true, true, true, true, true, true, true, true, true, true, true, true, true, true, true, true, true, true] rfl rfl rfl rfl (by kernel_rfl) rfl ⟨[], by decide, rfl⟩ (qt_rd (rd_pick_t rfl rfl)) ?_
            refine ga_end (by kernel_rfl) (.inr ⟨[], by decide, rfl⟩) ?_
            refine gx_then ?_
            refine gc_cond_t rfl ?_
            refine gc_seq ?_
            refine gc_region ?_
            refine gl_op (op_rd rfl (rd_assign rfl) ?_)
            refine gl_op (op_rd rfl (rd_assign rfl) ?_)
            refine gl_nil ?_
            refine gx_then ?_
            refine gc_ret ?_
            refine gx_then_ret ?_
            refine gx_block_ret ?_
            refine gx_then_ret ?_
            refine gx_then_ret ?_
            refine gx_block_ret ?_
            refine gx_then_ret ?_
            refine gx_ret2 (.inl rfl) Try.results19 rfl rfl [] (by decide) ?_
            rw [met_no (by omega) hno]
            exact ⟨rfl, rfl⟩
          · skip
            obtain ⟨zn, rfl⟩ : ∃ zn : Nat, z = zn := ⟨z.toNat, by omega⟩
            obtain ⟨p, hp⟩ := get_some (show zn < l.length by omega)
            have hpd : l.getD zn default = p := getD_some hp
            have hpo := hd.p p (List.mem_of_getElem? hp)
            have hcn := cost_nn p y
            refine ga_first 13 #[true, true, true, true, true, true, true, true, true, true, true, true, true, true, false, false, false, false, false, false, false, false, false, false, false, false, false, false, false] rfl rfl rfl rfl (by kernel_rfl) rfl ⟨[], by decide, rfl⟩ (qt_rd (rd_pick_f rfl rfl)) ?_
            refine ga_first 14 #[true, true, true, true, true, true, true, true, true, true, true, true, true, true, true, false, false, false, false, false, false, false, false, false, false, false, false, false, false] rfl rfl rfl rfl (by kernel_rfl) rfl ⟨[], by decide, rfl⟩ (qt_rd (rd_move rfl)) ?_
            refine ga_firstY 15 #[true, true, true, true, true, true, true, true, true, true, true, true, true, true, true, true, false, false, false, false, false, false, false, false, false, false, false, false, false] rfl rfl rfl rfl rfl rfl (by kernel_rfl) rfl ⟨[], by decide, rfl⟩ (qt_rd (rd_move rfl)) ?_
            refine ga_firstY 16 #[true, true, true, true, true, true, true, true, true, true, true, true, true, true, true, true, true, false, false, false, false, false, false, false, false, false, false, false, false] rfl rfl rfl rfl rfl rfl (by kernel_rfl) rfl ⟨[], by decide, rfl⟩ (qt_rd (rd_move rfl)) ?_
            refine ga_firstY 17 #[true, true, true, true, true, true, true, true, true, true, true, true, true, true, true, true, true, true, false, false, false, false, false, false, false, false, false, false, false] rfl rfl rfl rfl rfl rfl (by kernel_rfl) rfl ⟨[], by decide, rfl⟩ (qt_rd (rd_move rfl)) ?_
            refine ga_firstY 18 #[true, true, true, true, true, true, true, true, true, true, true, true, true, true, true, true, true, true, true, false, false, false, false, false, false, false, false, false, false] rfl rfl rfl rfl rfl rfl (by kernel_rfl) rfl ⟨[], by decide, rfl⟩ (qt_rd (rd_indexOld1 hx Try.underlying39 ty_3 rfl rfl (by omega) (by omega))) ?_
            refine ga_firstY 19 #[true, true, true, true, true, true, true, true, true, true, true, true, true, true, true, true, true, true, true, true, false, false, false, false, false, false, false, false, false] rfl rfl rfl rfl rfl rfl (by kernel_rfl) rfl ⟨[], by decide, rfl⟩ (qt_rd (rd_load Try.underlying3 rfl rfl (ld_slN hx (get_iv hz)))) ?_
            refine ga_firstY 20 #[true, true, true, true, true, true, true, true, true, true, true, true, true, true, true, true, true, true, true, true, true, false, false, false, false, false, false, false, false] rfl rfl rfl rfl rfl rfl (by kernel_rfl) rfl ⟨[], by decide, rfl⟩ (qt_rd (rd_indexOld hl Try.underlying22 ty_25 rfl rfl (by omega) (by omega))) ?_
            refine ga_firstY 21 #[true, true, true, true, true, true, true, true, true, true, true, true, true, true, true, true, true, true, true, true, true, true, false, false, false, false, false, false, false] rfl rfl rfl rfl rfl rfl (by kernel_rfl) rfl ⟨[], by decide, rfl⟩ (qt_rd (rd_loadAgg Try.underlying25 rfl ty_25 rfl (cs_slN hl (flat_drop_get Pipe.cells 3 (fun _ => rfl) hp)) rfl)) ?_
            refine ga_firstY 22 #[true, true, true, true, true, true, true, true, true, true, true, true, true, true, true, true, true, true, true, true, true, true, true, false, false, false, false, false, false] rfl rfl rfl rfl rfl rfl (by kernel_rfl) rfl ⟨[], by decide, rfl⟩ (qt_rd (rd_move rfl)) ?_
            refine ga_firstY 23 #[true, true, true, true, true, true, true, true, true, true, true, true, true, true, true, true, true, true, true, true, true, true, true, true, false, false, false, false, false] rfl rfl rfl rfl rfl rfl (by kernel_rfl) rfl ⟨[], by decide, rfl⟩ (qt_rd (rd_move rfl)) ?_
            refine ga_firstY 24 #[true, true, true, true, true, true, true, true, true, true, true, true, true, true, true, true, true, true, true, true, true, true, true, true, true, false, false, false, false] rfl rfl rfl rfl rfl rfl (by kernel_rfl) rfl ⟨[], by decide, rfl⟩ (qt_rd (rd_indexOld hw Try.underlying23 ty_29 rfl rfl (by omega) (by omega))) ?_
            refine ga_firstY 25 #[true, true, true, true, true, true, true, true, true, true, true, true, true, true, true, true, true, true, true, true, true, true, true, true, true, true, false, false, false] rfl rfl rfl rfl rfl rfl (by kernel_rfl) rfl ⟨[], by decide, rfl⟩ (qt_rd (rd_loadAgg Try.underlying29 rfl ty_29 rfl (cs_slN hw (flat_drop_get Wish.cells 5 (fun _ => rfl) hy)) rfl)) ?_
            refine ga_firstY 26 #[true, true, true, true, true, true, true, true, true, true, true, true, true, true, true, true, true, true, true, true, true, true, true, true, true, true, true, false, false] rfl rfl rfl rfl rfl rfl (by kernel_rfl) rfl ⟨[], by decide, rfl⟩ (qt_call (vf := []) (vc := []) rfl rfl Try.call26 (fun w1 ho => rfit_ok p y hpo hyo w1) (by rintro _ _ ⟨h, _⟩; exact h)) ?_
            refine ga_firstY 27 #[true, true, true, true, true, true, true, true, true, true, true, true, true, true, true, true, true, true, true, true, true, true, true, true, true, true, true, true, false] rfl rfl rfl rfl rfl rfl (by kernel_rfl) rfl ⟨[], by decide, rfl⟩ (qt_rd (rd_lss rfl rfl)) (gk_dec (fun h55 => ?_) (fun h55 => ?_))
            · skip
              have hnf : fits p y = false := by
                cases h : fits p y with
                | false => rfl
                | true => unfold rfitP at h55; rw [if_pos h] at h55; omega
              have hno : metTo l w xs (i + 1) = none := by
                rw [metTo_succ, hto]; unfold metOne; simp only; rw [hzd, if_neg (by omega), if_pos]; unfold metBad; rw [hzd]; rw [Int.toNat_natCast, hpd, hyd, hnf]; simp
              refine ga_first 28 #[true, true, true, true, true, true, true, true, true, true, true, true, true, true, true, true, true, true, true, true, true, true, true, true, true, true, true, true, true] rfl rfl rfl rfl (by kernel_rfl) rfl ⟨[], by decide, rfl⟩ (qt_rd (rd_pick_f rfl rfl)) ?_
              refine ga_end (by kernel_rfl) (.inr ⟨[], by decide, rfl⟩) ?_
              refine gx_then ?_
              refine gc_cond_t rfl ?_
              refine gc_seq ?_
              refine gc_region ?_
              refine gl_op (op_rd rfl (rd_assign rfl) ?_)
              refine gl_op (op_rd rfl (rd_assign rfl) ?_)
              refine gl_nil ?_
              refine gx_then ?_
              refine gc_ret ?_
              refine gx_then_ret ?_
              refine gx_block_ret ?_
              refine gx_then_ret ?_
              refine gx_then_ret ?_
              refine gx_block_ret ?_
              refine gx_then_ret ?_
              refine gx_ret2 (.inl rfl) Try.results19 rfl rfl [] (by decide) ?_
              rw [met_no (by omega) hno]
              exact ⟨rfl, rfl⟩
            · skip
              have hfit : fits p y = true := by
                cases h : fits p y with
                | true => rfl
                | false => unfold rfitP at h55; rw [if_neg (by rw [h]; decide)] at h55; omega
              have hcl := cost_le hpo hyo hfit
              have hrf : rfitP p y = cost p y := by unfold rfitP; rw [if_pos hfit]
              refine ga_first 28 #[true, true, true, true, true, true, true, true, true, true, true, true, true, true, true, true, true, true, true, true, true, true, true, true, true, true, true, true, true] rfl rfl rfl rfl (by kernel_rfl) rfl ⟨[], by decide, rfl⟩ (qt_rd (rd_pick_f rfl rfl)) ?_
              refine ga_end (by kernel_rfl) (.inr ⟨[], by decide, rfl⟩) ?_
              refine gx_then ?_
              refine gc_cond_f rfl ?_
              refine gc_skip ?_
              refine gx_then ?_
              refine gc_seq ?_
              refine gc_seq ?_
              refine gc_region ?_
              refine gl_op (op_rd rfl (rd_assign rfl) ?_)
              refine gl_nil ?_
              refine gx_then ?_
              refine gc_block ?_
              refine gc_loopF (ι := Nat) [(0, _), (1, _), (2, _), (8, _), (9, _), (10, _)] [] (fun j => j ≤ i ∧ ∀ q, q < j → xs.getD q 0 ≠ (zn : Int)) (fun j Fr0 => ((11, natV j) :: Fr0)) (fun j Fr0 => Fr0) (fun j => i - j) 0 (⟨Nat.zero_le _, fun q h => absurd h (Nat.not_lt_zero q)⟩) ⟨rfl, rfl, rfl, rfl, rfl, rfl, rfl, trivial⟩ ⟨[], by decide, rfl⟩ ?_
              rintro j ⟨hj, hdif⟩
              refine gc_seq ?_
              refine gc_seq ?_
              refine gc_region ?_
              refine gl_op (op_rd rfl (rd_move rfl) ?_)
              refine gl_op (op_rd rfl (rd_move rfl) ?_)
              refine gl_op (op_rd rfl (rd_lss rfl rfl) (gk_dec (fun h59 => ?_) (fun h59 => ?_)))
              · skip
                obtain ⟨v, hv⟩ := get_some (show j < xs.length by omega)
                have hvd : xs.getD j 0 = v := getD_some hv
                refine gl_nil ?_
                refine gx_then ?_
                refine gc_cond_t rfl ?_
                refine gc_skip ?_
                refine gx_then ?_
                refine gc_seq ?_
                refine gc_block ?_
                refine gc_seq ?_
                refine gc_drawP [] true 8 rfl ?_
                refine ga_first 0 #[true, false, false, false, false, false, false, false, false] rfl rfl rfl rfl (by kernel_rfl) rfl ⟨[], by decide, rfl⟩ (qt_rd (rd_move rfl)) ?_
                refine ga_first 1 #[true, true, false, false, false, false, false, false, false] rfl rfl rfl rfl (by kernel_rfl) rfl ⟨[], by decide, rfl⟩ (qt_rd (rd_move rfl)) ?_
                refine ga_first 2 #[true, true, true, false, false, false, false, false, false] rfl rfl rfl rfl (by kernel_rfl) rfl ⟨[], by decide, rfl⟩ (qt_rd (rd_indexOld1 hx Try.underlying39 ty_3 rfl rfl (by omega) (by omega))) ?_
                refine ga_first 3 #[true, true, true, true, false, false, false, false, false] rfl rfl rfl rfl (by kernel_rfl) rfl ⟨[], by decide, rfl⟩ (qt_rd (rd_load Try.underlying3 rfl rfl (ld_slN hx (get_iv hv)))) ?_
                refine ga_first 4 #[true, true, true, true, true, false, false, false, false] rfl rfl rfl rfl (by kernel_rfl) rfl ⟨[], by decide, rfl⟩ (qt_rd (rd_move rfl)) ?_
                refine ga_first 5 #[true, true, true, true, true, true, false, false, false] rfl rfl rfl rfl (by kernel_rfl) rfl ⟨[], by decide, rfl⟩ (qt_rd (rd_move rfl)) ?_
                refine ga_first 6 #[true, true, true, true, true, true, true, false, false] rfl rfl rfl rfl (by kernel_rfl) rfl ⟨[], by decide, rfl⟩ (qt_rd (rd_indexOld1 hx Try.underlying39 ty_3 rfl rfl (by omega) (by omega))) ?_
                refine ga_first 7 #[true, true, true, true, true, true, true, true, false] rfl rfl rfl rfl (by kernel_rfl) rfl ⟨[], by decide, rfl⟩ (qt_rd (rd_load Try.underlying3 rfl rfl (ld_slN hx (get_iv hz)))) ?_
                refine ga_first 8 #[true, true, true, true, true, true, true, true, true] rfl rfl rfl rfl (by kernel_rfl) rfl ⟨[], by decide, rfl⟩ (qt_rd (rd_eql rfl rfl)) (gk_dec (fun h70 => ?_) (fun h70 => ?_))
                · skip
                  have hno : metTo l w xs (i + 1) = none := by
                    rw [metTo_succ, hto]; unfold metOne; simp only; rw [hzd, if_neg (by omega), if_pos]; unfold metBad; rw [hzd]; rw [Bool.or_eq_true]; exact .inr (List.any_eq_true.2 ⟨j, List.mem_range.2 (by omega), by rw [hvd]; exact decide_eq_true h70⟩)
                  refine ga_end (by kernel_rfl) (.inr ⟨[], by decide, rfl⟩) ?_
                  refine gx_then ?_
                  refine gc_cond_t rfl ?_
                  refine gc_seq ?_
                  refine gc_region ?_
                  refine gl_op (op_rd rfl (rd_assign rfl) ?_)
                  refine gl_op (op_rd rfl (rd_assign rfl) ?_)
                  refine gl_nil ?_
                  refine gx_then ?_
                  refine gc_ret ?_
                  refine gx_block_ret ?_
                  refine gx_then_ret ?_
                  refine gx_then_ret ?_
                  refine gx_block_ret ?_
                  refine gx_then_ret ?_
                  refine gx_block_ret ?_
                  refine gx_then_ret ?_
                  refine gx_then_ret ?_
                  refine gx_block_ret ?_
                  refine gx_then_ret ?_
                  refine gx_ret2 (.inl rfl) Try.results19 rfl rfl [] (by decide) ?_
                  rw [met_no (by omega) hno]
                  exact ⟨rfl, rfl⟩
                · skip
                  have hne : xs.getD j 0 ≠ (zn : Int) := by rw [hvd]; exact h70
                  refine ga_end (by kernel_rfl) (.inr ⟨[], by decide, rfl⟩) ?_
                  refine gx_then ?_
                  refine gc_cond_f rfl ?_
                  refine gc_skip ?_
                  refine gx_block ?_
                  refine gx_then ?_
                  refine gc_region ?_
                  refine gl_op (op_rd rfl (rd_move rfl) ?_)
                  refine gl_op (op_rd rfl (by first | exact rd_addN (b := 1) rfl rfl (by omega) | exact rd_add rfl rfl (by omega) (by omega)) ?_)
                  refine gl_op (op_rd rfl (rd_assign rfl) ?_)
                  refine gl_nil ?_
                  refine gx_then ?_
                  exact gx_cut (j + 1) ⟨⟨by omega, fun q hq => by rcases Nat.lt_succ_iff_lt_or_eq.1 hq with h | rfl; exact hdif q h; exact hne⟩, by omega⟩ ⟨rfl, rfl, rfl, rfl, rfl, rfl, rfl, trivial⟩ ⟨[], by decide, rfl⟩
              · skip
                have hgood : metBad l w xs i = false := by
                  unfold metBad
                  rw [hzd, Int.toNat_natCast, hpd, hyd, hfit, decide_eq_false (by omega), decide_eq_false (by omega)]
                  simp only [Bool.false_or, Bool.not_true, List.any_eq_false, decide_eq_true_eq]
                  intro q hq
                  exact hdif q (by have := List.mem_range.1 hq; omega)
                refine gl_nil ?_
                refine gx_then ?_
                refine gc_cond_f rfl ?_
                refine gc_exit ?_
                refine gx_then_exit ?_
                refine gx_then_exit ?_
                refine gx_block_exit ?_
                refine gx_then ?_
                refine gc_drawP [] true 17 rfl ?_
                refine ga_first 0 #[true, false, false, false, false, false, false, false, false, false, false, false, false, false, false, false, false, false] rfl rfl rfl rfl (by kernel_rfl) rfl ⟨[], by decide, rfl⟩ (qt_rd (rd_move rfl)) ?_
                refine ga_first 1 #[true, true, false, false, false, false, false, false, false, false, false, false, false, false, false, false, false, false] rfl rfl rfl rfl (by kernel_rfl) rfl ⟨[], by decide, rfl⟩ (qt_rd (by first | exact rd_addN (b := 1) rfl rfl (by omega) | exact rd_add rfl rfl (by omega) (by omega))) ?_
                refine ga_first 2 #[true, true, true, false, false, false, false, false, false, false, false, false, false, false, false, false, false, false] rfl rfl rfl rfl (by kernel_rfl) rfl ⟨[], by decide, rfl⟩ (qt_rd (rd_move rfl)) ?_
                refine ga_first 3 #[true, true, true, true, false, false, false, false, false, false, false, false, false, false, false, false, false, false] rfl rfl rfl rfl (by kernel_rfl) rfl ⟨[], by decide, rfl⟩ (qt_rd (rd_move rfl)) ?_
                refine ga_first 4 #[true, true, true, true, true, false, false, false, false, false, false, false, false, false, false, false, false, false] rfl rfl rfl rfl (by kernel_rfl) rfl ⟨[], by decide, rfl⟩ (qt_rd (rd_move rfl)) ?_
                refine ga_first 5 #[true, true, true, true, true, true, false, false, false, false, false, false, false, false, false, false, false, false] rfl rfl rfl rfl (by kernel_rfl) rfl ⟨[], by decide, rfl⟩ (qt_rd (rd_move rfl)) ?_
                refine ga_first 6 #[true, true, true, true, true, true, true, false, false, false, false, false, false, false, false, false, false, false] rfl rfl rfl rfl (by kernel_rfl) rfl ⟨[], by decide, rfl⟩ (qt_rd (rd_indexOld1 hx Try.underlying39 ty_3 rfl rfl (by omega) (by omega))) ?_
                refine ga_first 7 #[true, true, true, true, true, true, true, true, false, false, false, false, false, false, false, false, false, false] rfl rfl rfl rfl (by kernel_rfl) rfl ⟨[], by decide, rfl⟩ (qt_rd (rd_load Try.underlying3 rfl rfl (ld_slN hx (get_iv hz)))) ?_
                refine ga_first 8 #[true, true, true, true, true, true, true, true, true, false, false, false, false, false, false, false, false, false] rfl rfl rfl rfl (by kernel_rfl) rfl ⟨[], by decide, rfl⟩ (qt_rd (rd_indexOld hl Try.underlying22 ty_25 rfl rfl (by omega) (by omega))) ?_
                refine ga_first 9 #[true, true, true, true, true, true, true, true, true, true, false, false, false, false, false, false, false, false] rfl rfl rfl rfl (by kernel_rfl) rfl ⟨[], by decide, rfl⟩ (qt_rd (rd_loadAgg Try.underlying25 rfl ty_25 rfl (cs_slN hl (flat_drop_get Pipe.cells 3 (fun _ => rfl) hp)) rfl)) ?_
                refine ga_first 10 #[true, true, true, true, true, true, true, true, true, true, true, false, false, false, false, false, false, false] rfl rfl rfl rfl (by kernel_rfl) rfl ⟨[], by decide, rfl⟩ (qt_rd (rd_move rfl)) ?_
                refine ga_first 11 #[true, true, true, true, true, true, true, true, true, true, true, true, false, false, false, false, false, false] rfl rfl rfl rfl (by kernel_rfl) rfl ⟨[], by decide, rfl⟩ (qt_rd (rd_move rfl)) ?_
                refine ga_first 12 #[true, true, true, true, true, true, true, true, true, true, true, true, true, false, false, false, false, false] rfl rfl rfl rfl (by kernel_rfl) rfl ⟨[], by decide, rfl⟩ (qt_rd (rd_indexOld hw Try.underlying23 ty_29 rfl rfl (by omega) (by omega))) ?_
                refine ga_first 13 #[true, true, true, true, true, true, true, true, true, true, true, true, true, true, false, false, false, false] rfl rfl rfl rfl (by kernel_rfl) rfl ⟨[], by decide, rfl⟩ (qt_rd (rd_loadAgg Try.underlying29 rfl ty_29 rfl (cs_slN hw (flat_drop_get Wish.cells 5 (fun _ => rfl) hy)) rfl)) ?_
                refine ga_first 14 #[true, true, true, true, true, true, true, true, true, true, true, true, true, true, true, false, false, false] rfl rfl rfl rfl (by kernel_rfl) rfl ⟨[], by decide, rfl⟩ (qt_call (vf := []) (vc := []) rfl rfl Try.call26 (fun w1 ho => rfit_ok p y hpo hyo w1) (by rintro _ _ ⟨h, _⟩; exact h)) ?_
                rw [hrf]
                refine ga_first 15 #[true, true, true, true, true, true, true, true, true, true, true, true, true, true, true, true, false, false] rfl rfl rfl rfl (by kernel_rfl) rfl ⟨[], by decide, rfl⟩ (qt_rd (rd_add rfl rfl (by omega) (by omega))) ?_
                refine ga_first 16 #[true, true, true, true, true, true, true, true, true, true, true, true, true, true, true, true, true, false] rfl rfl rfl rfl (by kernel_rfl) rfl ⟨[], by decide, rfl⟩ (qt_rd (rd_assign rfl)) ?_
                refine ga_first 17 #[true, true, true, true, true, true, true, true, true, true, true, true, true, true, true, true, true, true] rfl rfl rfl rfl (by kernel_rfl) rfl ⟨[], by decide, rfl⟩ (qt_rd (rd_assign rfl)) ?_
                refine ga_end (by kernel_rfl) (.inr ⟨[], by decide, rfl⟩) ?_
                refine gx_block ?_
                refine gx_then ?_
                refine gc_region ?_
                refine gl_op (op_rd rfl (rd_move rfl) ?_)
                refine gl_op (op_rd rfl (by first | exact rd_addN (b := 1) rfl rfl (by omega) | exact rd_add rfl rfl (by omega) (by omega)) ?_)
                refine gl_op (op_rd rfl (rd_assign rfl) ?_)
                refine gl_nil ?_
                refine gx_then ?_
                exact gx_cut ((i + 1, c + 1, k + cost p y)) ⟨⟨by simp only; omega, by simp only; rw [metTo_succ, hto]; unfold metOne; simp only; rw [hzd, if_neg (by omega), if_neg (by rw [hgood]; decide), Int.toNat_natCast, hpd, hyd], by simp only; omega, by simp only; omega, by simp only; omega⟩, by simp only; omega⟩ ⟨rfl, rfl, rfl, rfl, rfl, rfl, trivial⟩ ⟨[], by decide, rfl⟩
    · skip
      refine gl_nil ?_
      refine gx_then ?_
      refine gc_cond_f rfl ?_
      refine gc_exit ?_
      refine gx_then_exit ?_
      refine gx_then_exit ?_
      refine gx_block_exit ?_
      refine gx_then ?_
      refine gc_seq ?_
      refine gc_region ?_
      refine gl_op (op_rd rfl (rd_move rfl) ?_)
      refine gl_op (op_rd rfl (rd_move rfl) ?_)
      refine gl_op (op_rd rfl (rd_assign rfl) ?_)
      refine gl_op (op_rd rfl (rd_assign rfl) ?_)
      refine gl_nil ?_
      refine gx_then ?_
      refine gc_ret ?_
      refine gx_ret2 (.inl rfl) Try.results19 rfl rfl [] (by decide) ?_
      have hm : metP l w xs = ((c : Int), k) := by
        unfold metP
        rw [if_pos hxl, show w.length = i by omega, hto]
      rw [hm]
      exact ⟨rfl, rfl⟩

set_option maxRecDepth 100000 in
set_option maxHeartbeats 1000000 in
theorem few_ok (l : List Pipe) (w : List Wish) (a b : Option Addr) (ca cb : Nat) (w0 : World) (hlb : l.length ≤ 140737488355328) (hwb : w.length ≤ 140737488355328) : Sp Try.prog 13 [.slice a l.length ca, .slice b w.length cb] w0 [] (RV (.bool (decide ((l.length ≤ 10 ∧ w.length ≤ 7) ∨ 40 < l.length ∨ 20 < w.length)))) := by
  refine spec_enter Try.func13 rfl Try.ntmps13 rfl (Own.refl _) ?_
  simp only [argEnv]
  refine gc_seq ?_
  refine gc_region ?_
  refine gl_op (op_rd rfl (rd_assign rfl) ?_)
  refine gl_nil ?_
  refine gx_then ?_
  refine gc_seq ?_
  refine gc_region ?_
  refine gl_op (op_rd rfl (rd_move rfl) ?_)
  refine gl_op (op_rd rfl (rd_lenSlice Try.underlying22 rfl) ?_)
  refine gl_op (op_rd rfl (rd_leq rfl rfl) (gk_dec (fun h1 => ?_) (fun h1 => ?_)))
  · skip
    refine gl_op (op_rd rfl (rd_move rfl) ?_)
    refine gl_yes rfl rfl (op_rd rfl (rd_move rfl) ?_)
    refine gl_yes rfl rfl (op_rd rfl (rd_lenSlice Try.underlying23 rfl) ?_)
    refine gl_yes rfl rfl (op_rd rfl (rd_leq rfl rfl) (gk_dec (fun h2 => ?_) (fun h2 => ?_)))
    · skip
      refine gl_op (op_rd rfl (rd_pick_t rfl rfl) ?_)
      refine gl_op (op_rd rfl (rd_move rfl) ?_)
      refine gl_no rfl rfl rfl ?_
      refine gl_no rfl rfl rfl ?_
      refine gl_no rfl rfl rfl ?_
      refine gl_op (op_rd rfl (rd_pick_t rfl rfl) ?_)
      refine gl_op (op_rd rfl (rd_move rfl) ?_)
      refine gl_no rfl rfl rfl ?_
      refine gl_no rfl rfl rfl ?_
      refine gl_no rfl rfl rfl ?_
      refine gl_op (op_rd rfl (rd_pick_t rfl rfl) ?_)
      refine gl_op (op_rd rfl (rd_assign rfl) ?_)
      refine gl_nil ?_
      refine gx_then ?_
      refine gc_ret ?_
      refine gx_ret1 (.inl rfl) Try.results13 rfl [] (by decide) ?_
      refine ⟨congrArg Value.bool ?_, rfl⟩
      exact (decide_eq_true (by omega)).symm
    · skip
      refine gl_op (op_rd rfl (rd_pick_t rfl rfl) ?_)
      refine gl_op (op_rd rfl (rd_move rfl) ?_)
      refine gl_yes rfl rfl (op_rd rfl (rd_move rfl) ?_)
      refine gl_yes rfl rfl (op_rd rfl (rd_lenSlice Try.underlying22 rfl) ?_)
      refine gl_yes rfl rfl (op_rd rfl (rd_gtr rfl rfl) (gk_dec (fun h3 => ?_) (fun h3 => ?_)))
      · skip
        refine gl_op (op_rd rfl (rd_pick_f rfl rfl) ?_)
        refine gl_op (op_rd rfl (rd_move rfl) ?_)
        refine gl_no rfl rfl rfl ?_
        refine gl_no rfl rfl rfl ?_
        refine gl_no rfl rfl rfl ?_
        refine gl_op (op_rd rfl (rd_pick_t rfl rfl) ?_)
        refine gl_op (op_rd rfl (rd_assign rfl) ?_)
        refine gl_nil ?_
        refine gx_then ?_
        refine gc_ret ?_
        refine gx_ret1 (.inl rfl) Try.results13 rfl [] (by decide) ?_
        refine ⟨congrArg Value.bool ?_, rfl⟩
        exact (decide_eq_true (by omega)).symm
      · skip
        refine gl_op (op_rd rfl (rd_pick_f rfl rfl) ?_)
        refine gl_op (op_rd rfl (rd_move rfl) ?_)
        refine gl_yes rfl rfl (op_rd rfl (rd_move rfl) ?_)
        refine gl_yes rfl rfl (op_rd rfl (rd_lenSlice Try.underlying23 rfl) ?_)
        refine gl_yes rfl rfl (op_rd rfl (rd_gtr rfl rfl) (gk_dec (fun h4 => ?_) (fun h4 => ?_)))
        · skip
          refine gl_op (op_rd rfl (rd_pick_f rfl rfl) ?_)
          refine gl_op (op_rd rfl (rd_assign rfl) ?_)
          refine gl_nil ?_
          refine gx_then ?_
          refine gc_ret ?_
          refine gx_ret1 (.inl rfl) Try.results13 rfl [] (by decide) ?_
          refine ⟨congrArg Value.bool ?_, rfl⟩
          exact (decide_eq_true (by omega)).symm
        · skip
          refine gl_op (op_rd rfl (rd_pick_f rfl rfl) ?_)
          refine gl_op (op_rd rfl (rd_assign rfl) ?_)
          refine gl_nil ?_
          refine gx_then ?_
          refine gc_ret ?_
          refine gx_ret1 (.inl rfl) Try.results13 rfl [] (by decide) ?_
          refine ⟨congrArg Value.bool ?_, rfl⟩
          exact (decide_eq_false (by omega)).symm
  · skip
    refine gl_op (op_rd rfl (rd_move rfl) ?_)
    refine gl_no rfl rfl rfl ?_
    refine gl_no rfl rfl rfl ?_
    refine gl_no rfl rfl rfl ?_
    refine gl_op (op_rd rfl (rd_pick_f rfl rfl) ?_)
    refine gl_op (op_rd rfl (rd_move rfl) ?_)
    refine gl_yes rfl rfl (op_rd rfl (rd_move rfl) ?_)
    refine gl_yes rfl rfl (op_rd rfl (rd_lenSlice Try.underlying22 rfl) ?_)
    refine gl_yes rfl rfl (op_rd rfl (rd_gtr rfl rfl) (gk_dec (fun h3 => ?_) (fun h3 => ?_)))
    · skip
      refine gl_op (op_rd rfl (rd_pick_f rfl rfl) ?_)
      refine gl_op (op_rd rfl (rd_move rfl) ?_)
      refine gl_no rfl rfl rfl ?_
      refine gl_no rfl rfl rfl ?_
      refine gl_no rfl rfl rfl ?_
      refine gl_op (op_rd rfl (rd_pick_t rfl rfl) ?_)
      refine gl_op (op_rd rfl (rd_assign rfl) ?_)
      refine gl_nil ?_
      refine gx_then ?_
      refine gc_ret ?_
      refine gx_ret1 (.inl rfl) Try.results13 rfl [] (by decide) ?_
      refine ⟨congrArg Value.bool ?_, rfl⟩
      exact (decide_eq_true (by omega)).symm
    · skip
      refine gl_op (op_rd rfl (rd_pick_f rfl rfl) ?_)
      refine gl_op (op_rd rfl (rd_move rfl) ?_)
      refine gl_yes rfl rfl (op_rd rfl (rd_move rfl) ?_)
      refine gl_yes rfl rfl (op_rd rfl (rd_lenSlice Try.underlying23 rfl) ?_)
      refine gl_yes rfl rfl (op_rd rfl (rd_gtr rfl rfl) (gk_dec (fun h4 => ?_) (fun h4 => ?_)))
      · skip
        refine gl_op (op_rd rfl (rd_pick_f rfl rfl) ?_)
        refine gl_op (op_rd rfl (rd_assign rfl) ?_)
        refine gl_nil ?_
        refine gx_then ?_
        refine gc_ret ?_
        refine gx_ret1 (.inl rfl) Try.results13 rfl [] (by decide) ?_
        refine ⟨congrArg Value.bool ?_, rfl⟩
        exact (decide_eq_true (by omega)).symm
      · skip
        refine gl_op (op_rd rfl (rd_pick_f rfl rfl) ?_)
        refine gl_op (op_rd rfl (rd_assign rfl) ?_)
        refine gl_nil ?_
        refine gx_then ?_
        refine gc_ret ?_
        refine gx_ret1 (.inl rfl) Try.results13 rfl [] (by decide) ?_
        refine ⟨congrArg Value.bool ?_, rfl⟩
        exact (decide_eq_false (by omega)).symm

end Go.Proofs.Yteiopfefmphhaaa

set_option autoImplicit false
set_option linter.unusedVariables false
namespace Go.Proofs.Yteiopfefmphhaaa
open Go.Gv
open Go.RowKit
namespace Iv
theorem best_any (l : List Pipe) (w : List Wish) : ∃ res cst, bestF l w = some (res, cst) ∧ (checkP l w ≠ 0 → res = [] ∧ cst = 0) ∧ (checkP l w = 0 → ∃ ol sum, Opt l w ol sum ∧ resI l ol = res ∧ sum.b = cst) := by
  unfold bestF
  by_cases h : checkP l w = 0
  · obtain ⟨ol, sum, h1, h2⟩ := best_all (checkP_ok h)
    exact ⟨_, _, by rw [if_pos h]; exact h2, fun h3 => absurd h h3, fun _ => ⟨ol, sum, h1, rfl, rfl⟩⟩
  · exact ⟨[], 0, by rw [if_neg h], fun _ => ⟨rfl, rfl⟩, fun h3 => absurd h3 h⟩
theorem met_case (l : List Pipe) (w : List Wish) (xs : List Int) : ∃ (c2 k2 : Int), metP l w xs = (c2, k2) ∧ ((c2 = -1 ∧ k2 = 0) ∨ ∃ n2 : Nat, c2 = n2 ∧ xs.length = w.length ∧ metTo l w xs w.length = some (n2, k2)) := by
  unfold metP
  by_cases h : xs.length = w.length
  · rw [if_pos h]
    cases h1 : metTo l w xs w.length with
    | none => exact ⟨-1, 0, rfl, .inl ⟨rfl, rfl⟩⟩
    | some x => exact ⟨x.1, x.2, rfl, .inr ⟨x.1, rfl, h, rfl⟩⟩
  · rw [if_neg h]; exact ⟨-1, 0, rfl, .inl ⟨rfl, rfl⟩⟩
theorem metok {l : List Pipe} {w : List Wish} {xs : List Int} {c2 k2 : Int} (h : (c2 = -1 ∧ k2 = 0) ∨ ∃ n2 : Nat, c2 = n2 ∧ xs.length = w.length ∧ metTo l w xs w.length = some (n2, k2)) (h0 : 0 ≤ c2) : ∀ i, i < w.length → okAt l w xs i := by
  rcases h with ⟨e, _⟩ | ⟨n2, _, _, e⟩
  · omega
  · exact metTo_ok _ _ _ e
theorem lex_first : ∀ (us vs : List Nat) (i : Nat), LexLe us vs → i < us.length → us.length = vs.length → (∀ q, q < i → gn us q = gn vs q) → gn us i ≠ gn vs i → gn us i < gn vs i
  | [], _, _, _, h, _, _, _ => by simp at h
  | _ :: _, [], _, h, _, _, _, _ => by cases h
  | a :: xs, b :: ys, 0, h, _, _, _, hne => by
    rcases h with h | ⟨h, _⟩
    · exact h
    · exact absurd h hne
  | a :: xs, b :: ys, i + 1, h, hi, hl, hq, hne => by
    have h0 : a = b := hq 0 (by omega)
    rcases h with h | ⟨_, h⟩
    · omega
    · exact lex_first xs ys i h (by simpa using hi) (by simpa using hl) (fun q hq2 => hq (q + 1) (by omega)) hne
theorem lex_res {l : List Pipe} {w : List Wish} {xs : List Int} (hd : Dat l w) {ol : List Nat} {sum : Pr} (h : Opt l w ol sum) (hxl : xs.length = w.length) (hok : ∀ i, i < w.length → okAt l w xs i) (hlex : LexLe ol (colsI l.length xs)) : ∀ i, i < w.length → (∀ q, q < i → (resI l ol).getD q 0 = xs.getD q 0) → (resI l ol).getD i 0 ≠ xs.getD i 0 → xs.getD i 0 = -1 ∨ (0 ≤ (resI l ol).getD i 0 ∧ (resI l ol).getD i 0 < xs.getD i 0) := by
  intro i hi hs hne
  have hol := h.asg.len
  have hc : ∀ q, q < w.length → gn ol q = colI l.length q ((resI l ol).getD q 0) := fun q hq => (res_okAt hd h hq).2.symm
  have hx : ∀ q, q < w.length → gn (colsI l.length xs) q = colI l.length q (xs.getD q 0) := fun q hq => colsI_gn (by omega)
  rcases hok i hi with hz | hb
  · exact .inl hz
  · have hb2 := bad_iff.1 hb
    right
    have h1 := lex_first ol (colsI l.length xs) i hlex (by omega) (by rw [colsI_len]; omega) (fun q hq => by rw [hc q (by omega), hx q (by omega), hs q hq])
    rw [hc i hi, hx i hi] at h1
    rcases (res_okAt hd h hi).1 with hr | hr
    · rw [hr] at h1
      unfold colI at h1
      rw [if_pos rfl, if_neg (by omega)] at h1
      have := h1 (by omega)
      omega
    · have hr2 := bad_iff.1 hr
      unfold colI at h1
      rw [if_neg (by omega), if_neg (by omega)] at h1
      have := h1 (by omega)
      omega
end Iv
end Go.Proofs.Yteiopfefmphhaaa

set_option autoImplicit false
set_option linter.unusedVariables false
namespace Go.Proofs.Yteiopfefmphhaaa
open Go.Gv
open Go.RowKit Go.Deep Go.ChangeShapes Go.WideShapes
namespace Iv
section
variable {H : Type} {enc : TypeId × Value → H} {W : World} {base : Nat} {sp : Nat → Bool} {held : Bool}
theorem openInts {n : Nat} {cs : List Value} {x : DataW H × List MemPlace} (h : DataW.trod enc Try.prog W base sp held n 39 cs = some x) (hw : ∀ b ∈ x.1.weights Try.prog 39, b ≤ reachBytes) :
    ∃ (a : Option Addr) (zs : List Int) (cp : Nat), cs = [.slice a zs.length cp] ∧ OldSl W [] a zs.length 1 (zs.map intV) ∧ zs.length ≤ 140737488355328 := by
  rcases open_slice1 Try.underlying39 (by kernel_rfl) h with ⟨rfl, rfl⟩ | ⟨a, len, cap, m, k, V, D, Pl, rfl, hb, hl, hm, hmm, rfl, hx⟩
  · exact ⟨none, [], 0, rfl, oldNil W [] 1, Nat.zero_le _⟩
  · have hml : len ≤ m := by rw [hmm]; split <;> omega
    refine ⟨some a, (List.range len).map fun i => match V i with | .int _ z => z | _ => 0, cap, by simp, ⟨by simp, fun _ => rfl, fun j v hv => ?_, fun _ => by simp⟩, ?_⟩
    · simp only [List.getElem?_map, List.getElem?_range, Option.map_map] at hv
      by_cases hj : j < len
      · rw [List.getElem?_range hj] at hv
        obtain ⟨h1, h2⟩ := hx j (by omega)
        obtain ⟨z, e, _⟩ := DataW.trod_int Try.underlying3 h2
        simp at e
        simp only [Option.map_some, Function.comp, Option.some.injEq] at hv
        rw [e] at hv h1
        subst hv
        exact h1
      · rw [List.getElem?_eq_none (by simpa using hj)] at hv; simp at hv
    · have := hw _ (by rw [DataW.weights]; simp only [Try.underlying39]; exact List.mem_cons_self)
      simp only [List.length_map, List.length_range] at this ⊢
      have h8 : Try.prog.bytesOf 3 = 8 := by kernel_rfl
      rw [h8] at this
      have := reachBytes_lt
      omega
end
end Iv
end Go.Proofs.Yteiopfefmphhaaa
