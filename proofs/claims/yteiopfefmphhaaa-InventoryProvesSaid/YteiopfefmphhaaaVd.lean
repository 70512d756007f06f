import Derived.Test.YteiopfefmphhaaaVc
import Derived.Test.YteiopfefmphhaaaVa
import Derived.Deep.Slices
import Derived.Deep.Strs
import Derived.Lib.SmallJoins
import Derived.SizedLaws
import Derived.OpenShut
import Derived.Test.YteiopfefmphhaaaRows
import Derived.Carry
import Derived.ProofKit
/- The walk of the example; the arguments of the laws; the row of a law. -/
set_option linter.unusedSimpArgs false
set_option linter.unusedVariables false
set_option linter.unnecessarySimpa false
set_option autoImplicit false
set_option linter.unusedVariables false
namespace Go.Proofs.Yteiopfefmphhaaa
open Go.Gv
open Go.RowKit
namespace Iv
def exP1 : List Pipe := [⟨0, 52000, 700000⟩]
def exP : List Pipe := ⟨0, 50000, 600000⟩ :: exP1
def exW : List Wish := [⟨0, 50000, 51000, 590000, 600000⟩, ⟨0, 50000, 51000, 650000, 660000⟩]
theorem best_ex : bestF exP exW = some ([0, 1], 50000) := by kernel_rfl
theorem best_ex1 : bestF exP1 exW = some ([-1, 0], 50000) := by kernel_rfl
def shortU (l : List Pipe) (w : List Wish) : Option Ss :=
  match assignP (tableP l w) (List.replicate (l.length + w.length) false) with
  | none => none
  | some x => if x.1.Nodup ∧ x.1.length = w.length then shortGo l x.1 w (w.length + 1) 0 (unmetTo l.length x.1 w.length, []) else none
theorem shortU_ex : shortU exP1 exW = some ([0, 1], [0]) := by kernel_rfl
theorem short_of {l : List Pipe} {w : List Wish} {s : Ss} (hc : checkP l w = 0) (h : shortU l w = some s) : shortF l w = some (srt s.1, srt s.2) := by
  unfold shortF shortP
  unfold shortU at h
  rw [if_pos hc]
  cases h1 : assignP (tableP l w) (List.replicate (l.length + w.length) false) with
  | none => simp only [h1] at h; cases h
  | some x =>
    simp only [h1] at h ⊢
    split at h
    · rename_i h2
      rw [if_pos h2, h]
    · cases h
theorem srt_sorted {xs : List Nat} (h : xs.Pairwise (· ≤ ·)) : srt xs = xs := by
  unfold srt
  exact List.mergeSort_of_pairwise (h.imp fun hab => by simpa using hab)
theorem short_ex : shortF exP1 exW = some ([0, 1], [0]) := by
  have := short_of (l := exP1) (w := exW) (by kernel_rfl) shortU_ex
  rw [this, srt_sorted (by simp), srt_sorted (by simp)]
theorem check_ex : checkP exP exW = 0 := by kernel_rfl
theorem check_ex1 : checkP exP1 exW = 0 := by kernel_rfl
end Iv
end Go.Proofs.Yteiopfefmphhaaa

set_option autoImplicit false
set_option linter.unusedVariables false
namespace Go.Proofs.Yteiopfefmphhaaa
open Go.Gv
open Go.RowKit
open Iv
set_option maxRecDepth 100000 in
set_option maxHeartbeats 1000000 in
theorem same_ok (xs ys : List Int) (a b : Option Addr) (ca cb : Nat) (w0 : World) (hx : OldSl w0 [] a xs.length 1 (xs.map intV)) (hy : OldSl w0 [] b ys.length 1 (ys.map intV)) (hb : xs.length ≤ 140737488355328) (hb2 : ys.length ≤ 140737488355328) : Sp Try.prog 16 [.slice a xs.length ca, .slice b ys.length cb] w0 [] (RV (.bool (decide (xs = ys)))) := by
  refine spec_enter Try.func16 rfl Try.ntmps16 rfl (Own.refl _) ?_
  simp only [argEnv]
  refine gc_seq ?_
  refine gc_region ?_
  refine gl_op (op_rd rfl (rd_assign rfl) ?_)
  refine gl_nil ?_
  refine gx_then ?_
  refine gc_seq ?_
  refine gc_seq ?_
  refine gc_region ?_
  refine gl_op (op_rd rfl (rd_assign rfl) ?_)
  refine gl_nil ?_
  refine gx_then ?_
  refine gc_block ?_
  refine gc_loopF (ι := Nat) [(0, _), (1, _)] [] (fun j => j ≤ xs.length ∧ j ≤ ys.length ∧ xs.take j = ys.take j) (fun j Fr0 => ((5, natV j) :: Fr0)) (fun j Fr0 => Fr0) (fun j => xs.length - j) 0 (⟨Nat.zero_le _, Nat.zero_le _, rfl⟩) ⟨rfl, rfl, rfl, trivial⟩ ⟨[], by decide, rfl⟩ ?_
  rintro k ⟨hk, hk2, htk⟩
  refine gc_seq ?_
  refine gc_seq ?_
  refine gc_region ?_
  refine gl_op (op_rd rfl (rd_move rfl) ?_)
  refine gl_op (op_rd rfl (rd_move rfl) ?_)
  refine gl_op (op_rd rfl (rd_lenSlice Try.underlying39 rfl) ?_)
  refine gl_op (op_rd rfl (rd_lss rfl rfl) (gk_dec (fun h1 => ?_) (fun h1 => ?_)))
  · skip
    refine gl_op (op_rd rfl (rd_move rfl) ?_)
    refine gl_yes rfl rfl (op_rd rfl (rd_move rfl) ?_)
    refine gl_yes rfl rfl (op_rd rfl (rd_move rfl) ?_)
    refine gl_yes rfl rfl (op_rd rfl (rd_lenSlice Try.underlying39 rfl) ?_)
    refine gl_yes rfl rfl (op_rd rfl (rd_lss rfl rfl) (gk_dec (fun h2 => ?_) (fun h2 => ?_)))
    · skip
      obtain ⟨x, hxx⟩ := get_some (show k < xs.length by omega)
      obtain ⟨y, hyy⟩ := get_some (show k < ys.length by omega)
      refine gl_op (op_rd rfl (rd_pick_t rfl rfl) ?_)
      refine gl_nil ?_
      refine gx_then ?_
      refine gc_cond_t rfl ?_
      refine gc_skip ?_
      refine gx_then ?_
      refine gc_seq ?_
      refine gc_block ?_
      refine gc_seq ?_
      refine gc_drawP [] true 8 rfl ?_
      refine ga_first 0 #[true, false, false, false, false, false, false, false, false] rfl rfl rfl rfl (by kernel_rfl) rfl ⟨[], by decide, rfl⟩ (qt_rd (rd_move rfl)) ?_
      refine ga_first 1 #[true, true, false, false, false, false, false, false, false] rfl rfl rfl rfl (by kernel_rfl) rfl ⟨[], by decide, rfl⟩ (qt_rd (rd_move rfl)) ?_
      refine ga_first 2 #[true, true, true, false, false, false, false, false, false] rfl rfl rfl rfl (by kernel_rfl) rfl ⟨[], by decide, rfl⟩ (qt_rd (rd_indexOld1 hx Try.underlying39 ty_3 rfl rfl (by omega) (by omega))) ?_
      refine ga_first 3 #[true, true, true, true, false, false, false, false, false] rfl rfl rfl rfl (by kernel_rfl) rfl ⟨[], by decide, rfl⟩ (qt_rd (rd_load Try.underlying3 rfl rfl (ld_slN hx (show (xs.map intV)[k]? = some (intV x) by rw [List.getElem?_map, hxx]; rfl)))) ?_
      refine ga_first 4 #[true, true, true, true, true, false, false, false, false] rfl rfl rfl rfl (by kernel_rfl) rfl ⟨[], by decide, rfl⟩ (qt_rd (rd_move rfl)) ?_
      refine ga_first 5 #[true, true, true, true, true, true, false, false, false] rfl rfl rfl rfl (by kernel_rfl) rfl ⟨[], by decide, rfl⟩ (qt_rd (rd_move rfl)) ?_
      refine ga_first 6 #[true, true, true, true, true, true, true, false, false] rfl rfl rfl rfl (by kernel_rfl) rfl ⟨[], by decide, rfl⟩ (qt_rd (rd_indexOld1 hy Try.underlying39 ty_3 rfl rfl (by omega) (by omega))) ?_
      refine ga_first 7 #[true, true, true, true, true, true, true, true, false] rfl rfl rfl rfl (by kernel_rfl) rfl ⟨[], by decide, rfl⟩ (qt_rd (rd_load Try.underlying3 rfl rfl (ld_slN hy (show (ys.map intV)[k]? = some (intV y) by rw [List.getElem?_map, hyy]; rfl)))) ?_
      refine ga_first 8 #[true, true, true, true, true, true, true, true, true] rfl rfl rfl rfl (by kernel_rfl) rfl ⟨[], by decide, rfl⟩ (qt_rd (rd_neq rfl rfl)) (gk_dec (fun h3 => ?_) (fun h3 => ?_))
      · skip
        have hne : ¬ xs = ys := fun e => by rw [e] at hxx; rw [hxx] at hyy; exact h3 (Option.some.inj hyy)
        refine ga_end (by kernel_rfl) (.inr ⟨[], by decide, rfl⟩) ?_
        refine gx_then ?_
        refine gc_cond_t rfl ?_
        refine gc_seq ?_
        refine gc_region ?_
        refine gl_op (op_rd rfl (rd_assign rfl) ?_)
        refine gl_nil ?_
        refine gx_then ?_
        refine gc_ret ?_
        refine gx_block_ret ?_
        refine gx_then_ret ?_
        refine gx_then_ret ?_
        refine gx_block_ret ?_
        refine gx_then_ret ?_
        refine gx_ret1 (.inl rfl) Try.results16 rfl [] (by decide) ?_
        exact ⟨by rw [decide_eq_false hne], rfl⟩
      · skip
        have heq : x = y := by omega
        refine ga_end (by kernel_rfl) (.inr ⟨[], by decide, rfl⟩) ?_
        refine gx_then ?_
        refine gc_cond_f rfl ?_
        refine gc_skip ?_
        refine gx_block ?_
        refine gx_then ?_
        refine gc_region ?_
        refine gl_op (op_rd rfl (rd_move rfl) ?_)
        refine gl_op (op_rd rfl (by first | exact rd_addN (b := 1) rfl rfl (by omega) | exact rd_add rfl rfl (by omega) (by omega)) ?_)
        refine gl_op (op_rd rfl (rd_assign rfl) ?_)
        refine gl_nil ?_
        refine gx_then ?_
        exact gx_cut (k + 1) ⟨⟨by omega, by omega, by rw [take_at hxx, take_at hyy, htk, heq]⟩, by omega⟩ ⟨rfl, rfl, rfl, trivial⟩ ⟨[], by decide, rfl⟩
    · skip
      refine gl_op (op_rd rfl (rd_pick_t rfl rfl) ?_)
      refine gl_nil ?_
      refine gx_then ?_
      refine gc_cond_f rfl ?_
      refine gc_exit ?_
      refine gx_then_exit ?_
      refine gx_then_exit ?_
      refine gx_block_exit ?_
      refine gx_then ?_
      refine gc_seq ?_
      refine gc_region ?_
      refine gl_op (op_rd rfl (rd_move rfl) ?_)
      refine gl_op (op_rd rfl (rd_lenSlice Try.underlying39 rfl) ?_)
      refine gl_op (op_rd rfl (rd_move rfl) ?_)
      refine gl_op (op_rd rfl (rd_lenSlice Try.underlying39 rfl) ?_)
      refine gl_op (op_rd rfl (rd_eql rfl rfl) ?_)
      refine gl_op (op_rd rfl (rd_assign rfl) ?_)
      refine gl_nil ?_
      refine gx_then ?_
      refine gc_ret ?_
      refine gx_ret1 (.inl rfl) Try.results16 rfl [] (by decide) ?_
      refine ⟨congrArg Value.bool ?_, rfl⟩
      rw [decide_eq_decide]
      constructor
      · intro e
        rw [← List.take_length (l := xs), ← List.take_length (l := ys), show xs.length = k by omega, show ys.length = k by omega, htk]
      · intro e
        rw [e]
  · skip
    refine gl_op (op_rd rfl (rd_move rfl) ?_)
    refine gl_no rfl rfl rfl ?_
    refine gl_no rfl rfl rfl ?_
    refine gl_no rfl rfl rfl ?_
    refine gl_no rfl rfl rfl ?_
    refine gl_op (op_rd rfl (rd_pick_f rfl rfl) ?_)
    refine gl_nil ?_
    refine gx_then ?_
    refine gc_cond_f rfl ?_
    refine gc_exit ?_
    refine gx_then_exit ?_
    refine gx_then_exit ?_
    refine gx_block_exit ?_
    refine gx_then ?_
    refine gc_seq ?_
    refine gc_region ?_
    refine gl_op (op_rd rfl (rd_move rfl) ?_)
    refine gl_op (op_rd rfl (rd_lenSlice Try.underlying39 rfl) ?_)
    refine gl_op (op_rd rfl (rd_move rfl) ?_)
    refine gl_op (op_rd rfl (rd_lenSlice Try.underlying39 rfl) ?_)
    refine gl_op (op_rd rfl (rd_eql rfl rfl) ?_)
    refine gl_op (op_rd rfl (rd_assign rfl) ?_)
    refine gl_nil ?_
    refine gx_then ?_
    refine gc_ret ?_
    refine gx_ret1 (.inl rfl) Try.results16 rfl [] (by decide) ?_
    refine ⟨congrArg Value.bool ?_, rfl⟩
    rw [decide_eq_decide]
    constructor
    · intro e
      rw [← List.take_length (l := xs), ← List.take_length (l := ys), show xs.length = k by omega, show ys.length = k by omega, htk]
    · intro e
      rw [e]

set_option maxRecDepth 100000 in
set_option maxHeartbeats 1000000 in
theorem example_ok (w0 : World) : Sp Try.prog 20 [] w0 [] (fun v L => ∃ bp bw : Nat, v = .tuple #[.slice (rowA (some bp)) 2 2, .slice (rowA (some bw)) 2 2] ∧ L = [.row 29 5 (some bw) 2 2 (exW.flatMap Wish.cells), .row 25 3 (some bp) 2 2 (exP.flatMap Pipe.cells)]) := by
  refine spec_enter Try.func20 rfl Try.ntmps20 rfl (Own.refl _) ?_
  simp only [argEnv]
  refine gc_seq ?_
  refine gc_region ?_
  refine gl_op (op_rd rfl (rd_assign rfl) ?_)
  refine gl_op (op_rd rfl (rd_assign rfl) ?_)
  refine gl_nil ?_
  refine gx_then ?_
  refine gc_seq ?_
  refine gc_region ?_
  refine gl_op (op_rd rfl (rd_build rfl (fun _ => bd_25_1_2 _ _)) ?_)
  refine gl_op (op_rd rfl (rd_build rfl (fun _ => bd_25_1_2 _ _)) ?_)
  refine gl_op (op_buildSlice (sz := 3) rfl rfl (fun _ => bs_22_2_0_1 _ _ _ _ _ _) rfl rfl (fun b4 => ?_))
  refine gl_op (op_rd rfl (rd_build rfl (fun _ => bd_27_0_1 _ _)) ?_)
  refine gl_op (op_rd rfl (rd_build rfl (fun _ => bd_27_0_1 _ _)) ?_)
  refine gl_op (op_rd rfl (rd_build rfl (fun _ => bd_29_1_2 _ _ _ _)) ?_)
  refine gl_op (op_rd rfl (rd_build rfl (fun _ => bd_27_0_1 _ _)) ?_)
  refine gl_op (op_rd rfl (rd_build rfl (fun _ => bd_27_0_1 _ _)) ?_)
  refine gl_op (op_rd rfl (rd_build rfl (fun _ => bd_29_1_2 _ _ _ _)) ?_)
  refine gl_op (op_buildSlice (sz := 5) rfl rfl (fun _ => bs_23_2_0_1 _ _ _ _ _ _ _ _ _ _) rfl rfl (fun b11 => ?_))
  refine gl_op (op_rd rfl (rd_assign rfl) ?_)
  refine gl_op (op_rd rfl (rd_assign rfl) ?_)
  refine gl_nil ?_
  refine gx_then ?_
  refine gc_ret ?_
  refine gx_ret2 (.inl rfl) Try.results20 rfl rfl [0, 1] (by decide) ?_
  exact ⟨b4, b11, rfl, rfl⟩

set_option maxRecDepth 100000 in
set_option maxHeartbeats 1000000 in
theorem shown_ok (w0 : World) : Sp Try.prog 8 [] w0 [] (RV (.bool true)) := by
  refine spec_enter Try.func8 rfl Try.ntmps8 rfl (Own.refl _) ?_
  simp only [argEnv]
  refine gc_seq ?_
  refine gc_region ?_
  refine gl_op (op_rd rfl (rd_assign rfl) ?_)
  refine gl_nil ?_
  refine gx_then ?_
  refine gc_seq ?_
  refine gc_region ?_
  refine gl_op (op_call rfl (vf := []) (vc := []) rfl rfl Try.call20 (fun w1 ho => example_ok w1) ?_)
  rintro _ _ ⟨bp, bw, rfl, rfl⟩
  refine gl_op (op_rd rfl (rd_move rfl) ?_)
  refine gl_op (op_rd rfl (rd_extract rfl rfl) ?_)
  refine gl_op (op_rd rfl (rd_extract rfl rfl) ?_)
  refine gl_op (op_rd rfl (rd_assign rfl) ?_)
  refine gl_op (op_rd rfl (rd_assign rfl) ?_)
  refine gl_nil ?_
  refine gx_then ?_
  refine gk_rebase [] (by decide) (fun w1 hob => ?_)
  have hl : OldSl w1 [] (rowA (some bp)) exP.length 3 (exP.flatMap Pipe.cells) := hob.rowSl 1 rfl
  have hw : OldSl w1 [] (rowA (some bw)) exW.length 5 (exW.flatMap Wish.cells) := hob.rowSl 0 rfl
  have hl1 : OldSl w1 [] (subA (rowA (some bp)) 2 1 3) exP1.length 3 (exP1.flatMap Pipe.cells) := hl.drop (cap := 2) 1 (by decide) (by decide)
  change GK _ _ _ w1 [] []
  refine gc_seq ?_
  refine gc_drawP [] true 13 rfl ?_
  refine ga_first 0 #[true, false, false, false, false, false, false, false, false, false, false, false, false, false] rfl rfl rfl rfl (by kernel_rfl) rfl ⟨[], by decide, rfl⟩ (qt_rd (rd_move rfl)) ?_
  refine ga_first 1 #[true, true, false, false, false, false, false, false, false, false, false, false, false, false] rfl rfl rfl rfl (by kernel_rfl) rfl ⟨[], by decide, rfl⟩ (qt_rd (rd_indexOld hl Try.underlying22 ty_25 rfl rfl (by decide) (by decide))) ?_
  refine ga_first 2 #[true, true, true, false, false, false, false, false, false, false, false, false, false, false] rfl rfl rfl rfl (by kernel_rfl) rfl ⟨[], by decide, rfl⟩ (qt_rd (rd_loadAgg Try.underlying25 rfl ty_25 rfl (cs_slN (off := 1) hl (cs := Pipe.cells (⟨0, 52000, 700000⟩ : Pipe)) rfl) rfl)) ?_
  refine ga_first 3 #[true, true, true, true, false, false, false, false, false, false, false, false, false, false] rfl rfl rfl rfl (by kernel_rfl) rfl ⟨[], by decide, rfl⟩ (qt_rd (rd_move rfl)) ?_
  refine ga_first 4 #[true, true, true, true, true, false, false, false, false, false, false, false, false, false] rfl rfl rfl rfl (by kernel_rfl) rfl ⟨[], by decide, rfl⟩ (qt_rd (rd_indexOld hw Try.underlying23 ty_29 rfl rfl (by decide) (by decide))) ?_
  refine ga_first 5 #[true, true, true, true, true, true, false, false, false, false, false, false, false, false] rfl rfl rfl rfl (by kernel_rfl) rfl ⟨[], by decide, rfl⟩ (qt_rd (rd_loadAgg Try.underlying29 rfl ty_29 rfl (cs_slN (off := 0) hw (cs := Wish.cells (⟨0, 50000, 51000, 590000, 600000⟩ : Wish)) rfl) rfl)) ?_
  refine ga_first 6 #[true, true, true, true, true, true, true, false, false, false, false, false, false, false] rfl rfl rfl rfl (by kernel_rfl) rfl ⟨[], by decide, rfl⟩ (qt_call (vf := []) (vc := []) rfl rfl Try.call9 (fun w2 ho => Fit_ok (⟨0, 52000, 700000⟩ : Pipe) (⟨0, 50000, 51000, 590000, 600000⟩ : Wish) w2) (by rintro _ _ ⟨h, _⟩; exact h)) ?_
  refine ga_first 7 #[true, true, true, true, true, true, true, true, false, false, false, false, false, false] rfl rfl rfl rfl (by kernel_rfl) rfl ⟨[], by decide, rfl⟩ (qt_rd (rd_move rfl)) ?_
  refine ga_first 8 #[true, true, true, true, true, true, true, true, true, false, false, false, false, false] rfl rfl rfl rfl (by kernel_rfl) rfl ⟨[], by decide, rfl⟩ (qt_rd (rd_extract rfl rfl)) ?_
  refine ga_first 9 #[true, true, true, true, true, true, true, true, true, true, false, false, false, false] rfl rfl rfl rfl (by kernel_rfl) rfl ⟨[], by decide, rfl⟩ (qt_rd (rd_extract rfl rfl)) ?_
  refine ga_first 10 #[true, true, true, true, true, true, true, true, true, true, true, false, false, false] rfl rfl rfl rfl (by kernel_rfl) rfl ⟨[], by decide, rfl⟩ (qt_rd (rd_extract rfl rfl)) ?_
  refine ga_first 11 #[true, true, true, true, true, true, true, true, true, true, true, true, false, false] rfl rfl rfl rfl (by kernel_rfl) rfl ⟨[], by decide, rfl⟩ (qt_rd (rd_assign rfl)) ?_
  refine ga_first 12 #[true, true, true, true, true, true, true, true, true, true, true, true, true, false] rfl rfl rfl rfl (by kernel_rfl) rfl ⟨[], by decide, rfl⟩ (qt_rd (rd_assign rfl)) ?_
  refine ga_first 13 #[true, true, true, true, true, true, true, true, true, true, true, true, true, true] rfl rfl rfl rfl (by kernel_rfl) rfl ⟨[], by decide, rfl⟩ (qt_rd (rd_assign rfl)) ?_
  refine ga_end (by kernel_rfl) (.inr ⟨[], by decide, rfl⟩) ?_
  refine gx_then ?_
  refine gc_seq ?_
  rw [show FitP (⟨0, 52000, 700000⟩ : Pipe) (⟨0, 50000, 51000, 590000, 600000⟩ : Wish) = (110000, true, 0) by kernel_rfl]
  refine gc_drawP [] true 13 rfl ?_
  refine ga_first 0 #[true, false, false, false, false, false, false, false, false, false, false, false, false, false] rfl rfl rfl rfl (by kernel_rfl) rfl ⟨[], by decide, rfl⟩ (qt_rd (rd_move rfl)) ?_
  refine ga_first 1 #[true, true, false, false, false, false, false, false, false, false, false, false, false, false] rfl rfl rfl rfl (by kernel_rfl) rfl ⟨[], by decide, rfl⟩ (qt_rd (rd_indexOld hl Try.underlying22 ty_25 rfl rfl (by decide) (by decide))) ?_
  refine ga_first 2 #[true, true, true, false, false, false, false, false, false, false, false, false, false, false] rfl rfl rfl rfl (by kernel_rfl) rfl ⟨[], by decide, rfl⟩ (qt_rd (rd_loadAgg Try.underlying25 rfl ty_25 rfl (cs_slN (off := 0) hl (cs := Pipe.cells (⟨0, 50000, 600000⟩ : Pipe)) rfl) rfl)) ?_
  refine ga_first 3 #[true, true, true, true, false, false, false, false, false, false, false, false, false, false] rfl rfl rfl rfl (by kernel_rfl) rfl ⟨[], by decide, rfl⟩ (qt_rd (rd_move rfl)) ?_
  refine ga_first 4 #[true, true, true, true, true, false, false, false, false, false, false, false, false, false] rfl rfl rfl rfl (by kernel_rfl) rfl ⟨[], by decide, rfl⟩ (qt_rd (rd_indexOld hw Try.underlying23 ty_29 rfl rfl (by decide) (by decide))) ?_
  refine ga_first 5 #[true, true, true, true, true, true, false, false, false, false, false, false, false, false] rfl rfl rfl rfl (by kernel_rfl) rfl ⟨[], by decide, rfl⟩ (qt_rd (rd_loadAgg Try.underlying29 rfl ty_29 rfl (cs_slN (off := 1) hw (cs := Wish.cells (⟨0, 50000, 51000, 650000, 660000⟩ : Wish)) rfl) rfl)) ?_
  refine ga_first 6 #[true, true, true, true, true, true, true, false, false, false, false, false, false, false] rfl rfl rfl rfl (by kernel_rfl) rfl ⟨[], by decide, rfl⟩ (qt_call (vf := []) (vc := []) rfl rfl Try.call9 (fun w2 ho => Fit_ok (⟨0, 50000, 600000⟩ : Pipe) (⟨0, 50000, 51000, 650000, 660000⟩ : Wish) w2) (by rintro _ _ ⟨h, _⟩; exact h)) ?_
  refine ga_first 7 #[true, true, true, true, true, true, true, true, false, false, false, false, false, false] rfl rfl rfl rfl (by kernel_rfl) rfl ⟨[], by decide, rfl⟩ (qt_rd (rd_move rfl)) ?_
  refine ga_first 8 #[true, true, true, true, true, true, true, true, true, false, false, false, false, false] rfl rfl rfl rfl (by kernel_rfl) rfl ⟨[], by decide, rfl⟩ (qt_rd (rd_extract rfl rfl)) ?_
  refine ga_first 9 #[true, true, true, true, true, true, true, true, true, true, false, false, false, false] rfl rfl rfl rfl (by kernel_rfl) rfl ⟨[], by decide, rfl⟩ (qt_rd (rd_extract rfl rfl)) ?_
  refine ga_first 10 #[true, true, true, true, true, true, true, true, true, true, true, false, false, false] rfl rfl rfl rfl (by kernel_rfl) rfl ⟨[], by decide, rfl⟩ (qt_rd (rd_extract rfl rfl)) ?_
  refine ga_first 11 #[true, true, true, true, true, true, true, true, true, true, true, true, false, false] rfl rfl rfl rfl (by kernel_rfl) rfl ⟨[], by decide, rfl⟩ (qt_rd (rd_assign rfl)) ?_
  refine ga_first 12 #[true, true, true, true, true, true, true, true, true, true, true, true, true, false] rfl rfl rfl rfl (by kernel_rfl) rfl ⟨[], by decide, rfl⟩ (qt_rd (rd_assign rfl)) ?_
  refine ga_first 13 #[true, true, true, true, true, true, true, true, true, true, true, true, true, true] rfl rfl rfl rfl (by kernel_rfl) rfl ⟨[], by decide, rfl⟩ (qt_rd (rd_assign rfl)) ?_
  refine ga_end (by kernel_rfl) (.inr ⟨[], by decide, rfl⟩) ?_
  refine gx_then ?_
  refine gc_seq ?_
  rw [show FitP (⟨0, 50000, 600000⟩ : Pipe) (⟨0, 50000, 51000, 650000, 660000⟩ : Wish) = (0, false, 0) by kernel_rfl]
  refine gc_region ?_
  refine gl_op (op_rd rfl (rd_move rfl) ?_)
  refine gl_op (op_rd rfl (rd_move rfl) ?_)
  refine gl_op (op_call rfl (vf := []) (vc := []) rfl rfl Try.call14 (fun w2 ho => Best_ok exP exW (rowA (some bp)) (rowA (some bw)) 2 2 w2 (hl.at ho) (hw.at ho) (by decide) (by decide) [0, 1] 50000 best_ex) ?_)
  rintro _ _ ⟨ra, cpa, rfl, rfl⟩
  rw [check_ex]
  refine gl_op (op_rd rfl (rd_move rfl) ?_)
  refine gl_op (op_rd rfl (rd_extract rfl rfl) ?_)
  refine gl_op (op_rd rfl (rd_extract rfl rfl) ?_)
  refine gl_op (op_rd rfl (rd_extract rfl rfl) ?_)
  refine gl_op (op_rd rfl (rd_assign rfl) ?_)
  refine gl_op (op_rd rfl (rd_assign rfl) ?_)
  refine gl_op (op_rd rfl (rd_assign rfl) ?_)
  refine gl_nil ?_
  refine gx_then ?_
  refine gc_seq ?_
  refine gc_region ?_
  refine gl_op (op_rd rfl (rd_move rfl) ?_)
  refine gl_op (op_rd rfl (rd_sliceLo Try.underlying22 ty_25 rfl rfl (by omega) (by omega)) ?_)
  refine gl_op (op_rd rfl (rd_move rfl) ?_)
  refine gl_op (op_call rfl (vf := []) (vc := []) rfl rfl Try.call14 (fun w2 ho => Best_ok exP1 exW (subA (rowA (some bp)) 2 1 3) (rowA (some bw)) 1 2 w2 (hl1.at ho) (hw.at ho) (by decide) (by decide) [-1, 0] 50000 best_ex1) ?_)
  rintro _ _ ⟨rb, cpb, rfl, rfl⟩
  rw [check_ex1]
  refine gl_op (op_rd rfl (rd_move rfl) ?_)
  refine gl_op (op_rd rfl (rd_extract rfl rfl) ?_)
  refine gl_op (op_rd rfl (rd_extract rfl rfl) ?_)
  refine gl_op (op_rd rfl (rd_extract rfl rfl) ?_)
  refine gl_op (op_rd rfl (rd_assign rfl) ?_)
  refine gl_op (op_rd rfl (rd_assign rfl) ?_)
  refine gl_op (op_rd rfl (rd_assign rfl) ?_)
  refine gl_nil ?_
  refine gx_then ?_
  refine gc_seq ?_
  refine gc_region ?_
  refine gl_op (op_rd rfl (rd_move rfl) ?_)
  refine gl_op (op_rd rfl (rd_sliceLo Try.underlying22 ty_25 rfl rfl (by omega) (by omega)) ?_)
  refine gl_op (op_rd rfl (rd_move rfl) ?_)
  refine gl_op (op_call rfl (vf := []) (vc := []) rfl rfl Try.call17 (fun w2 ho => Short_ok exP1 exW (subA (rowA (some bp)) 2 1 3) (rowA (some bw)) 1 2 w2 (hl1.at ho) (hw.at ho) (by decide) (by decide) [0, 1] [0] short_ex) ?_)
  rintro _ _ ⟨rc, cpc, rd, cpd, rfl, rfl⟩
  rw [check_ex1]
  refine gl_op (op_rd rfl (rd_move rfl) ?_)
  refine gl_op (op_rd rfl (rd_extract rfl rfl) ?_)
  refine gl_op (op_rd rfl (rd_extract rfl rfl) ?_)
  refine gl_op (op_rd rfl (rd_extract rfl rfl) ?_)
  refine gl_op (op_rd rfl (rd_assign rfl) ?_)
  refine gl_op (op_rd rfl (rd_assign rfl) ?_)
  refine gl_op (op_rd rfl (rd_assign rfl) ?_)
  refine gl_nil ?_
  refine gx_then ?_
  refine gc_seq ?_
  refine gc_seq ?_
  refine gc_region ?_
  refine gl_op (op_rd rfl (rd_move rfl) ?_)
  refine gl_op (op_rd rfl (rd_neq rfl rfl) (gk_dec (fun hd1 => ?_) (fun hd1 => ?_)))
  · skip
    exact absurd rfl (by assumption)
  · skip
    refine gl_op (op_rd rfl (rd_move rfl) ?_)
    refine gl_yes rfl rfl (op_rd rfl (rd_move rfl) ?_)
    refine gl_yes rfl rfl (op_rd rfl (rd_neq rfl rfl) (gk_dec (fun hd2 => ?_) (fun hd2 => ?_)))
    · skip
      exact absurd rfl (by assumption)
    · skip
      refine gl_op (op_rd rfl (rd_pick_f rfl rfl) ?_)
      refine gl_op (op_rd rfl (rd_move rfl) ?_)
      refine gl_yes rfl rfl (op_rd rfl (rd_move rfl) ?_)
      refine gl_yes rfl rfl (op_rd rfl (rd_neq rfl rfl) (gk_dec (fun hd3 => ?_) (fun hd3 => ?_)))
      · skip
        exact absurd rfl (by assumption)
      · skip
        refine gl_op (op_rd rfl (rd_pick_f rfl rfl) ?_)
        refine gl_op (op_rd rfl (rd_move rfl) ?_)
        refine gl_yes rfl rfl (op_rd rfl (rd_move rfl) ?_)
        refine gl_yes rfl rfl (op_rd rfl (rd_neq rfl rfl) (gk_dec (fun hd4 => ?_) (fun hd4 => ?_)))
        · skip
          exact absurd rfl (by assumption)
        · skip
          refine gl_op (op_rd rfl (rd_pick_f rfl rfl) ?_)
          refine gl_op (op_rd rfl (rd_move rfl) ?_)
          refine gl_yes rfl rfl (op_rd rfl (rd_move rfl) ?_)
          refine gl_yes rfl rfl (op_rd rfl (rd_neq rfl rfl) (gk_dec (fun hd5 => ?_) (fun hd5 => ?_)))
          · skip
            exact absurd rfl (by assumption)
          · skip
            refine gl_op (op_rd rfl (rd_pick_f rfl rfl) ?_)
            refine gl_op (op_rd rfl (rd_move rfl) ?_)
            refine gl_yes rfl rfl (op_rd rfl (rd_move rfl) ?_)
            refine gl_yes rfl rfl (op_rd rfl (rd_neq rfl rfl) (gk_dec (fun hd6 => ?_) (fun hd6 => ?_)))
            · skip
              exact absurd rfl (by assumption)
            · skip
              refine gl_op (op_rd rfl (rd_pick_f rfl rfl) ?_)
              refine gl_op (op_rd rfl (rd_move rfl) ?_)
              refine gl_yes rfl rfl (op_rd rfl (rd_move rfl) ?_)
              refine gl_yes rfl rfl (op_rd rfl (rd_not rfl) ?_)
              refine gl_op (op_rd rfl (rd_pick_f rfl rfl) ?_)
              refine gl_op (op_rd rfl (rd_move rfl) ?_)
              refine gl_yes rfl rfl (op_rd rfl (rd_move rfl) ?_)
              refine gl_op (op_rd rfl (rd_pick_f rfl rfl) ?_)
              refine gl_op (op_rd rfl (rd_move rfl) ?_)
              refine gl_yes rfl rfl (op_rd rfl (rd_move rfl) ?_)
              refine gl_yes rfl rfl (op_rd rfl (rd_neq rfl rfl) (gk_dec (fun hd7 => ?_) (fun hd7 => ?_)))
              · skip
                exact absurd rfl (by assumption)
              · skip
                refine gl_op (op_rd rfl (rd_pick_f rfl rfl) ?_)
                refine gl_op (op_rd rfl (rd_move rfl) ?_)
                refine gl_yes rfl rfl (op_rd rfl (rd_move rfl) ?_)
                refine gl_yes rfl rfl (op_rd rfl (rd_neq rfl rfl) (gk_dec (fun hd8 => ?_) (fun hd8 => ?_)))
                · skip
                  exact absurd rfl (by assumption)
                · skip
                  refine gl_op (op_rd rfl (rd_pick_f rfl rfl) ?_)
                  refine gl_nil ?_
                  refine gx_then ?_
                  refine gc_cond_f rfl ?_
                  refine gc_skip ?_
                  refine gx_then ?_
                  refine gc_seq ?_
                  refine gc_region ?_
                  refine gl_op (op_rd rfl (rd_move rfl) ?_)
                  refine gl_op (op_buildSlice (sz := 1) rfl rfl (fun _ => bs_39_2_0_1 _ _) rfl rfl (fun b105 => ?_))
                  refine gl_op (op_call rfl (vf := []) (vc := []) rfl rfl Try.call16 (fun w2 ho => same_ok [0, 1] [0, 1] (rowA ra) (rowA (some b105)) cpa 2 w2 (ho.rowSl 4 rfl) (ho.rowSl 0 rfl) (by decide) (by decide)) ?_)
                  rintro _ _ ⟨rfl, rfl⟩
                  rw [show decide (([0, 1] : List Int) = [0, 1]) = true from rfl]
                  refine gl_op (op_rd rfl (rd_move rfl) ?_)
                  refine gl_yes rfl rfl (op_rd rfl (rd_move rfl) ?_)
                  refine gl_yes rfl rfl (op_buildSlice (sz := 1) rfl rfl (fun _ => bs_39_2_0_1 _ _) rfl rfl (fun b109 => ?_))
                  refine gl_yes rfl rfl (op_call rfl (vf := []) (vc := []) rfl rfl Try.call16 (fun w2 ho => same_ok [-1, 0] [-1, 0] (rowA rb) (rowA (some b109)) cpb 2 w2 (ho.rowSl 4 rfl) (ho.rowSl 0 rfl) (by decide) (by decide)) ?_)
                  rintro _ _ ⟨rfl, rfl⟩
                  rw [show decide (([-1, 0] : List Int) = [-1, 0]) = true from rfl]
                  refine gl_op (op_rd rfl (rd_pick_t rfl rfl) ?_)
                  refine gl_op (op_rd rfl (rd_move rfl) ?_)
                  refine gl_yes rfl rfl (op_rd rfl (rd_move rfl) ?_)
                  refine gl_yes rfl rfl (op_buildSlice (sz := 1) rfl rfl (fun _ => bs_39_2_0_1 _ _) rfl rfl (fun b114 => ?_))
                  refine gl_yes rfl rfl (op_call rfl (vf := []) (vc := []) rfl rfl Try.call16 (fun w2 ho => same_ok [0, 1] [0, 1] (rowA rc) (rowA (some b114)) cpc 2 w2 (ho.rowSl 3 rfl) (ho.rowSl 0 rfl) (by decide) (by decide)) ?_)
                  rintro _ _ ⟨rfl, rfl⟩
                  rw [show decide (([0, 1] : List Int) = [0, 1]) = true from rfl]
                  refine gl_op (op_rd rfl (rd_pick_t rfl rfl) ?_)
                  refine gl_op (op_rd rfl (rd_move rfl) ?_)
                  refine gl_yes rfl rfl (op_rd rfl (rd_move rfl) ?_)
                  refine gl_yes rfl rfl (op_buildSlice (sz := 1) rfl rfl (fun _ => bs_39_1_0 _) rfl rfl (fun b119 => ?_))
                  refine gl_yes rfl rfl (op_call rfl (vf := []) (vc := []) rfl rfl Try.call16 (fun w2 ho => same_ok [0] [0] (rowA rd) (rowA (some b119)) cpd 1 w2 (ho.rowSl 5 rfl) (ho.rowSl 0 rfl) (by decide) (by decide)) ?_)
                  rintro _ _ ⟨rfl, rfl⟩
                  rw [show decide (([0] : List Int) = [0]) = true from rfl]
                  refine gl_op (op_rd rfl (rd_pick_t rfl rfl) ?_)
                  refine gl_op (op_rd rfl (rd_assign rfl) ?_)
                  refine gl_nil ?_
                  refine gx_then ?_
                  refine gc_ret ?_
                  refine gx_ret1 (.inl rfl) Try.results8 rfl [] (by decide) ?_
                  exact ⟨rfl, rfl⟩

end Go.Proofs.Yteiopfefmphhaaa

set_option autoImplicit false
set_option linter.unusedVariables false
namespace Go.Proofs.Yteiopfefmphhaaa
open Go.Gv
open Go.RowKit Go.Deep Go.ChangeShapes Go.WideShapes
namespace Iv
section
variable {H : Type} {enc : TypeId × Value → H} {W : World} {base : Nat} {sp : Nat → Bool} {held : Bool}
theorem cells_at {a : Addr} {n : Nat} {cs : List Value} (h : W.cells? base a n = some cs) : cs.length = n ∧ ∀ i v, cs[i]? = some v → W.cell? (a.add i) = some v := by
  obtain ⟨_, h1, h2⟩ := World.cells?_some h
  refine ⟨h1, fun i v hv => ?_⟩
  have hi := (List.getElem?_eq_some_iff.1 hv).1
  rw [h2 i (by omega)]; exact hv
theorem len2 {cs : List Value} (h : cs.length = 2) : ∃ u v, cs = [u, v] := by
  match cs, h with
  | [u, v], _ => exact ⟨u, v, rfl⟩
theorem len3 {cs : List Value} (h : cs.length = 3) : ∃ u v q, cs = [u, v, q] := by
  match cs, h with
  | [u, v, q], _ => exact ⟨u, v, q, rfl⟩
theorem len5 {cs : List Value} (h : cs.length = 5) : ∃ u v q r s, cs = [u, v, q, r, s] := by
  match cs, h with
  | [u, v, q, r, s], _ => exact ⟨u, v, q, r, s, rfl⟩
theorem len10 {cs : List Value} (h : cs.length = 10) : ∃ a b c d e f g i j k, cs = [a, b, c, d, e, f, g, i, j, k] := by
  match cs, h with
  | [a, b, c, d, e, f, g, i, j, k], _ => exact ⟨a, b, c, d, e, f, g, i, j, k, rfl⟩
theorem e3 : Try.prog.cellsOf 3 = 1 := by kernel_rfl
theorem e2 : Try.prog.cellsOf 2 = 1 := by kernel_rfl
theorem e22 : Try.prog.cellsOf 22 = 1 := by kernel_rfl
theorem e23 : Try.prog.cellsOf 23 = 1 := by kernel_rfl
theorem e25 : Try.prog.cellsOf 25 = 3 := by kernel_rfl
theorem e27 : Try.prog.cellsOf 27 = 2 := by kernel_rfl
theorem e29 : Try.prog.cellsOf 29 = 5 := by kernel_rfl
theorem e31 : Try.prog.cellsOf 31 = 10 := by kernel_rfl
theorem openPipe {n : Nat} {cs : List Value} {x : DataW H × List MemPlace} (h : DataW.trod enc Try.prog W base sp held n 25 cs = some x) : ∃ p : Pipe, cs = p.cells := by
  obtain ⟨y0, y1, y2, k, rfl, hl, h0, h1, h2⟩ := trod_struct3 Try.underlying25 h
  rw [e25] at hl
  obtain ⟨u, v, q, rfl⟩ := len3 hl
  simp only [e3, e2, List.drop_zero, List.take_succ_cons, List.take_zero, List.drop_succ_cons] at h0 h1 h2
  obtain ⟨z0, t0, _⟩ := DataW.trod_int Try.underlying3 h0
  obtain ⟨z1, t1, _⟩ := DataW.trod_int Try.underlying2 h1
  obtain ⟨z2, t2, _⟩ := DataW.trod_int Try.underlying2 h2
  simp only [List.cons.injEq, and_true] at t0 t1 t2
  exact ⟨⟨z0, z1, z2⟩, by rw [t0, t1, t2]; rfl⟩
theorem openIv {n : Nat} {u v : Value} {x : DataW H × List MemPlace} (h : DataW.trod enc Try.prog W base sp held n 27 [u, v] = some x) : ∃ a b : Int, u = .int .i64 a ∧ v = .int .i64 b := by
  obtain ⟨y0, y1, k, rfl, hl, h0, h1⟩ := trod_struct2 Try.underlying27 h
  simp only [e2, List.drop_zero, List.take_succ_cons, List.take_zero, List.drop_succ_cons] at h0 h1
  obtain ⟨z0, t0, _⟩ := DataW.trod_int Try.underlying2 h0
  obtain ⟨z1, t1, _⟩ := DataW.trod_int Try.underlying2 h1
  simp only [List.cons.injEq, and_true] at t0 t1
  exact ⟨z0, z1, t0, t1⟩
theorem openWish {n : Nat} {cs : List Value} {x : DataW H × List MemPlace} (h : DataW.trod enc Try.prog W base sp held n 29 cs = some x) : ∃ p : Wish, cs = p.cells := by
  obtain ⟨y0, y1, y2, k, rfl, hl, h0, h1, h2⟩ := trod_struct3 Try.underlying29 h
  rw [e29] at hl
  obtain ⟨u, v, q, r, s, rfl⟩ := len5 hl
  simp only [e3, e27, List.drop_zero, List.take_succ_cons, List.take_zero, List.drop_succ_cons] at h0 h1 h2
  obtain ⟨z0, t0, _⟩ := DataW.trod_int Try.underlying3 h0
  obtain ⟨a1, b1, r1, s1⟩ := openIv h1
  obtain ⟨a2, b2, r2, s2⟩ := openIv h2
  simp only [List.cons.injEq, and_true] at t0
  exact ⟨⟨z0, a1, b1, a2, b2⟩, by rw [t0, r1, s1, r2, s2]; rfl⟩
theorem openSl {α : Type} [Inhabited α] (f : α → List Value) (sz T E bb : Nat) (hf : ∀ x, (f x).length = sz) (hsz : 0 < sz) (hu : Try.prog.underlying T = some (.slice E)) (hc : Try.prog.cellsOf E = sz) (hB : Try.prog.bytesOf E = bb) (hbb : 8 ≤ bb) (hel : ∀ (n : Nat) (cs : List Value) (x : DataW H × List MemPlace), DataW.trod enc Try.prog W base sp held n E cs = some x → ∃ g : α, cs = f g) {n : Nat} {cs : List Value} {x : DataW H × List MemPlace} (h : DataW.trod enc Try.prog W base sp held n T cs = some x) (hw : ∀ b ∈ x.1.weights Try.prog T, b ≤ reachBytes) :
    ∃ (a : Option Addr) (gs : List α) (cp : Nat), cs = [.slice a gs.length cp] ∧ OldSl W [] a gs.length sz (gs.flatMap f) ∧ gs.length ≤ 140737488355328 := by
  rcases open_slice hu h with ⟨rfl, rfl⟩ | ⟨a, len, cap, m, k, D, Pl, rfl, hb, hl, hm, hmm, rfl, hx⟩
  · exact ⟨none, [], 0, rfl, oldNil W [] sz, Nat.zero_le _⟩
  · have hml : len ≤ m := by rw [hmm]; split <;> omega
    rw [hc] at hx
    have hwt : ∀ b ∈ DataW.weights Try.prog T (.slice ((List.range len).map D) ((List.range (m - len)).map fun j => D (len + j))), b ≤ reachBytes := hw
    rw [DataW.weights] at hwt
    simp only [hu] at hwt
    have hone : ∀ i, i < len → ∃ g : α, (∀ j v, (f g)[j]? = some v → W.cell? ((a.add (i * sz)).add j) = some v) := fun i hi => by
      obtain ⟨cs', h1, h2⟩ := hx i (by omega)
      obtain ⟨g, rfl⟩ := hel _ _ _ h2
      exact ⟨g, (cells_at h1).2⟩
    obtain ⟨g, hg⟩ := choose_lt (α := α) (p := fun i g => (∀ j v, (f g)[j]? = some v → W.cell? ((a.add (i * sz)).add j) = some v)) hone
    refine ⟨some a, (List.range len).map g, cap, by simp, ⟨by rw [flat_len f sz hf], fun _ => rfl, fun j v hv => ?_, fun _ => by simp⟩, ?_⟩
    · have hj : j < ((List.range len).map g).length * sz := by
        have := (List.getElem?_eq_some_iff.1 hv).1
        rwa [flat_len f sz hf] at this
      simp only [List.length_map, List.length_range] at hj
      have hi : j / sz < len := Nat.div_lt_of_lt_mul (by rw [Nat.mul_comm]; exact hj)
      have e : j = j / sz * sz + j % sz := (Nat.div_add_mod' j sz).symm
      have hget : ((List.range len).map g)[j / sz]? = some (g (j / sz)) := by simp [hi]
      have hv2 : (f (g (j / sz)))[j % sz]? = some v := by
        have hlt : j % sz < (f (g (j / sz))).length := by rw [hf]; exact Nat.mod_lt _ hsz
        have h5 := get_flat f sz hf hget (j := j % sz) (Nat.mod_lt _ hsz) (List.getElem?_eq_getElem hlt)
        rw [← e, hv] at h5
        rw [List.getElem?_eq_getElem hlt]
        exact h5.symm
      have := hg (j / sz) hi (j % sz) v hv2
      rw [Gv.add_add, ← e] at this
      exact this
    · have := hwt _ List.mem_cons_self
      simp only [List.length_map, List.length_range] at this ⊢
      rw [hB] at this
      have := reachBytes_lt
      have h9 : (len + (m - len)) * 8 ≤ (len + (m - len)) * bb := Nat.mul_le_mul_left _ hbb
      omega
theorem openPipes {n : Nat} {cs : List Value} {x : DataW H × List MemPlace} (h : DataW.trod enc Try.prog W base sp held n 22 cs = some x) (hw : ∀ b ∈ x.1.weights Try.prog 22, b ≤ reachBytes) :
    ∃ (a : Option Addr) (gs : List Pipe) (cp : Nat), cs = [.slice a gs.length cp] ∧ OldSl W [] a gs.length 3 (gs.flatMap Pipe.cells) ∧ gs.length ≤ 140737488355328 :=
  openSl Pipe.cells 3 22 25 24 (fun _ => rfl) (by decide) Try.underlying22 e25 (by kernel_rfl) (by decide) (fun n cs x h => openPipe h) h hw
theorem openWishes {n : Nat} {cs : List Value} {x : DataW H × List MemPlace} (h : DataW.trod enc Try.prog W base sp held n 23 cs = some x) (hw : ∀ b ∈ x.1.weights Try.prog 23, b ≤ reachBytes) :
    ∃ (a : Option Addr) (gs : List Wish) (cp : Nat), cs = [.slice a gs.length cp] ∧ OldSl W [] a gs.length 5 (gs.flatMap Wish.cells) ∧ gs.length ≤ 140737488355328 :=
  openSl Wish.cells 5 23 29 40 (fun _ => rfl) (by decide) Try.underlying23 e29 (by kernel_rfl) (by decide) (fun n cs x h => openWish h) h hw
/-- a case of the first law -/
structure Case where
  la : Option Addr
  lc : Nat
  l : List Pipe
  wa : Option Addr
  wc : Nat
  w : List Wish
  p : Pipe
  x : Wish
def Case.cells (c : Case) : List Value := [.slice c.la c.l.length c.lc, .slice c.wa c.w.length c.wc] ++ c.p.cells ++ c.x.cells
abbrev Case.val (c : Case) : Value := .agg #[.slice c.la c.l.length c.lc, .slice c.wa c.w.length c.wc, .int .i64 c.p.kind, .int .i64 c.p.d, .int .i64 c.p.len, .int .i64 c.x.kind, .int .i64 c.x.d0, .int .i64 c.x.d1, .int .i64 c.x.l0, .int .i64 c.x.l1]
structure Case.In (c : Case) (W : World) : Prop where
  hl : OldSl W [] c.la c.l.length 3 (c.l.flatMap Pipe.cells)
  hw : OldSl W [] c.wa c.w.length 5 (c.w.flatMap Wish.cells)
  hlb : c.l.length ≤ 140737488355328
  hwb : c.w.length ≤ 140737488355328
theorem openCase {n : Nat} {cs : List Value} {x : DataW H × List MemPlace} (h : DataW.trod enc Try.prog W base sp held n 31 cs = some x) (hw : ∀ b ∈ x.1.weights Try.prog 31, b ≤ reachBytes) :
    ∃ c : Case, cs = c.cells ∧ c.In W := by
  obtain ⟨y0, y1, y2, y3, k, rfl, hl, h0, h1, h2, h3⟩ := Go.Joins.trod_struct4 Try.underlying31 h
  rw [e31] at hl
  have hw' : ∀ b ∈ DataW.weightsEach Try.prog [22, 23, 25, 29] [y0.1, y1.1, y2.1, y3.1], b ≤ reachBytes := fun b hb => hw b (by
    rw [DataW.weights]
    simp only [Try.underlying31]
    exact hb)
  simp only [DataW.weightsEach, List.append_nil] at hw'
  obtain ⟨c0, c1, c2, c3, c4, c5, c6, c7, c8, c9, rfl⟩ := len10 hl
  simp only [e22, e23, e25, e29, List.drop_zero, List.take_succ_cons, List.take_zero, List.drop_succ_cons] at h0 h1 h2 h3
  obtain ⟨a, gs, cp, r1, g1, g2⟩ := openPipes h0 (fun b hb => hw' b (List.mem_append_left _ hb))
  obtain ⟨b, ws, cq, r2, g3, g4⟩ := openWishes h1 (fun b hb => hw' b (List.mem_append_right _ (List.mem_append_left _ hb)))
  obtain ⟨p, r3⟩ := openPipe h2
  obtain ⟨q, r4⟩ := openWish h3
  simp only [List.cons.injEq, and_true] at r1 r2
  refine ⟨⟨a, cp, gs, b, cq, ws, p, q⟩, ?_, ⟨g1, g3, g2, g4⟩⟩
  show [c0, c1] ++ ([c2, c3, c4] ++ [c5, c6, c7, c8, c9]) = _
  rw [r1, r2, r3, r4]; rfl
end
end Iv
end Go.Proofs.Yteiopfefmphhaaa

set_option autoImplicit false
set_option linter.unusedVariables false
namespace Go.Proofs.Yteiopfefmphhaaa
open Go.Gv
open Go.RowKit Go.ChangeShapes Go.WideShapes
open Iv
theorem tryLaid : laidOutB Try.prog = true := by kernel_rfl
theorem tryOwn : ownKnob Try.prog.godebug = none := by kernel_rfl
theorem stays {H : Type} {enc : TypeId × Value → H} {W W' : World} (hb : Below W.heap.size W W') {sp : Nat → Bool} : ∀ {ts : List TypeId} {vs : List Value} {ds : List (DataW H)} {p : List MemPlace},
    DataW.TrodAll enc Try.prog W 0 (fun _ => true) true ts vs ds p → (∀ t ∈ ts, Try.prog.readableRec t = true ∧ t < Try.prog.types.size) → (∀ x ∈ p, x.block < W.heap.size) → (∀ x ∈ p, sp x.block = true) → DataW.TrodAll enc Try.prog W' 0 sp true ts vs ds p
  | [], _, _, _, h, _, _, _ => by
    obtain ⟨rfl, rfl, rfl⟩ := trodAll_nil h
    exact h
  | t :: ts, _, _, _, h, hr, hlt, hsp => by
    obtain ⟨v, vs1, d, ds1, a, b, rfl, rfl, rfl, h1, h2⟩ := trodAll_cons h
    have hr1 := hr t (by simp)
    exact ⟨a, b, WideElems.Trod_stays tryLaid hr1.1 hr1.2 h1 (fun x hx => hb.same (hlt x (List.mem_append_left _ hx))) (fun x hx => hsp x (List.mem_append_left _ hx)),
      stays hb h2 (fun u hu => hr u (List.mem_cons_of_mem _ hu)) (fun x hx => hlt x (List.mem_append_right _ hx)) (fun x hx => hsp x (List.mem_append_right _ hx)), rfl⟩
set_option maxRecDepth 100000 in
/-- the law's row: it returned true, and nothing that was there has turned -/
theorem law_post {H : Type} {enc : TypeId × Value → H} {f : Func} {s : ChangeSpec} {fresh handsOn again : Bool} {W W' : World} {args : Array Value} {ds gs : List (DataW H)} {before : List MemPlace}
    (hW : DataW.Whole enc Try.prog f.params.toList s.vars false W args.toList ds gs before) (hv : s.vars = []) (hb : Below W.heap.size W W')
    (hrt : f.resultTypes = #[4]) (hres : (s.fn H ds).results = [.lit (.bool true)]) (hargs : (s.fn H ds).args = ds) (hvars : (s.fn H ds).vars = []) (hr : ∀ t ∈ f.params.toList, Try.prog.readableRec t = true ∧ t < Try.prog.types.size) :
    s.post enc Try.prog f false fresh handsOn again W args (.bool true) W' := by
  have hlt : ∀ x ∈ before, x.block < W.heap.size := fun x hx => by simpa using hW.lt x hx
  have hW0 := hW
  obtain ⟨p, q, hA, hV, rfl, hz, hn⟩ := hW
  rw [hv] at hV
  obtain ⟨rfl, rfl⟩ := trodVars_none hV
  simp only [List.append_nil] at hz hlt hW0
  have hR : ∀ (b : Nat) (sp : Nat → Bool) (hd : Bool), DataW.TrodAll enc Try.prog W' b sp hd f.resultTypes.toList ((Value.bool true).resultList f.resultTypes.size) (s.fn H (ds ++ [])).results [] := fun b sp hd => by
    rw [List.append_nil, hres, hrt]
    exact trodAll_cons_mk (shut_bool Try.underlying4 _) trodAll_mk0
  have hA' : ∀ sp : Nat → Bool, (∀ x ∈ p, sp x.block = true) → DataW.TrodAll enc Try.prog W' 0 sp true f.params.toList args.toList (s.fn H (ds ++ [])).args p := fun sp hsp => by
    rw [List.append_nil, hargs]; exact stays hb hA hr hlt hsp
  have hVv : ∀ sp : Nat → Bool, DataW.TrodVars enc Try.prog W' sp s.vars (s.fn H (ds ++ [])).vars [] := fun sp => by
    rw [List.append_nil, hv, hvars]; rfl
  have hok : ∀ (j : Nat) (t : TypeId) (r : Value), f.resultTypes[j]? = some t → ((Value.bool true).resultList f.resultTypes.size)[j]? = some r → Value.okWide Try.prog W' .any 0 t r := ok_one hrt rfl (okWide_bool_mk Try.underlying4 _)
  refine ⟨ds, [], p, [], p, [], hW0, hR _ _ _, hA' _ (fun x hx => by simpa using hlt x hx), hVv _, World.keptBut_mono (fun x hx => ⟨hx, .inr (by simpa using hx)⟩) (hb.frame _), fun _ => ?_⟩
  refine ⟨hok, _, _, ([] ++ p) ++ [], ⟨[] ++ p, [], trodAll_append (hA' (fun _ => true) (fun _ _ => rfl)) (hR _ _ _), hVv _, rfl, ?_, fun h => by cases h⟩, ?_⟩
  · intro b off hp
    have hp' : MemPlace.cell b off ∈ p := by simpa using hp
    rw [hb.frozen (p := ⟨b, off, none⟩) (hlt _ hp')]
    exact hz b off hp'
  · intro x hx _
    simpa using hx
end Go.Proofs.Yteiopfefmphhaaa
