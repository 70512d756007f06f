import Derived.Test.YtbjijbbkfgcleaaGreatDoorW02
import Derived.Test.YtbjijbbkfgcleaaGreatDoorW01
import Derived.Test.YtbjijbbkfgcleaaGreatDoorW00
/- A part of the proof: walks of the program. -/
set_option autoImplicit false
set_option linter.unusedSimpArgs false
set_option linter.unusedVariables false
set_option linter.unnecessarySimpa false
namespace Go.Proofs.YtbjijbbkfgcleaaGreatDoor
open Go.Gv
open Go.RowKit
open Go.Sn
open Sx
namespace Sx
theorem stTw_yes {l : List St} {i k : Nat} (h : k < i) (h1 : (l.getD k default).div = (l.getD i default).div) (h2 : (l.getD k default).name = (l.getD i default).name) : stTwice l i = true := by
  unfold stTwice; rw [List.any_eq_true]; exact ⟨k, List.mem_range.2 h, by rw [decide_eq_true h1, decide_eq_true h2]; rfl⟩
theorem stTw_no {l : List St} {i : Nat} (h : ∀ k, k < i → ¬ ((l.getD k default).div = (l.getD i default).div ∧ (l.getD k default).name = (l.getD i default).name)) : stTwice l i = false := by
  unfold stTwice; rw [List.any_eq_false]; intro k hk; have := h k (List.mem_range.1 hk); simpa using this
end Sx
open Sx
set_option maxRecDepth 100000 in
set_option maxHeartbeats 1000000 in
theorem rstop_ok (s : Org) (hle : OrgLe s) (w0 : World) (hS : OrgIn s w0 []) (i : Nat) (hi : i < s.ss.length) : Sp Tryz.prog 51 [s.val, natV i] w0 [] (RV (.int .i64 (stErr s.ds.length s.ss i))) := by
  obtain ⟨x, hx⟩ := get_some hi
  have hxd := getD_some (d := default) hx
  have hxm := List.mem_of_getElem? hx
  have hln := hle.t
  have hpl := hle.p x hxm
  have hdl := hle.d
  refine spec_enter Tryz.func51 rfl Tryz.ntmps51 rfl (Own.refl _) ?_
  simp only [argEnv]
  refine gc_seq <| gc_region <| gl_op (op_box rfl rfl rfl (fun b2 => ?_))
  refine gl_op <| op_rd rfl (rd_assign rfl) <| gl_nil <| gx_then <| gc_seq <| gc_region <| gl_op <| op_rd rfl (rd_fieldAddr rfl (fa_27_2 _)) <| gl_op (op_rd rfl (rd_load Tryz.underlying24 rfl rfl (by exact ld_blk 0 rfl rfl)) ?_)
  refine gl_op <| op_rd rfl (rd_move rfl) <| gl_op (op_rd rfl (rd_indexOld hS.t Tryz.underlying24 ty_56 rfl rfl (by omega) (by omega)) ?_)
  refine gl_op (op_rd rfl (rd_loadAgg Tryz.underlying56 rfl ty_56 rfl (cs_slN hS.t (flat_drop_get St.cells 5 (fun _ => rfl) hx)) rfl) ?_)
  refine gl_op (op_alloc ty_56 rfl rfl (fun b5 => ?_))
  refine gl_op (op_storeAgg 0 ty_56 rfl rfl rfl rfl rfl rfl (by rfl) ?_)
  refine gl_nil <| gx_then <| gc_seq <| gc_seq <| gc_region <| gl_op <| op_rd rfl (rd_fieldAddr rfl (fa_56_0 _)) <| gl_op (op_rd rfl (rd_load Tryz.underlying9 rfl rfl (by exact ld_blk 0 rfl rfl)) ?_)
  refine gl_op (op_call rfl (vf := []) (vc := []) rfl rfl Tryz.call75 (fun w1 ho => rName_ok x.name (hle.tn x hxm) w1) ?_)
  rintro _ _ ⟨rfl, rfl⟩
  refine gk_bool (fun hn => ?_) (fun hn => ?_)
  · refine gl_op <| op_rd rfl (rd_not rfl) <| gl_nil <| gx_then <| gc_cond_f rfl <| gc_skip <| gx_then <| gc_seq <| gc_seq <| gc_region <| gl_op <| op_rd rfl (rd_fieldAddr rfl (fa_56_1 _)) <| gl_op (op_rd rfl (rd_load Tryz.underlying3 rfl rfl (by exact ld_blk 0 rfl rfl)) ?_)
    refine gl_op <| op_rd rfl (rd_fieldAddr rfl (fa_27_0 _)) <| gl_op (op_rd rfl (rd_load Tryz.underlying22 rfl rfl (by exact ld_blk 1 rfl rfl)) ?_)
    refine gl_op <| op_rd rfl (rd_lenSlice Tryz.underlying22 rfl) <| gl_op (op_call rfl (vf := []) (vc := []) rfl rfl Tryz.call78 (fun w1 ho => index_ok _ _ w1) ?_)
    rintro _ _ ⟨rfl, rfl⟩
    refine gk_bool (fun hix => ?_) (fun hix => ?_)
    · refine gl_op <| op_rd rfl (rd_not rfl) <| gl_nil <| gx_then <| gc_cond_f rfl <| gc_skip <| gx_then <| gc_seq <| gc_seq <| gc_region <| gl_op <| op_rd rfl (rd_assign rfl) <| gl_nil <| gx_then <| gc_block <| gc_loopF (ι := Nat) [(1, _), (2, _), (5, _)] [_, _] (fun k => k ≤ i ∧ ∀ q, q < k → ¬ ((s.ss.getD q default).div = (s.ss.getD i default).div ∧ (s.ss.getD q default).name = (s.ss.getD i default).name)) (fun k Fr0 => ((6, natV k) :: Fr0)) (fun k Fr0 => Fr0) (fun k => i - k) 0 (⟨Nat.zero_le _, fun q hq => absurd hq (Nat.not_lt_zero q)⟩) ⟨rfl, rfl, rfl, rfl, trivial⟩ ⟨[0, 1], by decide, rfl⟩ ?_
      rintro k ⟨hk, hall⟩
      refine gc_seq <| gc_seq <| gc_region <| gl_op <| op_rd rfl (rd_move rfl) <| gl_op <| op_rd rfl (rd_move rfl) <| gl_op (op_rd rfl (rd_lss rfl rfl) (gk_dec (fun h25 => ?_) (fun h25 => ?_)))
      · obtain ⟨y, hy⟩ := get_some (show k < s.ss.length by omega)
        have hyd := getD_some (d := default) hy
        refine gl_nil <| gx_then <| gc_cond_t rfl <| gc_skip <| gx_then <| gc_seq <| gc_block <| gc_seq <| gc_drawP [0, 1] true 19 rfl <| ga_first 0 (bm 20 1) rfl rfl rfl rfl (by kernel_rfl) (by kernel_rfl) ⟨[0, 1], by decide, rfl⟩ (qt_rd (rd_fieldAddr rfl (fa_27_2 _))) ?_
        refine ga_first 1 (bm 20 3) rfl rfl rfl rfl (by kernel_rfl) (by kernel_rfl) ⟨[0, 1], by decide, rfl⟩ (qt_rd (rd_load Tryz.underlying24 rfl rfl (by exact ld_blk 1 rfl rfl))) ?_
        refine ga_first 2 (bm 20 7) rfl rfl rfl rfl (by kernel_rfl) (by kernel_rfl) ⟨[0, 1], by decide, rfl⟩ (qt_rd (rd_move rfl)) ?_
        refine ga_first 3 (bm 20 15) rfl rfl rfl rfl (by kernel_rfl) (by kernel_rfl) ⟨[0, 1], by decide, rfl⟩ (qt_rd (rd_indexOld hS.t Tryz.underlying24 ty_56 rfl rfl (by omega) (by omega))) ?_
        refine ga_first 4 (bm 20 31) rfl rfl rfl rfl (by kernel_rfl) (by kernel_rfl) ⟨[0, 1], by decide, rfl⟩ (qt_rd (rd_fieldAddr rfl (fa_56_1 _))) ?_
        refine ga_first 5 (bm 20 63) rfl rfl rfl rfl (by kernel_rfl) (by kernel_rfl) ⟨[0, 1], by decide, rfl⟩ (qt_rd (rd_load Tryz.underlying3 rfl rfl (ld_slf hS.t (get_flat St.cells 5 (fun _ => rfl) hy (j := 1) (by decide) rfl)))) ?_
        refine ga_first 6 (bm 20 127) rfl rfl rfl rfl (by kernel_rfl) (by kernel_rfl) ⟨[0, 1], by decide, rfl⟩ (qt_rd (rd_fieldAddr rfl (fa_56_1 _))) ?_
        refine ga_first 7 (bm 20 255) rfl rfl rfl rfl (by kernel_rfl) (by kernel_rfl) ⟨[0, 1], by decide, rfl⟩ (qt_rd (rd_load Tryz.underlying3 rfl rfl (by exact ld_blk 0 rfl rfl))) ?_
        refine ga_first 8 (bm 20 511) rfl rfl rfl rfl (by kernel_rfl) (by kernel_rfl) ⟨[0, 1], by decide, rfl⟩ (qt_rd (rd_eql rfl rfl)) (gk_dec (fun h36 => ?_) (fun h36 => ?_))
        · refine ga_first 9 (bm 20 1023) rfl rfl rfl rfl (by kernel_rfl) (by kernel_rfl) ⟨[0, 1], by decide, rfl⟩ (qt_rd (rd_move rfl)) ?_
          refine ga_firstY 10 (bm 20 2047) rfl rfl rfl rfl rfl rfl (by kernel_rfl) (by kernel_rfl) ⟨[0, 1], by decide, rfl⟩ (qt_rd (rd_fieldAddr rfl (fa_27_2 _))) ?_
          refine ga_firstY 11 (bm 20 4095) rfl rfl rfl rfl rfl rfl (by kernel_rfl) (by kernel_rfl) ⟨[0, 1], by decide, rfl⟩ (qt_rd (rd_load Tryz.underlying24 rfl rfl (by exact ld_blk 1 rfl rfl))) ?_
          refine ga_firstY 12 (bm 20 8191) rfl rfl rfl rfl rfl rfl (by kernel_rfl) (by kernel_rfl) ⟨[0, 1], by decide, rfl⟩ (qt_rd (rd_move rfl)) ?_
          refine ga_firstY 13 (bm 20 16383) rfl rfl rfl rfl rfl rfl (by kernel_rfl) (by kernel_rfl) ⟨[0, 1], by decide, rfl⟩ (qt_rd (rd_indexOld hS.t Tryz.underlying24 ty_56 rfl rfl (by omega) (by omega))) ?_
          refine ga_firstY 14 (bm 20 32767) rfl rfl rfl rfl rfl rfl (by kernel_rfl) (by kernel_rfl) ⟨[0, 1], by decide, rfl⟩ (qt_rd (rd_fieldAddr rfl (fa_56_0 _))) ?_
          refine ga_firstY 15 (bm 20 65535) rfl rfl rfl rfl rfl rfl (by kernel_rfl) (by kernel_rfl) ⟨[0, 1], by decide, rfl⟩ (qt_rd (rd_load Tryz.underlying9 rfl rfl (ld_slf hS.t (get_flat St.cells 5 (fun _ => rfl) hy (j := 0) (by decide) rfl)))) ?_
          refine ga_firstY 16 (bm 20 131071) rfl rfl rfl rfl rfl rfl (by kernel_rfl) (by kernel_rfl) ⟨[0, 1], by decide, rfl⟩ (qt_rd (rd_fieldAddr rfl (fa_56_0 _))) ?_
          refine ga_firstY 17 (bm 20 262143) rfl rfl rfl rfl rfl rfl (by kernel_rfl) (by kernel_rfl) ⟨[0, 1], by decide, rfl⟩ (qt_rd (rd_load Tryz.underlying9 rfl rfl (by exact ld_blk 0 rfl rfl))) ?_
          refine ga_firstY 18 (bm 20 524287) rfl rfl rfl rfl rfl rfl (by kernel_rfl) (by kernel_rfl) ⟨[0, 1], by decide, rfl⟩ (qt_rd (rd_eqlStrD Tryz.underlying9 (by kernel_rfl) rfl rfl)) ?_
          refine ga_first 19 (bm 20 1048575) rfl rfl rfl rfl (by kernel_rfl) (by kernel_rfl) ⟨[0, 1], by decide, rfl⟩ (qt_rd (rd_pick_t rfl rfl)) ?_
          refine ga_end (by kernel_rfl) (.inr ⟨[0, 1], by decide, rfl⟩) ?_
          refine gx_then <| gc_cond rfl (fun hq => ?_) (fun hq => ?_)
          · refine gc_seq <| gc_region <| gl_op <| op_rd rfl (rd_assign rfl) <| gl_nil <| gx_then <| gc_ret <| gx_block_ret <| gx_then_ret <| gx_then_ret <| gx_block_ret <| gx_then_ret <| gx_ret1 (.inl rfl) Tryz.results51 rfl [] (by decide) ?_
            refine ⟨congrArg (Value.int .i64) (Eq.symm ?_), rfl⟩
            unfold stErr
            rw [hxd]
            simp only
            rw [if_neg (by rw [hn]; decide)]
            rw [if_neg (by rw [hix]; decide)]
            rw [if_pos (stTw_yes (k := k) (by omega) (by rw [hyd, hxd]; omega) (by rw [hyd, hxd]; simpa using hq))]
          refine gc_skip <| gx_block <| gx_then <| gc_region <| gl_op <| op_rd rfl (rd_move rfl) <| gl_op (op_rd rfl (by exact rd_addN (b := 1) rfl rfl (by omega)) ?_)
          refine gl_op <| op_rd rfl (rd_assign rfl) <| gl_nil <| gx_then ?_
          exact gx_cut (k + 1) ⟨⟨by omega, fun q hqq => by
            rcases Nat.lt_or_eq_of_le (Nat.le_of_lt_succ hqq) with h | rfl
            · exact hall q h
            · rw [hyd, hxd]; rintro ⟨e1, e2⟩; rw [decide_eq_true e2] at hq; cases hq⟩, by omega⟩ ⟨rfl, rfl, rfl, rfl, trivial⟩ ⟨[0, 1], by decide, rfl⟩
        refine ga_first 9 (bm 20 1023) rfl rfl rfl rfl (by kernel_rfl) (by kernel_rfl) ⟨[0, 1], by decide, rfl⟩ (qt_rd (rd_move rfl)) ?_
        refine ga_firstN 10 (bm 20 2047) rfl rfl rfl rfl rfl rfl (by kernel_rfl) (by kernel_rfl) ⟨[0, 1], by decide, rfl⟩ ?_
        refine ga_firstN 11 (bm 20 4095) rfl rfl rfl rfl rfl rfl (by kernel_rfl) (by kernel_rfl) ⟨[0, 1], by decide, rfl⟩ ?_
        refine ga_firstN 12 (bm 20 8191) rfl rfl rfl rfl rfl rfl (by kernel_rfl) (by kernel_rfl) ⟨[0, 1], by decide, rfl⟩ ?_
        refine ga_firstN 13 (bm 20 16383) rfl rfl rfl rfl rfl rfl (by kernel_rfl) (by kernel_rfl) ⟨[0, 1], by decide, rfl⟩ ?_
        refine ga_firstN 14 (bm 20 32767) rfl rfl rfl rfl rfl rfl (by kernel_rfl) (by kernel_rfl) ⟨[0, 1], by decide, rfl⟩ ?_
        refine ga_firstN 15 (bm 20 65535) rfl rfl rfl rfl rfl rfl (by kernel_rfl) (by kernel_rfl) ⟨[0, 1], by decide, rfl⟩ ?_
        refine ga_firstN 16 (bm 20 131071) rfl rfl rfl rfl rfl rfl (by kernel_rfl) (by kernel_rfl) ⟨[0, 1], by decide, rfl⟩ ?_
        refine ga_firstN 17 (bm 20 262143) rfl rfl rfl rfl rfl rfl (by kernel_rfl) (by kernel_rfl) ⟨[0, 1], by decide, rfl⟩ ?_
        refine ga_firstN 18 (bm 20 524287) rfl rfl rfl rfl rfl rfl (by kernel_rfl) (by kernel_rfl) ⟨[0, 1], by decide, rfl⟩ ?_
        refine ga_first 19 (bm 20 1048575) rfl rfl rfl rfl (by kernel_rfl) (by kernel_rfl) ⟨[0, 1], by decide, rfl⟩ (qt_rd (rd_pick_f rfl rfl)) ?_
        refine ga_end (by kernel_rfl) (.inr ⟨[0, 1], by decide, rfl⟩) ?_
        refine gx_then <| gc_cond_f rfl <| gc_skip <| gx_block <| gx_then <| gc_region <| gl_op <| op_rd rfl (rd_move rfl) <| gl_op (op_rd rfl (by exact rd_addN (b := 1) rfl rfl (by omega)) ?_)
        refine gl_op <| op_rd rfl (rd_assign rfl) <| gl_nil <| gx_then ?_
        exact gx_cut (k + 1) ⟨⟨by omega, fun q hqq => by
          rcases Nat.lt_or_eq_of_le (Nat.le_of_lt_succ hqq) with h | rfl
          · exact hall q h
          · rw [hyd, hxd]; rintro ⟨e1, e2⟩; omega⟩, by omega⟩ ⟨rfl, rfl, rfl, rfl, trivial⟩ ⟨[0, 1], by decide, rfl⟩
      refine gl_nil <| gx_then <| gc_cond_f rfl <| gc_exit <| gx_then_exit <| gx_then_exit <| gx_block_exit <| gx_then <| gc_seq <| gc_seq <| gc_region <| gl_op <| op_rd rfl (rd_fieldAddr rfl (fa_56_2 _)) <| gl_op (op_rd rfl (rd_loadAgg Tryz.underlying51 rfl ty_51 rfl (by exact cs_blk 0 (off := 2) (k := 2) rfl rfl) rfl) ?_)
      refine gl_op (op_call rfl (vf := []) (vc := []) rfl rfl Tryz.call77 (fun w1 ho => rValid_ok x.num x.den w1) ?_)
      rintro _ _ ⟨rfl, rfl⟩
      refine gk_bool (fun hv => ?_) (fun hv => ?_)
      · refine gl_op <| op_rd rfl (rd_not rfl) <| gl_op <| op_rd rfl (rd_move rfl) <| gl_yes rfl rfl <| op_rd rfl (rd_fieldAddr rfl (fa_56_3 _)) <| gl_yes rfl rfl (op_rd rfl (rd_load Tryz.underlying54 rfl rfl (by exact ld_blk 0 rfl rfl)) ?_)
        refine gl_yes rfl rfl <| op_rd rfl (rd_lenSlice Tryz.underlying54 rfl) <| gl_yes rfl rfl (op_rd rfl (rd_eql rfl rfl) (gk_dec (fun h56 => ?_) (fun h56 => ?_)))
        · refine gl_op <| op_rd rfl (rd_pick_f rfl rfl) <| gl_nil <| gx_then <| gc_cond_t rfl <| gc_seq <| gc_region <| gl_op <| op_rd rfl (rd_assign rfl) <| gl_nil <| gx_then <| gc_ret <| gx_then_ret <| gx_ret1 (.inl rfl) Tryz.results51 rfl [] (by decide) ?_
          refine ⟨congrArg (Value.int .i64) (Eq.symm ?_), rfl⟩
          unfold stErr
          rw [hxd]
          simp only
          rw [if_neg (by rw [hn]; decide)]
          rw [if_neg (by rw [hix]; decide)]
          rw [if_neg (by rw [stTw_no (fun q hq => hall q (by omega))]; decide)]
          rw [if_pos (by rw [hv, decide_eq_true (show x.ps.length = 0 by omega)]; rfl)]
        refine gl_op <| op_rd rfl (rd_pick_f rfl rfl) <| gl_nil <| gx_then <| gc_cond_f rfl <| gc_skip <| gx_then <| gc_seq <| gc_seq <| gc_region <| gl_op <| op_rd rfl (rd_fieldAddr rfl (fa_56_3 _)) <| gl_op (op_rd rfl (rd_load Tryz.underlying54 rfl rfl (by exact ld_blk 0 rfl rfl)) ?_)
        refine gl_op <| op_rd rfl (rd_lenSlice Tryz.underlying54 rfl) <| gl_op (op_rd rfl (rd_gtr rfl rfl) (gk_dec (fun h61 => ?_) (fun h61 => ?_)))
        · refine gl_nil <| gx_then <| gc_cond_t rfl <| gc_seq <| gc_region <| gl_op <| op_rd rfl (rd_assign rfl) <| gl_nil <| gx_then <| gc_ret <| gx_then_ret <| gx_ret1 (.inl rfl) Tryz.results51 rfl [] (by decide) ?_
          refine ⟨congrArg (Value.int .i64) (Eq.symm ?_), rfl⟩
          unfold stErr
          rw [hxd]
          simp only
          rw [if_neg (by rw [hn]; decide)]
          rw [if_neg (by rw [hix]; decide)]
          rw [if_neg (by rw [stTw_no (fun q hq => hall q (by omega))]; decide)]
          rw [if_neg (by rw [hv, decide_eq_false (show ¬ x.ps.length = 0 by omega)]; decide)]
          rw [if_pos (decide_eq_true (by omega))]
        refine gl_nil <| gx_then <| gc_cond_f rfl <| gc_skip <| gx_then <| gc_seq <| gc_region <| gl_op <| op_rd rfl (rd_assign rfl) <| gl_nil <| gx_then <| gc_ret <| gx_ret1 (.inl rfl) Tryz.results51 rfl [] (by decide) ?_
        refine ⟨congrArg (Value.int .i64) (Eq.symm ?_), rfl⟩
        unfold stErr
        rw [hxd]
        simp only
        rw [if_neg (by rw [hn]; decide)]
        rw [if_neg (by rw [hix]; decide)]
        rw [if_neg (by rw [stTw_no (fun q hq => hall q (by omega))]; decide)]
        rw [if_neg (by rw [hv, decide_eq_false (show ¬ x.ps.length = 0 by omega)]; decide)]
        rw [if_neg (by rw [decide_eq_false (show ¬ 12 < x.ps.length by omega)]; decide)]
      refine gl_op <| op_rd rfl (rd_not rfl) <| gl_op <| op_rd rfl (rd_move rfl) <| gl_no rfl rfl rfl <| gl_no rfl rfl rfl <| gl_no rfl rfl rfl <| gl_no rfl rfl rfl <| gl_op <| op_rd rfl (rd_pick_t rfl rfl) <| gl_nil <| gx_then <| gc_cond_t rfl <| gc_seq <| gc_region <| gl_op <| op_rd rfl (rd_assign rfl) <| gl_nil <| gx_then <| gc_ret <| gx_then_ret <| gx_ret1 (.inl rfl) Tryz.results51 rfl [] (by decide) ?_
      refine ⟨congrArg (Value.int .i64) (Eq.symm ?_), rfl⟩
      unfold stErr
      rw [hxd]
      simp only
      rw [if_neg (by rw [hn]; decide)]
      rw [if_neg (by rw [hix]; decide)]
      rw [if_neg (by rw [stTw_no (fun q hq => hall q (by omega))]; decide)]
      rw [if_pos (by rw [hv]; rfl)]
    refine gl_op <| op_rd rfl (rd_not rfl) <| gl_nil <| gx_then <| gc_cond_t rfl <| gc_seq <| gc_region <| gl_op <| op_rd rfl (rd_assign rfl) <| gl_nil <| gx_then <| gc_ret <| gx_then_ret <| gx_ret1 (.inl rfl) Tryz.results51 rfl [] (by decide) ?_
    refine ⟨congrArg (Value.int .i64) (Eq.symm ?_), rfl⟩
    unfold stErr
    rw [hxd]
    simp only
    rw [if_neg (by rw [hn]; decide)]
    rw [if_pos hix]
  refine gl_op <| op_rd rfl (rd_not rfl) <| gl_nil <| gx_then <| gc_cond_t rfl <| gc_seq <| gc_region <| gl_op <| op_rd rfl (rd_assign rfl) <| gl_nil <| gx_then <| gc_ret <| gx_then_ret <| gx_ret1 (.inl rfl) Tryz.results51 rfl [] (by decide) ?_
  refine ⟨congrArg (Value.int .i64) (Eq.symm ?_), rfl⟩
  unfold stErr
  rw [hxd]
  simp only
  rw [if_pos hn]
set_option maxRecDepth 100000 in
set_option maxHeartbeats 1000000 in
theorem rpart_ok (s : Org) (hle : OrgLe s) (w0 : World) (hS : OrgIn s w0 []) (x : St) (p : Pt) (d : Dv) (hg : PGood s x d) : Sp Tryz.prog 52 [s.val, x.val, p.val] w0 [] (RV (.int .i64 (ptErr s.rs d p))) := by
  obtain ⟨hrl, hd0, hd1, hrk, hxd0, hdx⟩ := hg
  have hdl : x.div.toNat < s.ds.length := (List.getElem?_eq_some_iff.1 hdx).1
  have hln := hle.r
  have hdn := hle.d
  refine spec_enter Tryz.func52 rfl Tryz.ntmps52 rfl (Own.refl _) ?_
  simp only [argEnv]
  refine gc_seq <| gc_region <| gl_op (op_box rfl rfl rfl (fun b3 => ?_))
  refine gl_op (op_box rfl rfl rfl (fun b4 => ?_))
  refine gl_op (op_box rfl rfl rfl (fun b5 => ?_))
  refine gl_op <| op_rd rfl (rd_assign rfl) <| gl_nil <| gx_then <| gc_seq <| gc_seq <| gc_region <| gl_op <| op_rd rfl (rd_fieldAddr rfl (fa_104_0 _)) <| gl_op (op_rd rfl (rd_load Tryz.underlying3 rfl rfl (by exact ld_blk 0 rfl rfl)) ?_)
  refine gl_op <| op_rd rfl (rd_fieldAddr rfl (fa_27_1 _)) <| gl_op (op_rd rfl (rd_load Tryz.underlying23 rfl rfl (by exact ld_blk 2 rfl rfl)) ?_)
  refine gl_op <| op_rd rfl (rd_lenSlice Tryz.underlying23 rfl) <| gl_op (op_call rfl (vf := []) (vc := []) rfl rfl Tryz.call78 (fun w1 ho => index_ok _ _ w1) ?_)
  rintro _ _ ⟨rfl, rfl⟩
  refine gk_bool (fun hix => ?_) (fun hix => ?_)
  · obtain ⟨hx0, hx1⟩ : 0 ≤ p.rank ∧ p.rank < s.rs.length := by unfold idxB at hix; simpa using hix
    obtain ⟨r, hr⟩ := get_some (show p.rank.toNat < s.rs.length by omega)
    have hrd := getD_some (d := default) hr
    have hrr := hrk r (List.mem_of_getElem? hr)
    refine gl_op <| op_rd rfl (rd_not rfl) <| gl_nil <| gx_then <| gc_cond_f rfl <| gc_skip <| gx_then <| gc_seq <| gc_region <| gl_op <| op_rd rfl (rd_fieldAddr rfl (fa_27_0 _)) <| gl_op (op_rd rfl (rd_load Tryz.underlying22 rfl rfl (by exact ld_blk 2 rfl rfl)) ?_)
    refine gl_op <| op_rd rfl (rd_fieldAddr rfl (fa_56_1 _)) <| gl_op (op_rd rfl (rd_load Tryz.underlying3 rfl rfl (by exact ld_blk 1 rfl rfl)) ?_)
    refine gl_op (op_rd rfl (rd_indexOld hS.d Tryz.underlying22 ty_49 rfl rfl (by omega) (by omega)) ?_)
    refine gl_op (op_rd rfl (rd_loadAgg Tryz.underlying49 rfl ty_49 rfl (cs_sl hS.d (flat_drop_get Dv.cells 3 (fun _ => rfl) hdx)) rfl) ?_)
    refine gl_op (op_alloc ty_49 rfl rfl (fun b7 => ?_))
    refine gl_op (op_storeAgg 0 ty_49 rfl rfl rfl rfl rfl rfl (by rfl) ?_)
    refine gl_nil <| gx_then <| gc_seq <| gc_seq <| gc_region <| gl_op <| op_rd rfl (rd_fieldAddr rfl (fa_104_2 _)) <| gl_op (op_rd rfl (rd_load Tryz.underlying3 rfl rfl (by exact ld_blk 1 rfl rfl)) ?_)
    refine gl_op <| op_rd rfl (rd_fieldAddr rfl (fa_49_1 _)) <| gl_op (op_rd rfl (rd_load Tryz.underlying3 rfl rfl (by exact ld_blk 0 rfl rfl)) ?_)
    refine gl_op (op_rd rfl (rd_lss rfl rfl) (gk_dec (fun h26 => ?_) (fun h26 => ?_)))
    · refine gl_op <| op_rd rfl (rd_move rfl) <| gl_no rfl rfl rfl <| gl_no rfl rfl rfl <| gl_no rfl rfl rfl <| gl_no rfl rfl rfl <| gl_no rfl rfl rfl <| gl_op <| op_rd rfl (rd_pick_t rfl rfl) <| gl_op <| op_rd rfl (rd_move rfl) <| gl_no rfl rfl rfl <| gl_no rfl rfl rfl <| gl_no rfl rfl rfl <| gl_no rfl rfl rfl <| gl_no rfl rfl rfl <| gl_op <| op_rd rfl (rd_pick_t rfl rfl) <| gl_op <| op_rd rfl (rd_move rfl) <| gl_no rfl rfl rfl <| gl_no rfl rfl rfl <| gl_no rfl rfl rfl <| gl_op <| op_rd rfl (rd_pick_t rfl rfl) <| gl_op <| op_rd rfl (rd_move rfl) <| gl_no rfl rfl rfl <| gl_no rfl rfl rfl <| gl_no rfl rfl rfl <| gl_op <| op_rd rfl (rd_pick_t rfl rfl) <| gl_nil ?_
      refine gx_then <| gc_cond_t rfl <| gc_seq <| gc_region <| gl_op <| op_rd rfl (rd_assign rfl) <| gl_nil <| gx_then <| gc_ret <| gx_then_ret <| gx_ret1 (.inl rfl) Tryz.results52 rfl [] (by decide) ?_
      refine ⟨congrArg (Value.int .i64) (Eq.symm ?_), rfl⟩
      unfold ptErr
      rw [if_neg (by rw [hix]; decide)]
      rw [if_pos]
      unfold ptRange
      try simp only [withinB] at *
      simp only [Bool.not_eq_true', Bool.not_eq_false', Bool.and_eq_false_iff, Bool.and_eq_true, decide_eq_true_eq, decide_eq_false_iff_not] at *
      omega
    refine gl_op <| op_rd rfl (rd_move rfl) <| gl_yes rfl rfl <| op_rd rfl (rd_fieldAddr rfl (fa_104_3 _)) <| gl_yes rfl rfl (op_rd rfl (rd_load Tryz.underlying3 rfl rfl (by exact ld_blk 1 rfl rfl)) ?_)
    refine gl_yes rfl rfl <| op_rd rfl (rd_fieldAddr rfl (fa_49_2 _)) <| gl_yes rfl rfl (op_rd rfl (rd_load Tryz.underlying3 rfl rfl (by exact ld_blk 0 rfl rfl)) ?_)
    refine gl_yes rfl rfl (op_rd rfl (rd_gtr rfl rfl) (gk_dec (fun h32 => ?_) (fun h32 => ?_)))
    · refine gl_op <| op_rd rfl (rd_pick_f rfl rfl) <| gl_op <| op_rd rfl (rd_move rfl) <| gl_no rfl rfl rfl <| gl_no rfl rfl rfl <| gl_no rfl rfl rfl <| gl_no rfl rfl rfl <| gl_no rfl rfl rfl <| gl_op <| op_rd rfl (rd_pick_t rfl rfl) <| gl_op <| op_rd rfl (rd_move rfl) <| gl_no rfl rfl rfl <| gl_no rfl rfl rfl <| gl_no rfl rfl rfl <| gl_op <| op_rd rfl (rd_pick_t rfl rfl) <| gl_op <| op_rd rfl (rd_move rfl) <| gl_no rfl rfl rfl <| gl_no rfl rfl rfl <| gl_no rfl rfl rfl <| gl_op <| op_rd rfl (rd_pick_t rfl rfl) <| gl_nil <| gx_then <| gc_cond_t rfl <| gc_seq <| gc_region <| gl_op <| op_rd rfl (rd_assign rfl) <| gl_nil ?_
      refine gx_then <| gc_ret <| gx_then_ret <| gx_ret1 (.inl rfl) Tryz.results52 rfl [] (by decide) ?_
      refine ⟨congrArg (Value.int .i64) (Eq.symm ?_), rfl⟩
      unfold ptErr
      rw [if_neg (by rw [hix]; decide)]
      rw [if_pos]
      unfold ptRange
      try simp only [withinB] at *
      simp only [Bool.not_eq_true', Bool.not_eq_false', Bool.and_eq_false_iff, Bool.and_eq_true, decide_eq_true_eq, decide_eq_false_iff_not] at *
      omega
    refine gl_op <| op_rd rfl (rd_pick_f rfl rfl) <| gl_op <| op_rd rfl (rd_move rfl) <| gl_yes rfl rfl <| op_rd rfl (rd_fieldAddr rfl (fa_104_2 _)) <| gl_yes rfl rfl (op_rd rfl (rd_load Tryz.underlying3 rfl rfl (by exact ld_blk 1 rfl rfl)) ?_)
    refine gl_yes rfl rfl <| op_rd rfl (rd_fieldAddr rfl (fa_104_3 _)) <| gl_yes rfl rfl (op_rd rfl (rd_load Tryz.underlying3 rfl rfl (by exact ld_blk 1 rfl rfl)) ?_)
    refine gl_yes rfl rfl (op_rd rfl (rd_gtr rfl rfl) (gk_dec (fun h39 => ?_) (fun h39 => ?_)))
    · refine gl_op <| op_rd rfl (rd_pick_f rfl rfl) <| gl_op <| op_rd rfl (rd_move rfl) <| gl_no rfl rfl rfl <| gl_no rfl rfl rfl <| gl_no rfl rfl rfl <| gl_op <| op_rd rfl (rd_pick_t rfl rfl) <| gl_op <| op_rd rfl (rd_move rfl) <| gl_no rfl rfl rfl <| gl_no rfl rfl rfl <| gl_no rfl rfl rfl <| gl_op <| op_rd rfl (rd_pick_t rfl rfl) <| gl_nil <| gx_then <| gc_cond_t rfl <| gc_seq <| gc_region <| gl_op <| op_rd rfl (rd_assign rfl) <| gl_nil <| gx_then <| gc_ret <| gx_then_ret <| gx_ret1 (.inl rfl) Tryz.results52 rfl [] (by decide) ?_
      refine ⟨congrArg (Value.int .i64) (Eq.symm ?_), rfl⟩
      unfold ptErr
      rw [if_neg (by rw [hix]; decide)]
      rw [if_pos]
      unfold ptRange
      try simp only [withinB] at *
      simp only [Bool.not_eq_true', Bool.not_eq_false', Bool.and_eq_false_iff, Bool.and_eq_true, decide_eq_true_eq, decide_eq_false_iff_not] at *
      omega
    refine gl_op <| op_rd rfl (rd_pick_f rfl rfl) <| gl_op <| op_rd rfl (rd_move rfl) <| gl_yes rfl rfl <| op_rd rfl (rd_fieldAddr rfl (fa_104_1 _)) <| gl_yes rfl rfl (op_rd rfl (rd_load Tryz.underlying3 rfl rfl (by exact ld_blk 1 rfl rfl)) ?_)
    refine gl_yes rfl rfl (op_rd rfl (rd_lss rfl rfl) (gk_dec (fun h44 => ?_) (fun h44 => ?_)))
    · refine gl_op <| op_rd rfl (rd_pick_f rfl rfl) <| gl_op <| op_rd rfl (rd_move rfl) <| gl_no rfl rfl rfl <| gl_no rfl rfl rfl <| gl_no rfl rfl rfl <| gl_op <| op_rd rfl (rd_pick_t rfl rfl) <| gl_nil <| gx_then <| gc_cond_t rfl <| gc_seq <| gc_region <| gl_op <| op_rd rfl (rd_assign rfl) <| gl_nil <| gx_then <| gc_ret <| gx_then_ret <| gx_ret1 (.inl rfl) Tryz.results52 rfl [] (by decide) ?_
      refine ⟨congrArg (Value.int .i64) (Eq.symm ?_), rfl⟩
      unfold ptErr
      rw [if_neg (by rw [hix]; decide)]
      rw [if_pos]
      unfold ptRange
      try simp only [withinB] at *
      simp only [Bool.not_eq_true', Bool.not_eq_false', Bool.and_eq_false_iff, Bool.and_eq_true, decide_eq_true_eq, decide_eq_false_iff_not] at *
      omega
    refine gl_op <| op_rd rfl (rd_pick_f rfl rfl) <| gl_op <| op_rd rfl (rd_move rfl) <| gl_yes rfl rfl <| op_rd rfl (rd_fieldAddr rfl (fa_104_1 _)) <| gl_yes rfl rfl (op_rd rfl (rd_load Tryz.underlying3 rfl rfl (by exact ld_blk 1 rfl rfl)) ?_)
    refine gl_yes rfl rfl (op_rd rfl (rd_gtr rfl rfl) (gk_dec (fun h49 => ?_) (fun h49 => ?_)))
    · refine gl_op <| op_rd rfl (rd_pick_f rfl rfl) <| gl_nil <| gx_then <| gc_cond_t rfl <| gc_seq <| gc_region <| gl_op <| op_rd rfl (rd_assign rfl) <| gl_nil <| gx_then <| gc_ret <| gx_then_ret <| gx_ret1 (.inl rfl) Tryz.results52 rfl [] (by decide) ?_
      refine ⟨congrArg (Value.int .i64) (Eq.symm ?_), rfl⟩
      unfold ptErr
      rw [if_neg (by rw [hix]; decide)]
      rw [if_pos]
      unfold ptRange
      try simp only [withinB] at *
      simp only [Bool.not_eq_true', Bool.not_eq_false', Bool.and_eq_false_iff, Bool.and_eq_true, decide_eq_true_eq, decide_eq_false_iff_not] at *
      omega
    refine gl_op <| op_rd rfl (rd_pick_f rfl rfl) <| gl_nil <| gx_then <| gc_cond_f rfl <| gc_skip <| gx_then <| gc_seq <| gc_seq ?_
    have hrg : ptRange d p = true := by
      unfold ptRange
      simp only [Bool.and_eq_true, decide_eq_true_eq]
      omega
    refine gc_region <| gl_op <| op_rd rfl (rd_fieldAddr rfl (fa_104_2 _)) <| gl_op (op_rd rfl (rd_load Tryz.underlying3 rfl rfl (by exact ld_blk 1 rfl rfl)) ?_)
    refine gl_op <| op_rd rfl (rd_assign rfl) <| gl_nil <| gx_then <| gc_block <| gc_loopF (ι := Nat) [(3, _), (5, _)] [_, _, _, _] (fun j => p.lo + (j : Int) ≤ p.hi + 1 ∧ ∀ q : Nat, q < j → (decide (r.low ≤ p.lo + (q : Int) + p.shift) && decide (p.lo + (q : Int) + p.shift < r.low + r.count)) = true) (fun j Fr0 => ((8, .int .i64 (p.lo + (j : Int))) :: Fr0)) (fun j Fr0 => Fr0) (fun j => (p.hi + 1 - p.lo).toNat - j) 0 (⟨by omega, fun q hq => absurd hq (Nat.not_lt_zero q)⟩) ⟨by simp; rfl, rfl, rfl, trivial⟩ ⟨[0, 1, 2, 3], by decide, rfl⟩ ?_
    rintro j ⟨hj, hall⟩
    refine gc_seq <| gc_seq <| gc_region <| gl_op <| op_rd rfl (rd_move rfl) <| gl_op <| op_rd rfl (rd_fieldAddr rfl (fa_104_3 _)) <| gl_op (op_rd rfl (rd_load Tryz.underlying3 rfl rfl (by exact ld_blk 1 rfl rfl)) ?_)
    refine gl_op (op_rd rfl (rd_leq rfl rfl) (gk_dec (fun h56 => ?_) (fun h56 => ?_)))
    · refine gl_nil <| gx_then <| gc_cond_t rfl <| gc_skip <| gx_then <| gc_seq <| gc_block <| gc_seq <| gc_drawP [0, 1, 2, 3] true 11 rfl <| ga_first 0 (bm 12 1) rfl rfl rfl rfl (by kernel_rfl) (by kernel_rfl) ⟨[0, 1, 2, 3], by decide, rfl⟩ (qt_rd (rd_fieldAddr rfl (fa_27_1 _))) ?_
      refine ga_first 1 (bm 12 3) rfl rfl rfl rfl (by kernel_rfl) (by kernel_rfl) ⟨[0, 1, 2, 3], by decide, rfl⟩ (qt_rd (rd_load Tryz.underlying23 rfl rfl (by exact ld_blk 3 rfl rfl))) ?_
      refine ga_first 2 (bm 12 7) rfl rfl rfl rfl (by kernel_rfl) (by kernel_rfl) ⟨[0, 1, 2, 3], by decide, rfl⟩ (qt_rd (rd_fieldAddr rfl (fa_104_0 _))) ?_
      refine ga_first 3 (bm 12 15) rfl rfl rfl rfl (by kernel_rfl) (by kernel_rfl) ⟨[0, 1, 2, 3], by decide, rfl⟩ (qt_rd (rd_load Tryz.underlying3 rfl rfl (by exact ld_blk 1 rfl rfl))) ?_
      refine ga_first 4 (bm 12 31) rfl rfl rfl rfl (by kernel_rfl) (by kernel_rfl) ⟨[0, 1, 2, 3], by decide, rfl⟩ (qt_rd (rd_indexOld hS.r Tryz.underlying23 ty_53 rfl rfl (by omega) (by omega))) ?_
      refine ga_first 5 (bm 12 63) rfl rfl rfl rfl (by kernel_rfl) (by kernel_rfl) ⟨[0, 1, 2, 3], by decide, rfl⟩ (qt_rd (rd_loadAgg Tryz.underlying53 rfl ty_53 rfl (cs_sl hS.r (flat_drop_get Rk.cells 6 (fun _ => rfl) hr)) rfl)) ?_
      refine ga_first 6 (bm 12 127) rfl rfl rfl rfl (by kernel_rfl) (by kernel_rfl) ⟨[0, 1, 2, 3], by decide, rfl⟩ (qt_rd (rd_move rfl)) ?_
      refine ga_first 7 (bm 12 255) rfl rfl rfl rfl (by kernel_rfl) (by kernel_rfl) ⟨[0, 1, 2, 3], by decide, rfl⟩ (qt_rd (rd_fieldAddr rfl (fa_104_1 _))) ?_
      refine ga_first 8 (bm 12 511) rfl rfl rfl rfl (by kernel_rfl) (by kernel_rfl) ⟨[0, 1, 2, 3], by decide, rfl⟩ (qt_rd (rd_load Tryz.underlying3 rfl rfl (by exact ld_blk 1 rfl rfl))) ?_
      refine ga_first 9 (bm 12 1023) rfl rfl rfl rfl (by kernel_rfl) (by kernel_rfl) ⟨[0, 1, 2, 3], by decide, rfl⟩ (qt_rd (rd_add rfl rfl (by omega) (by omega))) ?_
      simp only [Rk.cells]
      refine ga_first 10 (bm 12 2047) rfl rfl rfl rfl (by kernel_rfl) (by kernel_rfl) ⟨[0, 1, 2, 3], by decide, rfl⟩ (qt_call (vf := []) (vc := []) rfl rfl Tryz.call79 (fun w1 ho => has_ok r _ (by omega) (by omega) (by omega) (by omega) w1) (by rintro _ _ ⟨h, _⟩; exact h)) ?_
      refine gk_bool (fun hh => ?_) (fun hh => ?_)
      · refine ga_first 11 (bm 12 4095) rfl rfl rfl rfl (by kernel_rfl) (by kernel_rfl) ⟨[0, 1, 2, 3], by decide, rfl⟩ (qt_rd (rd_not rfl)) ?_
        refine ga_end (by kernel_rfl) (.inr ⟨[0, 1, 2, 3], by decide, rfl⟩) ?_
        refine gx_then <| gc_cond_f rfl <| gc_skip <| gx_block <| gx_then <| gc_region <| gl_op <| op_rd rfl (rd_move rfl) <| gl_op (op_rd rfl (rd_add rfl rfl (by omega) (by omega)) ?_)
        refine gl_op <| op_rd rfl (rd_assign rfl) <| gl_nil <| gx_then ?_
        exact gx_cut (j + 1) ⟨⟨by omega, fun q hqq => by
          rcases Nat.lt_or_eq_of_le (Nat.le_of_lt_succ hqq) with h | rfl
          · exact hall q h
          · exact hh⟩, by omega⟩ ⟨(congrArg (fun z => some (Value.int .i64 z)) (show p.lo + (j : Int) + 1 = p.lo + ((j + 1 : Nat) : Int) by omega)), rfl, rfl, trivial⟩ ⟨[0, 1, 2, 3], by decide, rfl⟩
      refine ga_first 11 (bm 12 4095) rfl rfl rfl rfl (by kernel_rfl) (by kernel_rfl) ⟨[0, 1, 2, 3], by decide, rfl⟩ (qt_rd (rd_not rfl)) ?_
      refine ga_end (by kernel_rfl) (.inr ⟨[0, 1, 2, 3], by decide, rfl⟩) ?_
      refine gx_then <| gc_cond_t rfl <| gc_seq <| gc_region <| gl_op <| op_rd rfl (rd_assign rfl) <| gl_nil <| gx_then <| gc_ret <| gx_block_ret <| gx_then_ret <| gx_then_ret <| gx_block_ret <| gx_then_ret <| gx_ret1 (.inl rfl) Tryz.results52 rfl [] (by decide) ?_
      refine ⟨congrArg (Value.int .i64) (Eq.symm ?_), rfl⟩
      unfold ptErr
      rw [if_neg (by rw [hix]; decide)]
      rw [if_neg (by rw [hrg]; decide), hrd]
      rw [if_pos]
      unfold ptHas
      simp only [Bool.and_eq_false_iff, decide_eq_false_iff_not] at hh ⊢
      omega
    refine gl_nil <| gx_then <| gc_cond_f rfl <| gc_exit <| gx_then_exit <| gx_then_exit <| gx_block_exit <| gx_then <| gc_seq <| gc_region <| gl_op <| op_rd rfl (rd_assign rfl) <| gl_nil <| gx_then <| gc_ret <| gx_ret1 (.inl rfl) Tryz.results52 rfl [] (by decide) ?_
    refine ⟨congrArg (Value.int .i64) (Eq.symm ?_), rfl⟩
    unfold ptErr
    rw [if_neg (by rw [hix]; decide)]
    rw [if_neg (by rw [hrg]; decide), hrd]
    rw [if_neg]
    rw [Bool.not_eq_false]
    unfold ptHas
    have h1 := hall 0 (by omega)
    have h2 := hall (p.hi - p.lo).toNat (by omega)
    simp only [Bool.and_eq_true, decide_eq_true_eq] at h1 h2 ⊢
    omega
  refine gl_op <| op_rd rfl (rd_not rfl) <| gl_nil <| gx_then <| gc_cond_t rfl <| gc_seq <| gc_region <| gl_op <| op_rd rfl (rd_assign rfl) <| gl_nil <| gx_then <| gc_ret <| gx_then_ret <| gx_ret1 (.inl rfl) Tryz.results52 rfl [] (by decide) ?_
  refine ⟨congrArg (Value.int .i64) (Eq.symm ?_), rfl⟩
  unfold ptErr
  rw [if_pos hix]
end Go.Proofs.YtbjijbbkfgcleaaGreatDoor
namespace Go.Proofs.YtbjijbbkfgcleaaGreatDoor
open Go.Gv
open Go.RowKit
open Go.Sn
open Sx
set_option maxRecDepth 100000 in
set_option maxHeartbeats 1000000 in
theorem rCheck_ok (s : Org) (hle : OrgLe s) (w0 : World) (hS : OrgIn s w0 []) : Sp Tryz.prog 32 [s.val] w0 [] (RV (.tuple #[(checkP s).1.val, .int .i64 (checkP s).2])) := by
  refine spec_enter Tryz.func32 rfl Tryz.ntmps32 rfl (Own.refl _) ?_
  simp only [argEnv]
  refine gc_seq <| gc_region <| gl_op (op_box rfl rfl rfl (fun b1 => ?_))
  refine gl_op (op_alloc ty_90 rfl rfl (fun b2 => ?_))
  refine gl_op <| op_rd rfl (rd_assign rfl) <| gl_nil <| gx_then <| gc_seq <| gc_seq <| gc_region <| gl_op <| op_rd rfl (rd_fieldAddr rfl (fa_27_0 _)) <| gl_op (op_rd rfl (rd_load Tryz.underlying22 rfl rfl (by exact ld_blk 1 rfl rfl)) ?_)
  refine gl_op <| op_rd rfl (rd_lenSlice Tryz.underlying22 rfl) <| gl_op (op_rd rfl (rd_gtr rfl rfl) (gk_dec (fun h17 => ?_) (fun h17 => ?_)))
  · refine gl_op <| op_rd rfl (rd_move rfl) <| gl_no rfl rfl rfl <| gl_no rfl rfl rfl <| gl_no rfl rfl rfl <| gl_no rfl rfl rfl <| gl_op <| op_rd rfl (rd_pick_t rfl rfl) <| gl_op <| op_rd rfl (rd_move rfl) <| gl_no rfl rfl rfl <| gl_no rfl rfl rfl <| gl_no rfl rfl rfl <| gl_no rfl rfl rfl <| gl_op <| op_rd rfl (rd_pick_t rfl rfl) <| gl_op <| op_rd rfl (rd_move rfl) <| gl_no rfl rfl rfl <| gl_no rfl rfl rfl <| gl_no rfl rfl rfl <| gl_no rfl rfl rfl <| gl_op <| op_rd rfl (rd_pick_t rfl rfl) <| gl_nil <| gx_then <| gc_cond_t rfl <| gc_seq <| gc_region <| gl_op (op_rd rfl (rd_build rfl (fun _ => bd_90_)) ?_)
    refine gl_op (op_storeAgg 0 ty_90 rfl rfl rfl rfl rfl rfl (by rfl) ?_)
    refine gl_op <| op_rd rfl (rd_assign rfl) <| gl_nil <| gx_then <| gc_ret <| gx_then_ret <| gx_retV2 (.inl rfl) Tryz.results32 (rv_agg Tryz.underlying90 rfl ty_90 rfl (by rfl) (cs_blk 0 (off := 0) (k := 3) rfl rfl)) (rv_tmp rfl) [] (by decide) ?_
    refine ⟨?_, rfl⟩
    have he : checkP s = (⟨0, 0, 0⟩, 3) := by
      unfold checkP
      rw [if_pos (by unfold longB; simp; omega)]
    rw [he]
    rfl
  refine gl_op <| op_rd rfl (rd_move rfl) <| gl_yes rfl rfl <| op_rd rfl (rd_fieldAddr rfl (fa_27_1 _)) <| gl_yes rfl rfl (op_rd rfl (rd_load Tryz.underlying23 rfl rfl (by exact ld_blk 1 rfl rfl)) ?_)
  refine gl_yes rfl rfl <| op_rd rfl (rd_lenSlice Tryz.underlying23 rfl) <| gl_yes rfl rfl (op_rd rfl (rd_gtr rfl rfl) (gk_dec (fun h22 => ?_) (fun h22 => ?_)))
  · refine gl_op <| op_rd rfl (rd_pick_f rfl rfl) <| gl_op <| op_rd rfl (rd_move rfl) <| gl_no rfl rfl rfl <| gl_no rfl rfl rfl <| gl_no rfl rfl rfl <| gl_no rfl rfl rfl <| gl_op <| op_rd rfl (rd_pick_t rfl rfl) <| gl_op <| op_rd rfl (rd_move rfl) <| gl_no rfl rfl rfl <| gl_no rfl rfl rfl <| gl_no rfl rfl rfl <| gl_no rfl rfl rfl <| gl_op <| op_rd rfl (rd_pick_t rfl rfl) <| gl_nil <| gx_then <| gc_cond_t rfl <| gc_seq <| gc_region <| gl_op (op_rd rfl (rd_build rfl (fun _ => bd_90_)) ?_)
    refine gl_op (op_storeAgg 0 ty_90 rfl rfl rfl rfl rfl rfl (by rfl) ?_)
    refine gl_op <| op_rd rfl (rd_assign rfl) <| gl_nil <| gx_then <| gc_ret <| gx_then_ret <| gx_retV2 (.inl rfl) Tryz.results32 (rv_agg Tryz.underlying90 rfl ty_90 rfl (by rfl) (cs_blk 0 (off := 0) (k := 3) rfl rfl)) (rv_tmp rfl) [] (by decide) ?_
    refine ⟨?_, rfl⟩
    have he : checkP s = (⟨0, 0, 0⟩, 3) := by
      unfold checkP
      rw [if_pos (by unfold longB; simp; omega)]
    rw [he]
    rfl
  refine gl_op <| op_rd rfl (rd_pick_f rfl rfl) <| gl_op <| op_rd rfl (rd_move rfl) <| gl_yes rfl rfl <| op_rd rfl (rd_fieldAddr rfl (fa_27_2 _)) <| gl_yes rfl rfl (op_rd rfl (rd_load Tryz.underlying24 rfl rfl (by exact ld_blk 1 rfl rfl)) ?_)
  refine gl_yes rfl rfl <| op_rd rfl (rd_lenSlice Tryz.underlying24 rfl) <| gl_yes rfl rfl (op_rd rfl (rd_gtr rfl rfl) (gk_dec (fun h28 => ?_) (fun h28 => ?_)))
  · refine gl_op <| op_rd rfl (rd_pick_f rfl rfl) <| gl_op <| op_rd rfl (rd_move rfl) <| gl_no rfl rfl rfl <| gl_no rfl rfl rfl <| gl_no rfl rfl rfl <| gl_no rfl rfl rfl <| gl_op <| op_rd rfl (rd_pick_t rfl rfl) <| gl_nil <| gx_then <| gc_cond_t rfl <| gc_seq <| gc_region <| gl_op (op_rd rfl (rd_build rfl (fun _ => bd_90_)) ?_)
    refine gl_op (op_storeAgg 0 ty_90 rfl rfl rfl rfl rfl rfl (by rfl) ?_)
    refine gl_op <| op_rd rfl (rd_assign rfl) <| gl_nil <| gx_then <| gc_ret <| gx_then_ret <| gx_retV2 (.inl rfl) Tryz.results32 (rv_agg Tryz.underlying90 rfl ty_90 rfl (by rfl) (cs_blk 0 (off := 0) (k := 3) rfl rfl)) (rv_tmp rfl) [] (by decide) ?_
    refine ⟨?_, rfl⟩
    have he : checkP s = (⟨0, 0, 0⟩, 3) := by
      unfold checkP
      rw [if_pos (by unfold longB; simp; omega)]
    rw [he]
    rfl
  refine gl_op <| op_rd rfl (rd_pick_f rfl rfl) <| gl_op <| op_rd rfl (rd_move rfl) <| gl_yes rfl rfl <| op_rd rfl (rd_fieldAddr rfl (fa_27_3 _)) <| gl_yes rfl rfl (op_rd rfl (rd_load Tryz.underlying25 rfl rfl (by exact ld_blk 1 rfl rfl)) ?_)
  refine gl_yes rfl rfl <| op_rd rfl (rd_lenSlice Tryz.underlying25 rfl) <| gl_yes rfl rfl (op_rd rfl (rd_gtr rfl rfl) (gk_dec (fun h34 => ?_) (fun h34 => ?_)))
  · refine gl_op <| op_rd rfl (rd_pick_f rfl rfl) <| gl_nil <| gx_then <| gc_cond_t rfl <| gc_seq <| gc_region <| gl_op (op_rd rfl (rd_build rfl (fun _ => bd_90_)) ?_)
    refine gl_op (op_storeAgg 0 ty_90 rfl rfl rfl rfl rfl rfl (by rfl) ?_)
    refine gl_op <| op_rd rfl (rd_assign rfl) <| gl_nil <| gx_then <| gc_ret <| gx_then_ret <| gx_retV2 (.inl rfl) Tryz.results32 (rv_agg Tryz.underlying90 rfl ty_90 rfl (by rfl) (cs_blk 0 (off := 0) (k := 3) rfl rfl)) (rv_tmp rfl) [] (by decide) ?_
    refine ⟨?_, rfl⟩
    have he : checkP s = (⟨0, 0, 0⟩, 3) := by
      unfold checkP
      rw [if_pos (by unfold longB; simp; omega)]
    rw [he]
    rfl
  refine gl_op <| op_rd rfl (rd_pick_f rfl rfl) <| gl_nil <| gx_then <| gc_cond_f rfl <| gc_skip <| gx_then <| gc_seq <| gc_seq ?_
  have hlong : longB s = false := by
    unfold longB; simp; omega
  have hln : s.ds.length ≤ 6 ∧ s.rs.length ≤ 40 ∧ s.ss.length ≤ 80 ∧ s.cs.length ≤ 24 := by omega
  refine gc_region <| gl_op <| op_rd rfl (rd_assign rfl) <| gl_nil <| gx_then <| gc_block <| gc_loopF (ι := Nat) [(1, _), (2, _)] [_, _] (fun k => k ≤ s.ds.length ∧ ∀ q, q < k → dvErr s.ds q = 0) (fun k Fr0 => ((4, natV k) :: Fr0)) (fun k Fr0 => Fr0) (fun k => s.ds.length - k) 0 (⟨Nat.zero_le _, fun q hq => absurd hq (Nat.not_lt_zero q)⟩) ⟨rfl, rfl, rfl, trivial⟩ ⟨[0, 1], by decide, rfl⟩ ?_
  rintro k ⟨hkk, hall⟩
  refine gc_seq <| gc_seq <| gc_region <| gl_op <| op_rd rfl (rd_move rfl) <| gl_op <| op_rd rfl (rd_fieldAddr rfl (fa_27_0 _)) <| gl_op (op_rd rfl (rd_load Tryz.underlying22 rfl rfl (by exact ld_blk 1 rfl rfl)) ?_)
  refine gl_op <| op_rd rfl (rd_lenSlice Tryz.underlying22 rfl) <| gl_op (op_rd rfl (rd_lss rfl rfl) (gk_dec (fun h41 => ?_) (fun h41 => ?_)))
  · refine gl_nil <| gx_then <| gc_cond_t rfl <| gc_skip <| gx_then <| gc_seq <| gc_block <| gc_seq <| gc_region <| gl_op (op_rd rfl (rd_loadAgg Tryz.underlying27 rfl ty_27 rfl (by exact cs_blk 1 (off := 0) (k := 4) rfl rfl) rfl) ?_)
    refine gl_op <| op_rd rfl (rd_move rfl) <| gl_op (op_call rfl (vf := []) (vc := []) rfl rfl Tryz.call49 (fun w1 ho => rdivision_ok s hle w1 (hS.at ho) k (by omega)) ?_)
    rintro _ _ ⟨rfl, rfl⟩
    refine gl_op <| op_rd rfl (rd_assign rfl) <| gl_nil <| gx_then <| gc_seq <| gc_region <| gl_op <| op_rd rfl (rd_move rfl) <| gl_op (op_rd rfl (rd_neq rfl rfl) (gk_dec (fun h48 => ?_) (fun h48 => ?_)))
    · refine gl_nil <| gx_then <| gc_cond_t rfl <| gc_seq <| gc_region <| gl_op <| op_rd rfl (rd_move rfl) <| gl_op (op_rd rfl (rd_build rfl (fun _ => bd_90_0_1 _ _)) ?_)
      refine gl_op <| op_rd rfl (rd_move rfl) <| gl_op (op_storeAgg 0 ty_90 rfl rfl rfl rfl rfl rfl (by rfl) ?_)
      refine gl_op <| op_rd rfl (rd_assign rfl) <| gl_nil <| gx_then <| gc_ret <| gx_block_ret <| gx_then_ret <| gx_then_ret <| gx_block_ret <| gx_then_ret <| gx_retV2 (.inl rfl) Tryz.results32 (rv_agg Tryz.underlying90 rfl ty_90 rfl (by rfl) (cs_blk 0 (off := 0) (k := 3) rfl rfl)) (rv_tmp rfl) [] (by decide) ?_
      refine ⟨?_, rfl⟩
      have hX : firstO (fun i => errO (dvErr s.ds i)) s.ds.length 0 = some (k, 0, dvErr s.ds k) := firstO_stop _ _ _ 0 k (Nat.zero_le _) (by omega) (fun j _ hj => by show errO _ = none; unfold errO; rw [if_pos (hall j hj)]) (by show errO _ = _; unfold errO; rw [if_neg (by omega)])
      have he : checkP s = (⟨1, k, 0⟩, dvErr s.ds k) := by
        unfold checkP
        rw [if_neg (by rw [hlong]; decide), hX]
      rw [he]
      rfl
    refine gl_nil <| gx_then <| gc_cond_f rfl <| gc_skip <| gx_block <| gx_then <| gc_region <| gl_op <| op_rd rfl (rd_move rfl) <| gl_op (op_rd rfl (by exact rd_addN (b := 1) rfl rfl (by omega)) ?_)
    refine gl_op <| op_rd rfl (rd_assign rfl) <| gl_nil <| gx_then ?_
    exact gx_cut (k + 1) ⟨⟨by omega, fun q hq => by
      rcases Nat.lt_or_eq_of_le (Nat.le_of_lt_succ hq) with h | rfl
      · exact hall q h
      · omega⟩, by omega⟩ ⟨rfl, rfl, rfl, trivial⟩ ⟨[0, 1], by decide, rfl⟩
  refine gl_nil <| gx_then <| gc_cond_f rfl <| gc_exit <| gx_then_exit <| gx_then_exit <| gx_block_exit <| gx_then <| gc_seq <| gc_seq ?_
  have hD : firstO (fun i => errO (dvErr s.ds i)) s.ds.length 0 = none := firstO_none _ _ 0 (fun j _ hj => by show errO _ = none; unfold errO; rw [if_pos (hall j (by omega))])
  refine gc_region <| gl_op <| op_rd rfl (rd_assign rfl) <| gl_nil <| gx_then <| gc_block <| gc_loopF (ι := Nat) [(1, _), (2, _)] [_, _] (fun k1 => k1 ≤ s.rs.length ∧ ∀ q, q < k1 → rkErr s.rs q = 0) (fun k1 Fr0 => ((6, natV k1) :: Fr0)) (fun k1 Fr0 => Fr0) (fun k1 => s.rs.length - k1) 0 (⟨Nat.zero_le _, fun q hq => absurd hq (Nat.not_lt_zero q)⟩) ⟨rfl, rfl, rfl, trivial⟩ ⟨[0, 1], by decide, rfl⟩ ?_
  rintro k1 ⟨hkk1, hall1⟩
  refine gc_seq <| gc_seq <| gc_region <| gl_op <| op_rd rfl (rd_move rfl) <| gl_op <| op_rd rfl (rd_fieldAddr rfl (fa_27_1 _)) <| gl_op (op_rd rfl (rd_load Tryz.underlying23 rfl rfl (by exact ld_blk 1 rfl rfl)) ?_)
  refine gl_op <| op_rd rfl (rd_lenSlice Tryz.underlying23 rfl) <| gl_op (op_rd rfl (rd_lss rfl rfl) (gk_dec (fun h56 => ?_) (fun h56 => ?_)))
  · refine gl_nil <| gx_then <| gc_cond_t rfl <| gc_skip <| gx_then <| gc_seq <| gc_block <| gc_seq <| gc_region <| gl_op (op_rd rfl (rd_loadAgg Tryz.underlying27 rfl ty_27 rfl (by exact cs_blk 1 (off := 0) (k := 4) rfl rfl) rfl) ?_)
    refine gl_op <| op_rd rfl (rd_move rfl) <| gl_op (op_call rfl (vf := []) (vc := []) rfl rfl Tryz.call50 (fun w1 ho => rrank_ok s hle w1 (hS.at ho) k1 (by omega)) ?_)
    rintro _ _ ⟨rfl, rfl⟩
    refine gl_op <| op_rd rfl (rd_assign rfl) <| gl_nil <| gx_then <| gc_seq <| gc_region <| gl_op <| op_rd rfl (rd_move rfl) <| gl_op (op_rd rfl (rd_neq rfl rfl) (gk_dec (fun h63 => ?_) (fun h63 => ?_)))
    · refine gl_nil <| gx_then <| gc_cond_t rfl <| gc_seq <| gc_region <| gl_op <| op_rd rfl (rd_move rfl) <| gl_op (op_rd rfl (rd_build rfl (fun _ => bd_90_0_1 _ _)) ?_)
      refine gl_op <| op_rd rfl (rd_move rfl) <| gl_op (op_storeAgg 0 ty_90 rfl rfl rfl rfl rfl rfl (by rfl) ?_)
      refine gl_op <| op_rd rfl (rd_assign rfl) <| gl_nil <| gx_then <| gc_ret <| gx_block_ret <| gx_then_ret <| gx_then_ret <| gx_block_ret <| gx_then_ret <| gx_retV2 (.inl rfl) Tryz.results32 (rv_agg Tryz.underlying90 rfl ty_90 rfl (by rfl) (cs_blk 0 (off := 0) (k := 3) rfl rfl)) (rv_tmp rfl) [] (by decide) ?_
      refine ⟨?_, rfl⟩
      have hX : firstO (fun i => errO (rkErr s.rs i)) s.rs.length 0 = some (k1, 0, rkErr s.rs k1) := firstO_stop _ _ _ 0 k1 (Nat.zero_le _) (by omega) (fun j _ hj => by show errO _ = none; unfold errO; rw [if_pos (hall1 j hj)]) (by show errO _ = _; unfold errO; rw [if_neg (by omega)])
      have he : checkP s = (⟨2, k1, 0⟩, rkErr s.rs k1) := by
        unfold checkP
        rw [if_neg (by rw [hlong]; decide), hD]
        simp only
        rw [hX]
      rw [he]
      rfl
    refine gl_nil <| gx_then <| gc_cond_f rfl <| gc_skip <| gx_block <| gx_then <| gc_region <| gl_op <| op_rd rfl (rd_move rfl) <| gl_op (op_rd rfl (by exact rd_addN (b := 1) rfl rfl (by omega)) ?_)
    refine gl_op <| op_rd rfl (rd_assign rfl) <| gl_nil <| gx_then ?_
    exact gx_cut (k1 + 1) ⟨⟨by omega, fun q hq => by
      rcases Nat.lt_or_eq_of_le (Nat.le_of_lt_succ hq) with h | rfl
      · exact hall1 q h
      · omega⟩, by omega⟩ ⟨rfl, rfl, rfl, trivial⟩ ⟨[0, 1], by decide, rfl⟩
  refine gl_nil <| gx_then <| gc_cond_f rfl <| gc_exit <| gx_then_exit <| gx_then_exit <| gx_block_exit <| gx_then <| gc_seq <| gc_seq ?_
  have hR : firstO (fun i => errO (rkErr s.rs i)) s.rs.length 0 = none := firstO_none _ _ 0 (fun j _ hj => by show errO _ = none; unfold errO; rw [if_pos (hall1 j (by omega))])
  refine gc_region <| gl_op <| op_rd rfl (rd_assign rfl) <| gl_nil <| gx_then <| gc_block <| gc_loopF (ι := Nat) [(1, _), (2, _)] [_, _] (fun k2 => k2 ≤ s.ss.length ∧ ∀ q, q < k2 → stO s q = none) (fun k2 Fr0 => ((8, natV k2) :: Fr0)) (fun k2 Fr0 => Fr0) (fun k2 => s.ss.length - k2) 0 (⟨Nat.zero_le _, fun q hq => absurd hq (Nat.not_lt_zero q)⟩) ⟨rfl, rfl, rfl, trivial⟩ ⟨[0, 1], by decide, rfl⟩ ?_
  rintro k2 ⟨hkk2, hall2⟩
  refine gc_seq <| gc_seq <| gc_region <| gl_op <| op_rd rfl (rd_move rfl) <| gl_op <| op_rd rfl (rd_fieldAddr rfl (fa_27_2 _)) <| gl_op (op_rd rfl (rd_load Tryz.underlying24 rfl rfl (by exact ld_blk 1 rfl rfl)) ?_)
  refine gl_op <| op_rd rfl (rd_lenSlice Tryz.underlying24 rfl) <| gl_op (op_rd rfl (rd_lss rfl rfl) (gk_dec (fun h71 => ?_) (fun h71 => ?_)))
  · obtain ⟨x, hx⟩ := get_some (show k2 < s.ss.length by omega)
    have hxd := getD_some (d := default) hx
    have hxm := List.mem_of_getElem? hx
    have hpl := hle.p x hxm
    refine gl_nil <| gx_then <| gc_cond_t rfl <| gc_skip <| gx_then <| gc_seq <| gc_block <| gc_seq <| gc_region <| gl_op (op_rd rfl (rd_loadAgg Tryz.underlying27 rfl ty_27 rfl (by exact cs_blk 1 (off := 0) (k := 4) rfl rfl) rfl) ?_)
    refine gl_op <| op_rd rfl (rd_move rfl) <| gl_op (op_call rfl (vf := []) (vc := []) rfl rfl Tryz.call51 (fun w1 ho => rstop_ok s hle w1 (hS.at ho) k2 (by omega)) ?_)
    rintro _ _ ⟨rfl, rfl⟩
    refine gl_op <| op_rd rfl (rd_assign rfl) <| gl_nil <| gx_then <| gc_seq <| gc_seq <| gc_region <| gl_op <| op_rd rfl (rd_move rfl) <| gl_op (op_rd rfl (rd_neq rfl rfl) (gk_dec (fun h78 => ?_) (fun h78 => ?_)))
    · refine gl_nil <| gx_then <| gc_cond_t rfl <| gc_seq <| gc_region <| gl_op <| op_rd rfl (rd_move rfl) <| gl_op (op_rd rfl (rd_build rfl (fun _ => bd_90_0_1 _ _)) ?_)
      refine gl_op <| op_rd rfl (rd_move rfl) <| gl_op (op_storeAgg 0 ty_90 rfl rfl rfl rfl rfl rfl (by rfl) ?_)
      refine gl_op <| op_rd rfl (rd_assign rfl) <| gl_nil <| gx_then <| gc_ret <| gx_then_ret <| gx_block_ret <| gx_then_ret <| gx_then_ret <| gx_block_ret <| gx_then_ret <| gx_retV2 (.inl rfl) Tryz.results32 (rv_agg Tryz.underlying90 rfl ty_90 rfl (by rfl) (cs_blk 0 (off := 0) (k := 3) rfl rfl)) (rv_tmp rfl) [] (by decide) ?_
      refine ⟨?_, rfl⟩
      have hst : stO s k2 = some (0, stErr s.ds.length s.ss k2) := by unfold stO; rw [if_pos (by omega)]
      have hX : firstO (stO s) s.ss.length 0 = some (k2, 0, stErr s.ds.length s.ss k2) := firstO_stop _ _ _ 0 k2 (Nat.zero_le _) (by omega) (fun j _ hj => hall2 j hj) (hst)
      have he : checkP s = (⟨3, k2, 0⟩, stErr s.ds.length s.ss k2) := by
        unfold checkP
        rw [if_neg (by rw [hlong]; decide), hD]
        simp only
        rw [hR]
        simp only
        rw [hX]
      rw [he]
      rfl
    refine gl_nil <| gx_then <| gc_cond_f rfl <| gc_skip <| gx_then <| gc_seq ?_
    have he0 : stErr s.ds.length s.ss k2 = 0 := by omega
    have hix := stErr_idx he0
    rw [hxd] at hix
    obtain ⟨d, hdx⟩ := get_some (show x.div.toNat < s.ds.length by omega)
    have hdd := getD_some (d := default) hdx
    have hg : PGood s x d := by
      have h3 := dvBad_no (dvErr_ok (hall x.div.toNat (by omega)))
      rw [hdd] at h3
      refine ⟨hln.2.1, by omega, by omega, fun r hr => ?_, hix.1, hdx⟩
      obtain ⟨q, hq, hqr⟩ := getD_of_mem default hr
      have h5 := rkBad_no (rkErr_ok (hall1 q (by omega)))
      rw [hqr] at h5
      omega
    refine gc_region <| gl_op <| op_rd rfl (rd_assign rfl) <| gl_nil <| gx_then <| gc_block <| gc_loopF (ι := Nat) [(1, _), (2, _), (8, _)] [_, _] (fun k3 => k3 ≤ x.ps.length ∧ ∀ q, q < k3 → ptErr s.rs d (x.ps.getD q default) = 0) (fun k3 Fr0 => ((10, natV k3) :: Fr0)) (fun k3 Fr0 => Fr0) (fun k3 => x.ps.length - k3) 0 (⟨Nat.zero_le _, fun q hq => absurd hq (Nat.not_lt_zero q)⟩) ⟨rfl, rfl, rfl, rfl, trivial⟩ ⟨[0, 1], by decide, rfl⟩ ?_
    rintro k3 ⟨hkk3, hall3⟩
    refine gc_seq <| gc_seq <| gc_region <| gl_op <| op_rd rfl (rd_move rfl) <| gl_op <| op_rd rfl (rd_fieldAddr rfl (fa_27_2 _)) <| gl_op (op_rd rfl (rd_load Tryz.underlying24 rfl rfl (by exact ld_blk 1 rfl rfl)) ?_)
    refine gl_op <| op_rd rfl (rd_move rfl) <| gl_op (op_rd rfl (rd_indexOld hS.t Tryz.underlying24 ty_56 rfl rfl (by omega) (by omega)) ?_)
    refine gl_op <| op_rd rfl (rd_fieldAddr rfl (fa_56_3 _)) <| gl_op (op_rd rfl (rd_load Tryz.underlying54 rfl rfl (ld_slf hS.t (get_flat St.cells 5 (fun _ => rfl) hx (j := 4) (by decide) rfl))) ?_)
    refine gl_op <| op_rd rfl (rd_lenSlice Tryz.underlying54 rfl) <| gl_op (op_rd rfl (rd_lss rfl rfl) (gk_dec (fun h90 => ?_) (fun h90 => ?_)))
    · obtain ⟨p, hp⟩ := get_some (show k3 < x.ps.length by omega)
      have hpd := getD_some (d := default) hp
      refine gl_nil <| gx_then <| gc_cond_t rfl <| gc_skip <| gx_then <| gc_seq <| gc_block <| gc_seq <| gc_drawP [0, 1] true 16 rfl <| ga_first 0 (bm 17 1) rfl rfl rfl rfl (by kernel_rfl) (by kernel_rfl) ⟨[0, 1], by decide, rfl⟩ (qt_rd (rd_loadAgg Tryz.underlying27 rfl ty_27 rfl (by exact cs_blk 1 (off := 0) (k := 4) rfl rfl) rfl)) ?_
      refine ga_first 1 (bm 17 3) rfl rfl rfl rfl (by kernel_rfl) (by kernel_rfl) ⟨[0, 1], by decide, rfl⟩ (qt_rd (rd_fieldAddr rfl (fa_27_2 _))) ?_
      refine ga_first 2 (bm 17 7) rfl rfl rfl rfl (by kernel_rfl) (by kernel_rfl) ⟨[0, 1], by decide, rfl⟩ (qt_rd (rd_load Tryz.underlying24 rfl rfl (by exact ld_blk 1 rfl rfl))) ?_
      refine ga_first 3 (bm 17 15) rfl rfl rfl rfl (by kernel_rfl) (by kernel_rfl) ⟨[0, 1], by decide, rfl⟩ (qt_rd (rd_move rfl)) ?_
      refine ga_first 4 (bm 17 31) rfl rfl rfl rfl (by kernel_rfl) (by kernel_rfl) ⟨[0, 1], by decide, rfl⟩ (qt_rd (rd_indexOld hS.t Tryz.underlying24 ty_56 rfl rfl (by omega) (by omega))) ?_
      refine ga_first 5 (bm 17 63) rfl rfl rfl rfl (by kernel_rfl) (by kernel_rfl) ⟨[0, 1], by decide, rfl⟩ (qt_rd (rd_loadAgg Tryz.underlying56 rfl ty_56 rfl (cs_slN hS.t (flat_drop_get St.cells 5 (fun _ => rfl) hx)) rfl)) ?_
      refine ga_first 6 (bm 17 127) rfl rfl rfl rfl (by kernel_rfl) (by kernel_rfl) ⟨[0, 1], by decide, rfl⟩ (qt_rd (rd_fieldAddr rfl (fa_27_2 _))) ?_
      refine ga_first 7 (bm 17 255) rfl rfl rfl rfl (by kernel_rfl) (by kernel_rfl) ⟨[0, 1], by decide, rfl⟩ (qt_rd (rd_load Tryz.underlying24 rfl rfl (by exact ld_blk 1 rfl rfl))) ?_
      refine ga_first 8 (bm 17 511) rfl rfl rfl rfl (by kernel_rfl) (by kernel_rfl) ⟨[0, 1], by decide, rfl⟩ (qt_rd (rd_move rfl)) ?_
      refine ga_first 9 (bm 17 1023) rfl rfl rfl rfl (by kernel_rfl) (by kernel_rfl) ⟨[0, 1], by decide, rfl⟩ (qt_rd (rd_indexOld hS.t Tryz.underlying24 ty_56 rfl rfl (by omega) (by omega))) ?_
      refine ga_first 10 (bm 17 2047) rfl rfl rfl rfl (by kernel_rfl) (by kernel_rfl) ⟨[0, 1], by decide, rfl⟩ (qt_rd (rd_fieldAddr rfl (fa_56_3 _))) ?_
      refine ga_first 11 (bm 17 4095) rfl rfl rfl rfl (by kernel_rfl) (by kernel_rfl) ⟨[0, 1], by decide, rfl⟩ (qt_rd (rd_load Tryz.underlying54 rfl rfl (ld_slf hS.t (get_flat St.cells 5 (fun _ => rfl) hx (j := 4) (by decide) rfl)))) ?_
      refine ga_first 12 (bm 17 8191) rfl rfl rfl rfl (by kernel_rfl) (by kernel_rfl) ⟨[0, 1], by decide, rfl⟩ (qt_rd (rd_move rfl)) ?_
      refine ga_first 13 (bm 17 16383) rfl rfl rfl rfl (by kernel_rfl) (by kernel_rfl) ⟨[0, 1], by decide, rfl⟩ (qt_rd (rd_indexOld (hS.p x hxm) Tryz.underlying54 ty_104 rfl rfl (by omega) (by omega))) ?_
      refine ga_first 14 (bm 17 32767) rfl rfl rfl rfl (by kernel_rfl) (by kernel_rfl) ⟨[0, 1], by decide, rfl⟩ (qt_rd (rd_loadAgg Tryz.underlying104 rfl ty_104 rfl (cs_slN (hS.p x hxm) (flat_drop_get Pt.cells 4 (fun _ => rfl) hp)) rfl)) ?_
      simp only [St.cells, Pt.cells]
      refine ga_first 15 (bm 17 65535) rfl rfl rfl rfl (by kernel_rfl) (by kernel_rfl) ⟨[0, 1], by decide, rfl⟩ (qt_call (vf := []) (vc := []) rfl rfl Tryz.call52 (fun w1 ho => rpart_ok s hle w1 (hS.at ho) x p d hg) (by rintro _ _ ⟨h, _⟩; exact h)) ?_
      refine ga_first 16 (bm 17 131071) rfl rfl rfl rfl (by kernel_rfl) (by kernel_rfl) ⟨[0, 1], by decide, rfl⟩ (qt_rd (rd_assign rfl)) ?_
      refine ga_end (by kernel_rfl) (.inr ⟨[0, 1], by decide, rfl⟩) ?_
      refine gx_then <| gc_seq <| gc_region <| gl_op <| op_rd rfl (rd_move rfl) <| gl_op (op_rd rfl (rd_neq rfl rfl) (gk_dec (fun h110 => ?_) (fun h110 => ?_)))
      · refine gl_nil <| gx_then <| gc_cond_t rfl <| gc_seq <| gc_region <| gl_op <| op_rd rfl (rd_move rfl) <| gl_op <| op_rd rfl (rd_move rfl) <| gl_op (op_rd rfl (by exact rd_addN (b := 1) rfl rfl (by omega)) ?_)
        refine gl_op (op_rd rfl (rd_build rfl (fun _ => bd_90_0_1_2 _ _ _)) ?_)
        refine gl_op <| op_rd rfl (rd_move rfl) <| gl_op (op_storeAgg 0 ty_90 rfl rfl rfl rfl rfl rfl (by rfl) ?_)
        refine gl_op <| op_rd rfl (rd_assign rfl) <| gl_nil <| gx_then <| gc_ret <| gx_block_ret <| gx_then_ret <| gx_then_ret <| gx_block_ret <| gx_block_ret <| gx_then_ret <| gx_then_ret <| gx_block_ret <| gx_then_ret <| gx_retV2 (.inl rfl) Tryz.results32 (rv_agg Tryz.underlying90 rfl ty_90 rfl (by rfl) (cs_blk 0 (off := 0) (k := 3) rfl rfl)) (rv_tmp rfl) [] (by decide) ?_
        refine ⟨?_, rfl⟩
        have hst : stO s k2 = some (k3 + 1, ptErr s.rs d p) := by
          unfold stO
          rw [if_neg (by omega), hxd, hdd, firstO_stop _ (ptErr s.rs d p) _ 0 k3 (Nat.zero_le _) (by omega) (fun j _ hj => by show (if ptErr s.rs d (x.ps.getD j default) = 0 then none else some _) = none; rw [if_pos (hall3 j (by omega))]) (by show (if ptErr s.rs d (x.ps.getD k3 default) = 0 then none else some _) = _; rw [hpd, if_neg (by omega)])]
        have hX : firstO (stO s) s.ss.length 0 = some (k2, k3 + 1, ptErr s.rs d p) := firstO_stop _ _ _ 0 k2 (Nat.zero_le _) (by omega) (fun j _ hj => hall2 j hj) (hst)
        have he : checkP s = (⟨3, k2, k3 + 1⟩, ptErr s.rs d p) := by
          unfold checkP
          rw [if_neg (by rw [hlong]; decide), hD]
          simp only
          rw [hR]
          simp only
          rw [hX]
        rw [he]
        rfl
      refine gl_nil <| gx_then <| gc_cond_f rfl <| gc_skip <| gx_block <| gx_then <| gc_region <| gl_op <| op_rd rfl (rd_move rfl) <| gl_op (op_rd rfl (by exact rd_addN (b := 1) rfl rfl (by omega)) ?_)
      refine gl_op <| op_rd rfl (rd_assign rfl) <| gl_nil <| gx_then ?_
      exact gx_cut (k3 + 1) ⟨⟨by omega, fun q hq => by
        rcases Nat.lt_or_eq_of_le (Nat.le_of_lt_succ hq) with h | rfl
        · exact hall3 q h
        · rw [hpd]; omega⟩, by omega⟩ ⟨rfl, rfl, rfl, rfl, trivial⟩ ⟨[0, 1], by decide, rfl⟩
    refine gl_nil <| gx_then <| gc_cond_f rfl <| gc_exit <| gx_then_exit <| gx_then_exit <| gx_block_exit <| gx_block <| gx_then ?_
    have hst : stO s k2 = none := by
      unfold stO
      rw [if_neg (by omega), hxd, hdd, firstO_none _ _ 0 (fun j _ hj => by show (if ptErr s.rs d (x.ps.getD j default) = 0 then none else some _) = none; rw [if_pos (hall3 j (by omega))])]
    refine gc_region <| gl_op <| op_rd rfl (rd_move rfl) <| gl_op (op_rd rfl (by exact rd_addN (b := 1) rfl rfl (by omega)) ?_)
    refine gl_op <| op_rd rfl (rd_assign rfl) <| gl_nil <| gx_then ?_
    exact gx_cut (k2 + 1) ⟨⟨by omega, fun q hq => by
      rcases Nat.lt_or_eq_of_le (Nat.le_of_lt_succ hq) with h | rfl
      · exact hall2 q h
      · exact hst⟩, by omega⟩ ⟨rfl, rfl, rfl, trivial⟩ ⟨[0, 1], by decide, rfl⟩
  refine gl_nil <| gx_then <| gc_cond_f rfl <| gc_exit <| gx_then_exit <| gx_then_exit <| gx_block_exit <| gx_then <| gc_seq <| gc_seq ?_
  have hT : firstO (stO s) s.ss.length 0 = none := firstO_none _ _ 0 (fun j _ hj => hall2 j (by omega))
  refine gc_region <| gl_op <| op_rd rfl (rd_assign rfl) <| gl_nil <| gx_then <| gc_block <| gc_loopF (ι := Nat) [(1, _), (2, _)] [_, _] (fun k4 => k4 ≤ s.cs.length ∧ ∀ q, q < k4 → cpErr s.ds.length s.cs q = 0) (fun k4 Fr0 => ((12, natV k4) :: Fr0)) (fun k4 Fr0 => Fr0) (fun k4 => s.cs.length - k4) 0 (⟨Nat.zero_le _, fun q hq => absurd hq (Nat.not_lt_zero q)⟩) ⟨rfl, rfl, rfl, trivial⟩ ⟨[0, 1], by decide, rfl⟩ ?_
  rintro k4 ⟨hkk4, hall4⟩
  refine gc_seq <| gc_seq <| gc_region <| gl_op <| op_rd rfl (rd_move rfl) <| gl_op <| op_rd rfl (rd_fieldAddr rfl (fa_27_3 _)) <| gl_op (op_rd rfl (rd_load Tryz.underlying25 rfl rfl (by exact ld_blk 1 rfl rfl)) ?_)
  refine gl_op <| op_rd rfl (rd_lenSlice Tryz.underlying25 rfl) <| gl_op (op_rd rfl (rd_lss rfl rfl) (gk_dec (fun h120 => ?_) (fun h120 => ?_)))
  · refine gl_nil <| gx_then <| gc_cond_t rfl <| gc_skip <| gx_then <| gc_seq <| gc_block <| gc_seq <| gc_region <| gl_op (op_rd rfl (rd_loadAgg Tryz.underlying27 rfl ty_27 rfl (by exact cs_blk 1 (off := 0) (k := 4) rfl rfl) rfl) ?_)
    refine gl_op <| op_rd rfl (rd_move rfl) <| gl_op (op_call rfl (vf := []) (vc := []) rfl rfl Tryz.call53 (fun w1 ho => rcoupler_ok s hle w1 (hS.at ho) k4 (by omega)) ?_)
    rintro _ _ ⟨rfl, rfl⟩
    refine gl_op <| op_rd rfl (rd_assign rfl) <| gl_nil <| gx_then <| gc_seq <| gc_region <| gl_op <| op_rd rfl (rd_move rfl) <| gl_op (op_rd rfl (rd_neq rfl rfl) (gk_dec (fun h127 => ?_) (fun h127 => ?_)))
    · refine gl_nil <| gx_then <| gc_cond_t rfl <| gc_seq <| gc_region <| gl_op <| op_rd rfl (rd_move rfl) <| gl_op (op_rd rfl (rd_build rfl (fun _ => bd_90_0_1 _ _)) ?_)
      refine gl_op <| op_rd rfl (rd_move rfl) <| gl_op (op_storeAgg 0 ty_90 rfl rfl rfl rfl rfl rfl (by rfl) ?_)
      refine gl_op <| op_rd rfl (rd_assign rfl) <| gl_nil <| gx_then <| gc_ret <| gx_block_ret <| gx_then_ret <| gx_then_ret <| gx_block_ret <| gx_then_ret <| gx_retV2 (.inl rfl) Tryz.results32 (rv_agg Tryz.underlying90 rfl ty_90 rfl (by rfl) (cs_blk 0 (off := 0) (k := 3) rfl rfl)) (rv_tmp rfl) [] (by decide) ?_
      refine ⟨?_, rfl⟩
      have hX : firstO (fun i => errO (cpErr s.ds.length s.cs i)) s.cs.length 0 = some (k4, 0, cpErr s.ds.length s.cs k4) := firstO_stop _ _ _ 0 k4 (Nat.zero_le _) (by omega) (fun j _ hj => by show errO _ = none; unfold errO; rw [if_pos (hall4 j hj)]) (by show errO _ = _; unfold errO; rw [if_neg (by omega)])
      have he : checkP s = (⟨4, k4, 0⟩, cpErr s.ds.length s.cs k4) := by
        unfold checkP
        rw [if_neg (by rw [hlong]; decide), hD]
        simp only
        rw [hR]
        simp only
        rw [hT]
        simp only
        rw [hX]
      rw [he]
      rfl
    refine gl_nil <| gx_then <| gc_cond_f rfl <| gc_skip <| gx_block <| gx_then <| gc_region <| gl_op <| op_rd rfl (rd_move rfl) <| gl_op (op_rd rfl (by exact rd_addN (b := 1) rfl rfl (by omega)) ?_)
    refine gl_op <| op_rd rfl (rd_assign rfl) <| gl_nil <| gx_then ?_
    exact gx_cut (k4 + 1) ⟨⟨by omega, fun q hq => by
      rcases Nat.lt_or_eq_of_le (Nat.le_of_lt_succ hq) with h | rfl
      · exact hall4 q h
      · omega⟩, by omega⟩ ⟨rfl, rfl, rfl, trivial⟩ ⟨[0, 1], by decide, rfl⟩
  refine gl_nil <| gx_then <| gc_cond_f rfl <| gc_exit <| gx_then_exit <| gx_then_exit <| gx_block_exit <| gx_then <| gc_seq <| gc_region <| gl_op (op_rd rfl (rd_build rfl (fun _ => bd_90_)) ?_)
  refine gl_op (op_storeAgg 0 ty_90 rfl rfl rfl rfl rfl rfl (by rfl) ?_)
  refine gl_op <| op_rd rfl (rd_assign rfl) <| gl_nil <| gx_then <| gc_ret <| gx_retV2 (.inl rfl) Tryz.results32 (rv_agg Tryz.underlying90 rfl ty_90 rfl (by rfl) (cs_blk 0 (off := 0) (k := 3) rfl rfl)) (rv_tmp rfl) [] (by decide) ?_
  refine ⟨?_, rfl⟩
  have hX : firstO (fun i => errO (cpErr s.ds.length s.cs i)) s.cs.length 0 = none := firstO_none _ _ 0 (fun j _ hj => by show errO _ = none; unfold errO; rw [if_pos (hall4 j (by omega))])
  have he : checkP s = (⟨0, 0, 0⟩, 0) := by
    unfold checkP
    rw [if_neg (by rw [hlong]; decide), hD]
    simp only
    rw [hR]
    simp only
    rw [hT]
    simp only
    rw [hX]
  rw [he]
  rfl
end Go.Proofs.YtbjijbbkfgcleaaGreatDoor
namespace Go.Proofs.YtbjijbbkfgcleaaGreatDoor
open Go.Gv
open Go.RowKit
open Go.Sn
open Sx
namespace Sx
theorem get_z {zs : List Int} {k : Nat} {z : Int} (h : zs[k]? = some z) : (zs.map intV)[k]? = some (intV z) := by rw [List.getElem?_map, h]; rfl
theorem riseAt_bad {l : List Int} {lo hi bad z : Int} {k : Nat} (hz : l[k]? = some z) (h : z < lo ∨ hi < z) : riseAt l lo hi bad k = bad := by
  unfold riseAt; rw [getD_some hz, if_pos h]
theorem riseAt_twice {l : List Int} {lo hi bad z y : Int} {k : Nat} (hz : l[k]? = some z) (hy : l[k - 1]? = some y) (h1 : lo ≤ z) (h2 : z ≤ hi) (hk : 0 < k) (h : z ≤ y) : riseAt l lo hi bad k = 8 := by
  unfold riseAt; rw [getD_some hz, getD_some hy, if_neg (by omega), if_pos ⟨hk, h⟩]
theorem riseAt_ok {l : List Int} {lo hi bad z : Int} {k : Nat} (hz : l[k]? = some z) (h1 : lo ≤ z) (h2 : z ≤ hi) (h : 0 < k → l.getD (k - 1) 0 < z) : riseAt l lo hi bad k = 0 := by
  unfold riseAt; rw [getD_some hz, if_neg (by omega), if_neg (by rintro ⟨h3, h4⟩; have := h h3; omega)]
theorem get_row {rs : List KR} {k : Nat} {r : KR} (h : rs[k]? = some r) : (rs.map KR.cell)[k]? = some r.cell := by rw [List.getElem?_map, h]; rfl
end Sx
open Sx
set_option maxRecDepth 100000 in
set_option maxHeartbeats 1000000 in
theorem rising_ok (l : List Int) (a : Option Addr) (cp : Nat) (lo hi bad : Int) (hl : l.length ≤ 140737488355328) (hbad : bad ≠ 0) (w0 : World) (hsl : OldSl w0 [] a l.length 1 (l.map intV)) : Sp Tryz.prog 41 [.slice a l.length cp, .int .i64 lo, .int .i64 hi, .int .i64 bad] w0 [] (RV (.int .i64 (riseP l lo hi bad))) := by
  refine spec_enter Tryz.func41 rfl Tryz.ntmps41 rfl (Own.refl _) ?_
  simp only [argEnv]
  refine gc_seq <| gc_region <| gl_op <| op_rd rfl (rd_assign rfl) <| gl_nil <| gx_then <| gc_seq <| gc_seq <| gc_region <| gl_op <| op_rd rfl (rd_move rfl) <| gl_op <| op_rd rfl (rd_lenSlice Tryz.underlying29 rfl) <| gl_op <| op_rd rfl (rd_move rfl) <| gl_nil <| gx_then <| gc_block <| gc_loopF (ι := Nat) [(0, _), (1, _), (2, _), (3, _), (11, _), (12, _)] [] (fun k => k ≤ l.length ∧ ∀ j, j < k → riseAt l lo hi bad j = 0) (fun k Fr0 => ((13, natV k) :: Fr0)) (fun k Fr0 => Fr0) (fun k => l.length - k) 0 (⟨Nat.zero_le _, fun j h => absurd h (Nat.not_lt_zero j)⟩) ⟨rfl, rfl, rfl, rfl, rfl, rfl, rfl, trivial⟩ ⟨[], by decide, rfl⟩ ?_
  rintro k ⟨hk, hall⟩
  refine gc_seq <| gc_region <| gl_op (op_rd rfl (rd_lss rfl rfl) (gk_dec (fun h14 => ?_) (fun h14 => ?_)))
  · obtain ⟨z, hz⟩ := get_some (show k < l.length by omega)
    refine gl_nil <| gx_then <| gc_seq <| gc_cond_t rfl <| gc_skip <| gx_then <| gc_seq <| gc_block <| gc_seq <| gc_region <| gl_op <| op_rd rfl (rd_move rfl) <| gl_op (op_rd rfl (rd_indexOld1 hsl Tryz.underlying29 ty_3 rfl rfl (by omega) (by omega)) ?_)
    refine gl_op <| op_rd rfl (rd_load Tryz.underlying3 rfl rfl (ld_slN hsl (get_z hz))) <| gl_op <| op_rd rfl (rd_assign rfl) <| gl_op <| op_rd rfl (rd_assign rfl) <| gl_nil <| gx_then <| gc_block <| gc_seq <| gc_region <| gl_op <| op_rd rfl (rd_move rfl) <| gl_op <| op_rd rfl (rd_move rfl) <| gl_op (op_rd rfl (rd_lss rfl rfl) (gk_dec (fun h21 => ?_) (fun h21 => ?_)))
    · refine gl_op <| op_rd rfl (rd_move rfl) <| gl_no rfl rfl rfl <| gl_no rfl rfl rfl <| gl_no rfl rfl rfl <| gl_op <| op_rd rfl (rd_pick_t rfl rfl) <| gl_op <| op_rd rfl (rd_assign rfl) <| gl_nil <| gx_then <| gc_cond_t rfl <| gc_seq <| gc_region <| gl_op <| op_rd rfl (rd_move rfl) <| gl_op <| op_rd rfl (rd_assign rfl) <| gl_nil <| gx_then <| gc_ret <| gx_block_ret <| gx_block_ret <| gx_then_ret <| gx_then_ret <| gx_block_ret <| gx_then_ret <| gx_ret1 (.inl rfl) Tryz.results41 rfl [] (by decide) ?_
      refine ⟨congrArg (Value.int .i64) (Eq.symm ?_), rfl⟩
      have he : riseAt l lo hi bad k = bad := riseAt_bad hz (by omega)
      exact (riseP_stop (by omega) hall (by rw [he]; exact hbad)).trans he
    refine gl_op <| op_rd rfl (rd_move rfl) <| gl_yes rfl rfl <| op_rd rfl (rd_move rfl) <| gl_yes rfl rfl <| op_rd rfl (rd_move rfl) <| gl_yes rfl rfl (op_rd rfl (rd_gtr rfl rfl) (gk_dec (fun h25 => ?_) (fun h25 => ?_)))
    · refine gl_op <| op_rd rfl (rd_pick_f rfl rfl) <| gl_op <| op_rd rfl (rd_assign rfl) <| gl_nil <| gx_then <| gc_cond_t rfl <| gc_seq <| gc_region <| gl_op <| op_rd rfl (rd_move rfl) <| gl_op <| op_rd rfl (rd_assign rfl) <| gl_nil <| gx_then <| gc_ret <| gx_block_ret <| gx_block_ret <| gx_then_ret <| gx_then_ret <| gx_block_ret <| gx_then_ret <| gx_ret1 (.inl rfl) Tryz.results41 rfl [] (by decide) ?_
      refine ⟨congrArg (Value.int .i64) (Eq.symm ?_), rfl⟩
      have he : riseAt l lo hi bad k = bad := riseAt_bad hz (by omega)
      exact (riseP_stop (by omega) hall (by rw [he]; exact hbad)).trans he
    refine gl_op <| op_rd rfl (rd_pick_f rfl rfl) <| gl_op <| op_rd rfl (rd_assign rfl) <| gl_nil <| gx_then <| gc_cond_f rfl <| gc_seq <| gc_region <| gl_op <| op_rd rfl (rd_move rfl) <| gl_op (op_rd rfl (rd_gtr rfl rfl) (gk_dec (fun h30 => ?_) (fun h30 => ?_)))
    · obtain ⟨y, hy⟩ := get_some (show k - 1 < l.length by omega)
      refine gl_op <| op_rd rfl (rd_move rfl) <| gl_yes rfl rfl <| op_rd rfl (rd_move rfl) <| gl_yes rfl rfl <| op_rd rfl (rd_move rfl) <| gl_yes rfl rfl <| op_rd rfl (rd_move rfl) <| gl_yes rfl rfl (op_rd rfl (by exact rd_subN (b := 1) rfl rfl (by omega) (by omega)) ?_)
      refine gl_yes rfl rfl (op_rd rfl (rd_indexOld1 hsl Tryz.underlying29 ty_3 rfl rfl (by omega) (by omega)) ?_)
      refine gl_yes rfl rfl <| op_rd rfl (rd_load Tryz.underlying3 rfl rfl (ld_slN hsl (get_z hy))) <| gl_yes rfl rfl (op_rd rfl (rd_leq rfl rfl) (gk_dec (fun h38 => ?_) (fun h38 => ?_)))
      · refine gl_op <| op_rd rfl (rd_pick_t rfl rfl) <| gl_op <| op_rd rfl (rd_assign rfl) <| gl_nil <| gx_then <| gc_cond_t rfl <| gc_seq <| gc_region <| gl_op <| op_rd rfl (rd_assign rfl) <| gl_nil <| gx_then <| gc_ret <| gx_block_ret <| gx_block_ret <| gx_then_ret <| gx_then_ret <| gx_block_ret <| gx_then_ret <| gx_ret1 (.inl rfl) Tryz.results41 rfl [] (by decide) ?_
        refine ⟨congrArg (Value.int .i64) (Eq.symm ?_), rfl⟩
        have he : riseAt l lo hi bad k = 8 := riseAt_twice hz hy (by omega) (by omega) (by omega) (by omega)
        exact (riseP_stop (by omega) hall (by rw [he]; decide)).trans he
      refine gl_op <| op_rd rfl (rd_pick_t rfl rfl) <| gl_op <| op_rd rfl (rd_assign rfl) <| gl_nil <| gx_then <| gc_cond_f rfl <| gc_skip <| gx_block <| gx_block <| gx_then <| gc_region <| gl_op (op_rd rfl (by exact rd_addN (b := 1) rfl rfl (by omega)) ?_)
      refine gl_op <| op_rd rfl (rd_move rfl) <| gl_nil <| gx_then ?_
      exact gx_cut (k + 1) ⟨⟨by omega, fun j hj => by
        rcases Nat.lt_or_eq_of_le (Nat.le_of_lt_succ hj) with h | rfl
        · exact hall j h
        · exact riseAt_ok hz (by omega) (by omega) (fun _ => by rw [getD_some hy]; omega)⟩, by omega⟩ ⟨rfl, rfl, rfl, rfl, rfl, rfl, rfl, trivial⟩ ⟨[], by decide, rfl⟩
    refine gl_op <| op_rd rfl (rd_move rfl) <| gl_no rfl rfl rfl <| gl_no rfl rfl rfl <| gl_no rfl rfl rfl <| gl_no rfl rfl rfl <| gl_no rfl rfl rfl <| gl_no rfl rfl rfl <| gl_no rfl rfl rfl <| gl_op <| op_rd rfl (rd_pick_f rfl rfl) <| gl_op <| op_rd rfl (rd_assign rfl) <| gl_nil <| gx_then <| gc_cond_f rfl <| gc_skip <| gx_block <| gx_block <| gx_then <| gc_region <| gl_op (op_rd rfl (by exact rd_addN (b := 1) rfl rfl (by omega)) ?_)
    refine gl_op <| op_rd rfl (rd_move rfl) <| gl_nil <| gx_then ?_
    exact gx_cut (k + 1) ⟨⟨by omega, fun j hj => by
      rcases Nat.lt_or_eq_of_le (Nat.le_of_lt_succ hj) with h | rfl
      · exact hall j h
      · exact riseAt_ok hz (by omega) (by omega) (fun h => by omega)⟩, by omega⟩ ⟨rfl, rfl, rfl, rfl, rfl, rfl, rfl, trivial⟩ ⟨[], by decide, rfl⟩
  refine gl_nil <| gx_then <| gc_seq <| gc_cond_f rfl <| gc_exit <| gx_then_exit <| gx_then_exit <| gx_block_exit <| gx_then <| gc_seq <| gc_region <| gl_op <| op_rd rfl (rd_assign rfl) <| gl_nil <| gx_then <| gc_ret <| gx_ret1 (.inl rfl) Tryz.results41 rfl [] (by decide) ?_
  refine ⟨congrArg (Value.int .i64) (Eq.symm ?_), rfl⟩
  exact riseP_none (fun j hj => hall j (by omega))
set_option maxRecDepth 100000 in
set_option maxHeartbeats 1000000 in
theorem rrising_ok (l : List Int) (a : Option Addr) (cp : Nat) (lo hi bad : Int) (hl : l.length ≤ 140737488355328) (hbad : bad ≠ 0) (w0 : World) (hsl : OldSl w0 [] a l.length 1 (l.map intV)) : Sp Tryz.prog 43 [.slice a l.length cp, .int .i64 lo, .int .i64 hi, .int .i64 bad] w0 [] (RV (.int .i64 (riseP l lo hi bad))) := by
  refine spec_enter Tryz.func43 rfl Tryz.ntmps43 rfl (Own.refl _) ?_
  simp only [argEnv]
  refine gc_seq <| gc_region <| gl_op <| op_rd rfl (rd_assign rfl) <| gl_nil <| gx_then <| gc_seq <| gc_seq <| gc_region <| gl_op <| op_rd rfl (rd_assign rfl) <| gl_nil <| gx_then <| gc_block <| gc_loopF (ι := Nat) [(0, _), (1, _), (2, _), (3, _)] [] (fun k => k ≤ l.length ∧ ∀ j, j < k → riseAt l lo hi bad j = 0) (fun k Fr0 => ((9, natV k) :: Fr0)) (fun k Fr0 => Fr0) (fun k => l.length - k) 0 (⟨Nat.zero_le _, fun j h => absurd h (Nat.not_lt_zero j)⟩) ⟨rfl, rfl, rfl, rfl, rfl, trivial⟩ ⟨[], by decide, rfl⟩ ?_
  rintro k ⟨hk, hall⟩
  refine gc_seq <| gc_seq <| gc_region <| gl_op <| op_rd rfl (rd_move rfl) <| gl_op <| op_rd rfl (rd_move rfl) <| gl_op <| op_rd rfl (rd_lenSlice Tryz.underlying29 rfl) <| gl_op (op_rd rfl (rd_lss rfl rfl) (gk_dec (fun h14 => ?_) (fun h14 => ?_)))
  · obtain ⟨z, hz⟩ := get_some (show k < l.length by omega)
    refine gl_nil <| gx_then <| gc_cond_t rfl <| gc_skip <| gx_then <| gc_seq <| gc_block <| gc_seq <| gc_seq <| gc_region <| gl_op <| op_rd rfl (rd_move rfl) <| gl_op <| op_rd rfl (rd_move rfl) <| gl_op (op_rd rfl (rd_indexOld1 hsl Tryz.underlying29 ty_3 rfl rfl (by omega) (by omega)) ?_)
    refine gl_op <| op_rd rfl (rd_load Tryz.underlying3 rfl rfl (ld_slN hsl (get_z hz))) <| gl_op <| op_rd rfl (rd_move rfl) <| gl_op (op_rd rfl (rd_lss rfl rfl) (gk_dec (fun h21 => ?_) (fun h21 => ?_)))
    · refine gl_op <| op_rd rfl (rd_move rfl) <| gl_no rfl rfl rfl <| gl_no rfl rfl rfl <| gl_no rfl rfl rfl <| gl_no rfl rfl rfl <| gl_no rfl rfl rfl <| gl_no rfl rfl rfl <| gl_op <| op_rd rfl (rd_pick_t rfl rfl) <| gl_nil <| gx_then <| gc_cond_t rfl <| gc_seq <| gc_region <| gl_op <| op_rd rfl (rd_move rfl) <| gl_op <| op_rd rfl (rd_assign rfl) <| gl_nil <| gx_then <| gc_ret <| gx_then_ret <| gx_block_ret <| gx_then_ret <| gx_then_ret <| gx_block_ret <| gx_then_ret <| gx_ret1 (.inl rfl) Tryz.results43 rfl [] (by decide) ?_
      refine ⟨congrArg (Value.int .i64) (Eq.symm ?_), rfl⟩
      have he : riseAt l lo hi bad k = bad := riseAt_bad hz (by omega)
      exact (riseP_stop (by omega) hall (by rw [he]; exact hbad)).trans he
    refine gl_op <| op_rd rfl (rd_move rfl) <| gl_yes rfl rfl <| op_rd rfl (rd_move rfl) <| gl_yes rfl rfl <| op_rd rfl (rd_move rfl) <| gl_yes rfl rfl (op_rd rfl (rd_indexOld1 hsl Tryz.underlying29 ty_3 rfl rfl (by omega) (by omega)) ?_)
    refine gl_yes rfl rfl <| op_rd rfl (rd_load Tryz.underlying3 rfl rfl (ld_slN hsl (get_z hz))) <| gl_yes rfl rfl <| op_rd rfl (rd_move rfl) <| gl_yes rfl rfl (op_rd rfl (rd_gtr rfl rfl) (gk_dec (fun h25 => ?_) (fun h25 => ?_)))
    · refine gl_op <| op_rd rfl (rd_pick_f rfl rfl) <| gl_nil <| gx_then <| gc_cond_t rfl <| gc_seq <| gc_region <| gl_op <| op_rd rfl (rd_move rfl) <| gl_op <| op_rd rfl (rd_assign rfl) <| gl_nil <| gx_then <| gc_ret <| gx_then_ret <| gx_block_ret <| gx_then_ret <| gx_then_ret <| gx_block_ret <| gx_then_ret <| gx_ret1 (.inl rfl) Tryz.results43 rfl [] (by decide) ?_
      refine ⟨congrArg (Value.int .i64) (Eq.symm ?_), rfl⟩
      have he : riseAt l lo hi bad k = bad := riseAt_bad hz (by omega)
      exact (riseP_stop (by omega) hall (by rw [he]; exact hbad)).trans he
    refine gl_op <| op_rd rfl (rd_pick_f rfl rfl) <| gl_nil <| gx_then <| gc_cond_f rfl <| gc_skip <| gx_then <| gc_seq <| gc_drawP [] true 13 rfl <| ga_first 0 (bm 14 1) rfl rfl rfl rfl (by kernel_rfl) (by kernel_rfl) ⟨[], by decide, rfl⟩ (qt_rd (rd_move rfl)) ?_
    refine ga_first 1 (bm 14 3) rfl rfl rfl rfl (by kernel_rfl) (by kernel_rfl) ⟨[], by decide, rfl⟩ (qt_rd (rd_gtr rfl rfl)) (gk_dec (fun h30 => ?_) (fun h30 => ?_))
    · obtain ⟨y, hy⟩ := get_some (show k - 1 < l.length by omega)
      refine ga_first 2 (bm 14 7) rfl rfl rfl rfl (by kernel_rfl) (by kernel_rfl) ⟨[], by decide, rfl⟩ (qt_rd (rd_move rfl)) ?_
      refine ga_firstY 3 (bm 14 15) rfl rfl rfl rfl rfl rfl (by kernel_rfl) (by kernel_rfl) ⟨[], by decide, rfl⟩ (qt_rd (rd_move rfl)) ?_
      refine ga_firstY 4 (bm 14 31) rfl rfl rfl rfl rfl rfl (by kernel_rfl) (by kernel_rfl) ⟨[], by decide, rfl⟩ (qt_rd (rd_move rfl)) ?_
      refine ga_firstY 5 (bm 14 63) rfl rfl rfl rfl rfl rfl (by kernel_rfl) (by kernel_rfl) ⟨[], by decide, rfl⟩ (qt_rd (rd_indexOld1 hsl Tryz.underlying29 ty_3 rfl rfl (by omega) (by omega))) ?_
      refine ga_firstY 6 (bm 14 127) rfl rfl rfl rfl rfl rfl (by kernel_rfl) (by kernel_rfl) ⟨[], by decide, rfl⟩ (qt_rd (rd_load Tryz.underlying3 rfl rfl (ld_slN hsl (get_z hz)))) ?_
      refine ga_firstY 7 (bm 14 255) rfl rfl rfl rfl rfl rfl (by kernel_rfl) (by kernel_rfl) ⟨[], by decide, rfl⟩ (qt_rd (rd_move rfl)) ?_
      refine ga_firstY 8 (bm 14 511) rfl rfl rfl rfl rfl rfl (by kernel_rfl) (by kernel_rfl) ⟨[], by decide, rfl⟩ (qt_rd (rd_move rfl)) ?_
      refine ga_firstY 9 (bm 14 1023) rfl rfl rfl rfl rfl rfl (by kernel_rfl) (by kernel_rfl) ⟨[], by decide, rfl⟩ (qt_rd (by exact rd_subN (b := 1) rfl rfl (by omega) (by omega))) ?_
      refine ga_firstY 10 (bm 14 2047) rfl rfl rfl rfl rfl rfl (by kernel_rfl) (by kernel_rfl) ⟨[], by decide, rfl⟩ (qt_rd (rd_indexOld1 hsl Tryz.underlying29 ty_3 rfl rfl (by omega) (by omega))) ?_
      refine ga_firstY 11 (bm 14 4095) rfl rfl rfl rfl rfl rfl (by kernel_rfl) (by kernel_rfl) ⟨[], by decide, rfl⟩ (qt_rd (rd_load Tryz.underlying3 rfl rfl (ld_slN hsl (get_z hy)))) ?_
      refine ga_firstY 12 (bm 14 8191) rfl rfl rfl rfl rfl rfl (by kernel_rfl) (by kernel_rfl) ⟨[], by decide, rfl⟩ (qt_rd (rd_leq rfl rfl)) (gk_dec (fun h38 => ?_) (fun h38 => ?_))
      · refine ga_first 13 (bm 14 16383) rfl rfl rfl rfl (by kernel_rfl) (by kernel_rfl) ⟨[], by decide, rfl⟩ (qt_rd (rd_pick_t rfl rfl)) ?_
        refine ga_end (by kernel_rfl) (.inr ⟨[], by decide, rfl⟩) ?_
        refine gx_then <| gc_cond_t rfl <| gc_seq <| gc_region <| gl_op <| op_rd rfl (rd_assign rfl) <| gl_nil <| gx_then <| gc_ret <| gx_block_ret <| gx_then_ret <| gx_then_ret <| gx_block_ret <| gx_then_ret <| gx_ret1 (.inl rfl) Tryz.results43 rfl [] (by decide) ?_
        refine ⟨congrArg (Value.int .i64) (Eq.symm ?_), rfl⟩
        have he : riseAt l lo hi bad k = 8 := riseAt_twice hz hy (by omega) (by omega) (by omega) (by omega)
        exact (riseP_stop (by omega) hall (by rw [he]; decide)).trans he
      refine ga_first 13 (bm 14 16383) rfl rfl rfl rfl (by kernel_rfl) (by kernel_rfl) ⟨[], by decide, rfl⟩ (qt_rd (rd_pick_t rfl rfl)) ?_
      refine ga_end (by kernel_rfl) (.inr ⟨[], by decide, rfl⟩) ?_
      refine gx_then <| gc_cond_f rfl <| gc_skip <| gx_block <| gx_then <| gc_region <| gl_op <| op_rd rfl (rd_move rfl) <| gl_op (op_rd rfl (by exact rd_addN (b := 1) rfl rfl (by omega)) ?_)
      refine gl_op <| op_rd rfl (rd_assign rfl) <| gl_nil <| gx_then ?_
      exact gx_cut (k + 1) ⟨⟨by omega, fun j hj => by
        rcases Nat.lt_or_eq_of_le (Nat.le_of_lt_succ hj) with h | rfl
        · exact hall j h
        · exact riseAt_ok hz (by omega) (by omega) (fun _ => by rw [getD_some hy]; omega)⟩, by omega⟩ ⟨rfl, rfl, rfl, rfl, rfl, trivial⟩ ⟨[], by decide, rfl⟩
    refine ga_first 2 (bm 14 7) rfl rfl rfl rfl (by kernel_rfl) (by kernel_rfl) ⟨[], by decide, rfl⟩ (qt_rd (rd_move rfl)) ?_
    refine ga_firstN 3 (bm 14 15) rfl rfl rfl rfl rfl rfl (by kernel_rfl) (by kernel_rfl) ⟨[], by decide, rfl⟩ ?_
    refine ga_firstN 4 (bm 14 31) rfl rfl rfl rfl rfl rfl (by kernel_rfl) (by kernel_rfl) ⟨[], by decide, rfl⟩ ?_
    refine ga_firstN 5 (bm 14 63) rfl rfl rfl rfl rfl rfl (by kernel_rfl) (by kernel_rfl) ⟨[], by decide, rfl⟩ ?_
    refine ga_firstN 6 (bm 14 127) rfl rfl rfl rfl rfl rfl (by kernel_rfl) (by kernel_rfl) ⟨[], by decide, rfl⟩ ?_
    refine ga_firstN 7 (bm 14 255) rfl rfl rfl rfl rfl rfl (by kernel_rfl) (by kernel_rfl) ⟨[], by decide, rfl⟩ ?_
    refine ga_firstN 8 (bm 14 511) rfl rfl rfl rfl rfl rfl (by kernel_rfl) (by kernel_rfl) ⟨[], by decide, rfl⟩ ?_
    refine ga_firstN 9 (bm 14 1023) rfl rfl rfl rfl rfl rfl (by kernel_rfl) (by kernel_rfl) ⟨[], by decide, rfl⟩ ?_
    refine ga_firstN 10 (bm 14 2047) rfl rfl rfl rfl rfl rfl (by kernel_rfl) (by kernel_rfl) ⟨[], by decide, rfl⟩ ?_
    refine ga_firstN 11 (bm 14 4095) rfl rfl rfl rfl rfl rfl (by kernel_rfl) (by kernel_rfl) ⟨[], by decide, rfl⟩ ?_
    refine ga_firstN 12 (bm 14 8191) rfl rfl rfl rfl rfl rfl (by kernel_rfl) (by kernel_rfl) ⟨[], by decide, rfl⟩ ?_
    refine ga_first 13 (bm 14 16383) rfl rfl rfl rfl (by kernel_rfl) (by kernel_rfl) ⟨[], by decide, rfl⟩ (qt_rd (rd_pick_f rfl rfl)) ?_
    refine ga_end (by kernel_rfl) (.inr ⟨[], by decide, rfl⟩) ?_
    refine gx_then <| gc_cond_f rfl <| gc_skip <| gx_block <| gx_then <| gc_region <| gl_op <| op_rd rfl (rd_move rfl) <| gl_op (op_rd rfl (by exact rd_addN (b := 1) rfl rfl (by omega)) ?_)
    refine gl_op <| op_rd rfl (rd_assign rfl) <| gl_nil <| gx_then ?_
    exact gx_cut (k + 1) ⟨⟨by omega, fun j hj => by
      rcases Nat.lt_or_eq_of_le (Nat.le_of_lt_succ hj) with h | rfl
      · exact hall j h
      · exact riseAt_ok hz (by omega) (by omega) (fun h => by omega)⟩, by omega⟩ ⟨rfl, rfl, rfl, rfl, rfl, trivial⟩ ⟨[], by decide, rfl⟩
  refine gl_nil <| gx_then <| gc_cond_f rfl <| gc_exit <| gx_then_exit <| gx_then_exit <| gx_block_exit <| gx_then <| gc_seq <| gc_region <| gl_op <| op_rd rfl (rd_assign rfl) <| gl_nil <| gx_then <| gc_ret <| gx_ret1 (.inl rfl) Tryz.results43 rfl [] (by decide) ?_
  refine ⟨congrArg (Value.int .i64) (Eq.symm ?_), rfl⟩
  exact riseP_none (fun j hj => hall j (by omega))
set_option maxRecDepth 100000 in
set_option maxHeartbeats 1000000 in
theorem Check_ok (s : Org) (h : Hd) (hle : OrgLe s) (hhe : HdLe h) (w0 : World) (hS : OrgIn s w0 []) (hH : HdIn h w0 []) : Sp Tryz.prog 24 [s.val, h.val] w0 [] (RV (.int .i64 (handErr s h))) := by
  have hds := hle.d
  have hks := hhe.k
  refine spec_enter Tryz.func24 rfl Tryz.ntmps24 rfl (Own.refl _) ?_
  simp only [argEnv]
  refine gc_seq <| gc_region <| gl_op (op_box rfl rfl rfl (fun b2 => ?_))
  refine gl_op (op_box rfl rfl rfl (fun b3 => ?_))
  refine gl_op <| op_rd rfl (rd_assign rfl) <| gl_nil <| gx_then <| gc_seq <| gc_seq <| gc_region <| gl_op (op_rd rfl (rd_loadAgg Tryz.underlying27 rfl ty_27 rfl (by exact cs_blk 1 (off := 0) (k := 4) rfl rfl) rfl) ?_)
  refine gl_op (op_call rfl (vf := []) (vc := []) rfl rfl Tryz.call40 (fun w1 ho => specCheck_ok s hle w1 (hS.at ho)) ?_)
  rintro _ _ ⟨rfl, rfl⟩
  rw [checkC_eq]
  refine gl_op <| op_rd rfl (rd_move rfl) <| gl_op <| op_rd rfl (rd_extract rfl rfl) <| gl_op <| op_rd rfl (rd_extract rfl rfl) <| gl_op (op_alloc ty_90 rfl rfl (fun b5 => ?_))
  refine gl_op (op_storeAgg 0 ty_90 rfl rfl rfl rfl rfl rfl (by rfl) ?_)
  refine gl_op <| op_rd rfl (rd_assign rfl) <| gl_nil <| gx_then <| gc_seq <| gc_region <| gl_op <| op_rd rfl (rd_move rfl) <| gl_op (op_rd rfl (rd_neq rfl rfl) (gk_dec (fun h6 => ?_) (fun h6 => ?_)))
  · refine gl_nil <| gx_then <| gc_cond_t rfl <| gc_seq <| gc_region <| gl_op <| op_rd rfl (rd_move rfl) <| gl_op <| op_rd rfl (rd_assign rfl) <| gl_nil <| gx_then <| gc_ret <| gx_then_ret <| gx_ret1 (.inl rfl) Tryz.results24 rfl [] (by decide) ?_
    refine ⟨congrArg (Value.int .i64) (Eq.symm ?_), rfl⟩
    unfold handErr
    rw [if_pos (by omega)]
  refine gl_nil <| gx_then <| gc_cond_f rfl <| gc_skip <| gx_then <| gc_seq <| gc_seq <| gc_region <| gl_op <| op_rd rfl (rd_fieldAddr rfl (fa_31_0 _)) <| gl_op (op_rd rfl (rd_load Tryz.underlying28 rfl rfl (by exact ld_blk 1 rfl rfl)) ?_)
  refine gl_op <| op_rd rfl (rd_lenSlice Tryz.underlying28 rfl) <| gl_op <| op_rd rfl (rd_fieldAddr rfl (fa_27_0 _)) <| gl_op (op_rd rfl (rd_load Tryz.underlying22 rfl rfl (by exact ld_blk 2 rfl rfl)) ?_)
  refine gl_op <| op_rd rfl (rd_lenSlice Tryz.underlying22 rfl) <| gl_op (op_rd rfl (rd_neq rfl rfl) (gk_dec (fun hlen => ?_) (fun hlen => ?_)))
  · refine gl_nil <| gx_then <| gc_cond_t rfl <| gc_seq <| gc_region <| gl_op <| op_rd rfl (rd_assign rfl) <| gl_nil <| gx_then <| gc_ret <| gx_then_ret <| gx_ret1 (.inl rfl) Tryz.results24 rfl [] (by decide) ?_
    refine ⟨congrArg (Value.int .i64) (Eq.symm ?_), rfl⟩
    unfold handErr
    rw [if_neg (by omega), if_pos (by omega)]
  refine gl_nil <| gx_then <| gc_cond_f rfl <| gc_skip <| gx_then <| gc_seq <| gc_seq <| gc_region <| gl_op <| op_rd rfl (rd_fieldAddr rfl (fa_27_0 _)) <| gl_op (op_rd rfl (rd_load Tryz.underlying22 rfl rfl (by exact ld_blk 2 rfl rfl)) ?_)
  refine gl_op <| op_rd rfl (rd_lenSlice Tryz.underlying22 rfl) <| gl_op <| op_rd rfl (rd_move rfl) <| gl_nil <| gx_then <| gc_block <| gc_loopF (ι := Nat) [(2, _), (3, _), (27, _), (28, _)] [_, _, _] (fun k => k ≤ s.ds.length ∧ ∀ j, j < k → keyErr s h j = 0) (fun k Fr0 => ((29, natV k) :: Fr0)) (fun k Fr0 => Fr0) (fun k => s.ds.length - k) 0 (⟨Nat.zero_le _, fun j h => absurd h (Nat.not_lt_zero j)⟩) ⟨rfl, rfl, rfl, rfl, rfl, trivial⟩ ⟨[0, 1, 2], by decide, rfl⟩ ?_
  rintro k ⟨hk, hall⟩
  refine gc_seq <| gc_region <| gl_op (op_rd rfl (rd_lss rfl rfl) (gk_dec (fun hlt => ?_) (fun hlt => ?_)))
  · obtain ⟨d, hd⟩ := get_some (show k < s.ds.length by omega)
    obtain ⟨r, hr⟩ := get_some (show k < h.ks.length by omega)
    have hrm := List.mem_of_getElem? hr
    have hke : keyErr s h k = riseP r.ks d.lo d.hi 7 := by unfold keyErr; rw [getD_some hr, getD_some hd]
    refine gl_nil <| gx_then <| gc_seq <| gc_cond_t rfl <| gc_skip <| gx_then <| gc_seq <| gc_block <| gc_seq <| gc_region <| gl_op <| op_rd rfl (rd_move rfl) <| gl_op (op_rd rfl (rd_indexOld hS.d Tryz.underlying22 ty_49 rfl rfl (by omega) (by omega)) ?_)
    refine gl_op (op_rd rfl (rd_loadAgg Tryz.underlying49 rfl ty_49 rfl (cs_slN hS.d (flat_drop_get Dv.cells 3 (fun _ => rfl) hd)) rfl) ?_)
    refine gl_op (op_alloc ty_49 rfl rfl (fun b8 => ?_))
    refine gl_op <| op_rd rfl (rd_assign rfl) <| gl_op (op_storeAgg 0 ty_49 rfl rfl rfl rfl rfl rfl (by rfl) ?_)
    refine gl_nil <| gx_then <| gc_seq <| gc_drawP [0, 1, 2, 3] true 10 rfl <| ga_first 0 (bm 11 1) rfl rfl rfl rfl (by kernel_rfl) (by kernel_rfl) ⟨[0, 1, 2, 3], by decide, rfl⟩ (qt_rd (rd_fieldAddr rfl (fa_31_0 _))) ?_
    refine ga_first 1 (bm 11 3) rfl rfl rfl rfl (by kernel_rfl) (by kernel_rfl) ⟨[0, 1, 2, 3], by decide, rfl⟩ (qt_rd (rd_load Tryz.underlying28 rfl rfl (by exact ld_blk 2 rfl rfl))) ?_
    refine ga_first 2 (bm 11 7) rfl rfl rfl rfl (by kernel_rfl) (by kernel_rfl) ⟨[0, 1, 2, 3], by decide, rfl⟩ (qt_rd (rd_move rfl)) ?_
    refine ga_first 3 (bm 11 15) rfl rfl rfl rfl (by kernel_rfl) (by kernel_rfl) ⟨[0, 1, 2, 3], by decide, rfl⟩ (qt_rd (rd_indexOld1 hH.k Tryz.underlying28 ty_29 rfl rfl (by omega) (by omega))) ?_
    refine ga_first 4 (bm 11 31) rfl rfl rfl rfl (by kernel_rfl) (by kernel_rfl) ⟨[0, 1, 2, 3], by decide, rfl⟩ (qt_rd (rd_load Tryz.underlying29 rfl rfl (ld_slN hH.k (get_row hr)))) ?_
    refine ga_first 5 (bm 11 63) rfl rfl rfl rfl (by kernel_rfl) (by kernel_rfl) ⟨[0, 1, 2, 3], by decide, rfl⟩ (qt_rd (rd_fieldAddr rfl (fa_49_1 _))) ?_
    refine ga_first 6 (bm 11 127) rfl rfl rfl rfl (by kernel_rfl) (by kernel_rfl) ⟨[0, 1, 2, 3], by decide, rfl⟩ (qt_rd (rd_load Tryz.underlying3 rfl rfl (by exact ld_blk 0 rfl rfl))) ?_
    refine ga_first 7 (bm 11 255) rfl rfl rfl rfl (by kernel_rfl) (by kernel_rfl) ⟨[0, 1, 2, 3], by decide, rfl⟩ (qt_rd (rd_fieldAddr rfl (fa_49_2 _))) ?_
    refine ga_first 8 (bm 11 511) rfl rfl rfl rfl (by kernel_rfl) (by kernel_rfl) ⟨[0, 1, 2, 3], by decide, rfl⟩ (qt_rd (rd_load Tryz.underlying3 rfl rfl (by exact ld_blk 0 rfl rfl))) ?_
    simp only [KR.cell]
    refine ga_first 9 (bm 11 1023) rfl rfl rfl rfl (by kernel_rfl) (by kernel_rfl) ⟨[0, 1, 2, 3], by decide, rfl⟩ (qt_call (vf := []) (vc := []) rfl rfl Tryz.call41 (fun w1 ho => rising_ok r.ks r.a r.c d.lo d.hi 7 (hhe.r r hrm) (by decide) w1 ((hH.r r hrm).at ho)) (by rintro _ _ ⟨h, _⟩; exact h)) ?_
    refine ga_first 10 (bm 11 2047) rfl rfl rfl rfl (by kernel_rfl) (by kernel_rfl) ⟨[0, 1, 2, 3], by decide, rfl⟩ (qt_rd (rd_assign rfl)) ?_
    refine ga_end (by kernel_rfl) (.inr ⟨[0, 1, 2, 3], by decide, rfl⟩) ?_
    refine gx_then <| gc_seq <| gc_region <| gl_op <| op_rd rfl (rd_move rfl) <| gl_op (op_rd rfl (rd_neq rfl rfl) (gk_dec (fun hk7 => ?_) (fun hk7 => ?_)))
    · refine gl_nil <| gx_then <| gc_cond_t rfl <| gc_seq <| gc_region <| gl_op <| op_rd rfl (rd_move rfl) <| gl_op <| op_rd rfl (rd_assign rfl) <| gl_nil <| gx_then <| gc_ret <| gx_block_ret <| gx_then_ret <| gx_then_ret <| gx_block_ret <| gx_then_ret <| gx_ret1 (.inl rfl) Tryz.results24 rfl [] (by decide) ?_
      refine ⟨congrArg (Value.int .i64) (Eq.symm ?_), rfl⟩
      unfold handErr
      rw [if_neg (by omega), if_neg (by omega), firstO_stop _ (0, riseP r.ks d.lo d.hi 7) _ 0 k (Nat.zero_le _) (by omega) (fun j _ hj => by show errO _ = none; unfold errO; rw [if_pos (hall j hj)]) (by show errO _ = _; unfold errO; rw [hke, if_neg (by omega)])]
    refine gl_nil <| gx_then <| gc_cond_f rfl <| gc_skip <| gx_block <| gx_then <| gc_region <| gl_op (op_rd rfl (by exact rd_addN (b := 1) rfl rfl (by omega)) ?_)
    refine gl_op <| op_rd rfl (rd_move rfl) <| gl_nil <| gx_then ?_
    exact gx_cut (k + 1) ⟨⟨by omega, fun j hj => by
      rcases Nat.lt_or_eq_of_le (Nat.le_of_lt_succ hj) with h | rfl
      · exact hall j h
      · rw [hke]; omega⟩, by omega⟩ ⟨rfl, rfl, rfl, rfl, rfl, trivial⟩ ⟨[1, 2, 3], by decide, rfl⟩
  refine gl_nil <| gx_then <| gc_seq <| gc_cond_f rfl <| gc_exit <| gx_then_exit <| gx_then_exit <| gx_block_exit <| gx_then <| gc_seq <| gc_seq <| gc_region <| gl_op <| op_rd rfl (rd_fieldAddr rfl (fa_31_1 _)) <| gl_op (op_rd rfl (rd_load Tryz.underlying29 rfl rfl (by exact ld_blk 1 rfl rfl)) ?_)
  refine gl_op <| op_rd rfl (rd_fieldAddr rfl (fa_27_2 _)) <| gl_op (op_rd rfl (rd_load Tryz.underlying24 rfl rfl (by exact ld_blk 2 rfl rfl)) ?_)
  refine gl_op <| op_rd rfl (rd_lenSlice Tryz.underlying24 rfl) ?_
  have hle1 := hle.t
  refine gl_op (op_rd rfl (rd_sub rfl rfl (by omega) (by omega)) ?_)
  refine gl_op (op_call rfl (vf := []) (vc := []) rfl rfl Tryz.call41 (fun w1 ho => rising_ok h.ss h.sa h.sc 0 _ 4 hhe.t (by decide) w1 (hH.t.at ho)) ?_)
  rintro _ _ ⟨rfl, rfl⟩
  refine gl_op <| op_rd rfl (rd_assign rfl) <| gl_nil <| gx_then <| gc_seq <| gc_region <| gl_op <| op_rd rfl (rd_move rfl) <| gl_op (op_rd rfl (rd_neq rfl rfl) (gk_dec (fun hst => ?_) (fun hst => ?_)))
  · refine gl_nil <| gx_then <| gc_cond_t rfl <| gc_seq <| gc_region <| gl_op <| op_rd rfl (rd_move rfl) <| gl_op <| op_rd rfl (rd_assign rfl) <| gl_nil <| gx_then <| gc_ret <| gx_then_ret <| gx_ret1 (.inl rfl) Tryz.results24 rfl [] (by decide) ?_
    refine ⟨congrArg (Value.int .i64) (Eq.symm ?_), rfl⟩
    unfold handErr
    rw [if_neg (by omega), if_neg (by omega), firstO_none _ _ 0 (fun j _ hj => by show errO _ = none; unfold errO; rw [if_pos (hall j (by omega))])]
    simp only
    rw [if_pos (by omega)]
  refine gl_nil <| gx_then <| gc_cond_f rfl <| gc_skip <| gx_then <| gc_seq <| gc_region <| gl_op <| op_rd rfl (rd_fieldAddr rfl (fa_31_2 _)) <| gl_op (op_rd rfl (rd_load Tryz.underlying29 rfl rfl (by exact ld_blk 1 rfl rfl)) ?_)
  refine gl_op <| op_rd rfl (rd_fieldAddr rfl (fa_27_3 _)) <| gl_op (op_rd rfl (rd_load Tryz.underlying25 rfl rfl (by exact ld_blk 2 rfl rfl)) ?_)
  refine gl_op <| op_rd rfl (rd_lenSlice Tryz.underlying25 rfl) ?_
  have hle2 := hle.c
  refine gl_op (op_rd rfl (rd_sub rfl rfl (by omega) (by omega)) ?_)
  refine gl_op (op_call rfl (vf := []) (vc := []) rfl rfl Tryz.call41 (fun w1 ho => rising_ok h.cs h.ca h.cc 0 _ 4 hhe.c (by decide) w1 (hH.c.at ho)) ?_)
  rintro _ _ ⟨rfl, rfl⟩
  refine gl_op <| op_rd rfl (rd_assign rfl) <| gl_nil <| gx_then <| gc_ret <| gx_ret1 (.inl rfl) Tryz.results24 rfl [] (by decide) ?_
  refine ⟨congrArg (Value.int .i64) (Eq.symm ?_), rfl⟩
  unfold handErr
  rw [if_neg (by omega), if_neg (by omega), firstO_none _ _ 0 (fun j _ hj => by show errO _ = none; unfold errO; rw [if_pos (hall j (by omega))])]
  simp only
  rw [if_neg (by omega)]
set_option maxRecDepth 100000 in
set_option maxHeartbeats 1000000 in
theorem rChk_ok (s : Org) (h : Hd) (hle : OrgLe s) (hhe : HdLe h) (w0 : World) (hS : OrgIn s w0 []) (hH : HdIn h w0 []) : Sp Tryz.prog 27 [s.val, h.val] w0 [] (RV (.int .i64 (handErr s h))) := by
  have hds := hle.d
  have hks := hhe.k
  refine spec_enter Tryz.func27 rfl Tryz.ntmps27 rfl (Own.refl _) ?_
  simp only [argEnv]
  refine gc_seq <| gc_region <| gl_op (op_box rfl rfl rfl (fun b2 => ?_))
  refine gl_op (op_box rfl rfl rfl (fun b3 => ?_))
  refine gl_op <| op_rd rfl (rd_assign rfl) <| gl_nil <| gx_then <| gc_seq <| gc_region <| gl_op (op_rd rfl (rd_loadAgg Tryz.underlying27 rfl ty_27 rfl (by exact cs_blk 1 (off := 0) (k := 4) rfl rfl) rfl) ?_)
  refine gl_op (op_call rfl (vf := []) (vc := []) rfl rfl Tryz.call32 (fun w1 ho => rCheck_ok s hle w1 (hS.at ho)) ?_)
  rintro _ _ ⟨rfl, rfl⟩
  refine gl_op <| op_rd rfl (rd_move rfl) <| gl_op <| op_rd rfl (rd_extract rfl rfl) <| gl_op <| op_rd rfl (rd_extract rfl rfl) <| gl_op (op_alloc ty_90 rfl rfl (fun b5 => ?_))
  refine gl_op (op_storeAgg 0 ty_90 rfl rfl rfl rfl rfl rfl (by rfl) ?_)
  refine gl_op <| op_rd rfl (rd_assign rfl) <| gl_nil <| gx_then <| gc_seq <| gc_seq <| gc_region <| gl_op <| op_rd rfl (rd_move rfl) <| gl_op (op_rd rfl (rd_neq rfl rfl) (gk_dec (fun h6 => ?_) (fun h6 => ?_)))
  · refine gl_nil <| gx_then <| gc_cond_t rfl <| gc_seq <| gc_region <| gl_op <| op_rd rfl (rd_move rfl) <| gl_op <| op_rd rfl (rd_assign rfl) <| gl_nil <| gx_then <| gc_ret <| gx_then_ret <| gx_ret1 (.inl rfl) Tryz.results27 rfl [] (by decide) ?_
    refine ⟨congrArg (Value.int .i64) (Eq.symm ?_), rfl⟩
    unfold handErr
    rw [if_pos (by omega)]
  refine gl_nil <| gx_then <| gc_cond_f rfl <| gc_skip <| gx_then <| gc_seq <| gc_seq <| gc_region <| gl_op <| op_rd rfl (rd_fieldAddr rfl (fa_31_0 _)) <| gl_op (op_rd rfl (rd_load Tryz.underlying28 rfl rfl (by exact ld_blk 1 rfl rfl)) ?_)
  refine gl_op <| op_rd rfl (rd_lenSlice Tryz.underlying28 rfl) <| gl_op <| op_rd rfl (rd_fieldAddr rfl (fa_27_0 _)) <| gl_op (op_rd rfl (rd_load Tryz.underlying22 rfl rfl (by exact ld_blk 2 rfl rfl)) ?_)
  refine gl_op <| op_rd rfl (rd_lenSlice Tryz.underlying22 rfl) <| gl_op (op_rd rfl (rd_neq rfl rfl) (gk_dec (fun hlen => ?_) (fun hlen => ?_)))
  · refine gl_nil <| gx_then <| gc_cond_t rfl <| gc_seq <| gc_region <| gl_op <| op_rd rfl (rd_assign rfl) <| gl_nil <| gx_then <| gc_ret <| gx_then_ret <| gx_ret1 (.inl rfl) Tryz.results27 rfl [] (by decide) ?_
    refine ⟨congrArg (Value.int .i64) (Eq.symm ?_), rfl⟩
    unfold handErr
    rw [if_neg (by omega), if_pos (by omega)]
  refine gl_nil <| gx_then <| gc_cond_f rfl <| gc_skip <| gx_then <| gc_seq <| gc_seq <| gc_region <| gl_op <| op_rd rfl (rd_assign rfl) <| gl_nil <| gx_then <| gc_block <| gc_loopF (ι := Nat) [(2, _), (3, _)] [_, _, _] (fun k => k ≤ s.ds.length ∧ ∀ j, j < k → keyErr s h j = 0) (fun k Fr0 => ((7, natV k) :: Fr0)) (fun k Fr0 => Fr0) (fun k => s.ds.length - k) 0 (⟨Nat.zero_le _, fun j h => absurd h (Nat.not_lt_zero j)⟩) ⟨rfl, rfl, rfl, trivial⟩ ⟨[0, 1, 2], by decide, rfl⟩ ?_
  rintro k ⟨hk, hall⟩
  refine gc_seq <| gc_seq <| gc_region <| gl_op <| op_rd rfl (rd_move rfl) <| gl_op <| op_rd rfl (rd_fieldAddr rfl (fa_31_0 _)) <| gl_op (op_rd rfl (rd_load Tryz.underlying28 rfl rfl (by exact ld_blk 1 rfl rfl)) ?_)
  refine gl_op <| op_rd rfl (rd_lenSlice Tryz.underlying28 rfl) <| gl_op (op_rd rfl (rd_lss rfl rfl) (gk_dec (fun hlt => ?_) (fun hlt => ?_)))
  · obtain ⟨d, hd⟩ := get_some (show k < s.ds.length by omega)
    obtain ⟨r, hr⟩ := get_some (show k < h.ks.length by omega)
    have hrm := List.mem_of_getElem? hr
    have hke : keyErr s h k = riseP r.ks d.lo d.hi 7 := by unfold keyErr; rw [getD_some hr, getD_some hd]
    refine gl_nil <| gx_then <| gc_cond_t rfl <| gc_skip <| gx_then <| gc_seq <| gc_block <| gc_seq <| gc_drawP [0, 1, 2] true 18 rfl <| ga_first 0 (bm 19 1) rfl rfl rfl rfl (by kernel_rfl) (by kernel_rfl) ⟨[0, 1, 2], by decide, rfl⟩ (qt_rd (rd_fieldAddr rfl (fa_31_0 _))) ?_
    refine ga_first 1 (bm 19 3) rfl rfl rfl rfl (by kernel_rfl) (by kernel_rfl) ⟨[0, 1, 2], by decide, rfl⟩ (qt_rd (rd_load Tryz.underlying28 rfl rfl (by exact ld_blk 1 rfl rfl))) ?_
    refine ga_first 2 (bm 19 7) rfl rfl rfl rfl (by kernel_rfl) (by kernel_rfl) ⟨[0, 1, 2], by decide, rfl⟩ (qt_rd (rd_move rfl)) ?_
    refine ga_first 3 (bm 19 15) rfl rfl rfl rfl (by kernel_rfl) (by kernel_rfl) ⟨[0, 1, 2], by decide, rfl⟩ (qt_rd (rd_indexOld1 hH.k Tryz.underlying28 ty_29 rfl rfl (by omega) (by omega))) ?_
    refine ga_first 4 (bm 19 31) rfl rfl rfl rfl (by kernel_rfl) (by kernel_rfl) ⟨[0, 1, 2], by decide, rfl⟩ (qt_rd (rd_load Tryz.underlying29 rfl rfl (ld_slN hH.k (get_row hr)))) ?_
    refine ga_first 5 (bm 19 63) rfl rfl rfl rfl (by kernel_rfl) (by kernel_rfl) ⟨[0, 1, 2], by decide, rfl⟩ (qt_rd (rd_fieldAddr rfl (fa_27_0 _))) ?_
    refine ga_first 6 (bm 19 127) rfl rfl rfl rfl (by kernel_rfl) (by kernel_rfl) ⟨[0, 1, 2], by decide, rfl⟩ (qt_rd (rd_load Tryz.underlying22 rfl rfl (by exact ld_blk 2 rfl rfl))) ?_
    refine ga_first 7 (bm 19 255) rfl rfl rfl rfl (by kernel_rfl) (by kernel_rfl) ⟨[0, 1, 2], by decide, rfl⟩ (qt_rd (rd_move rfl)) ?_
    refine ga_first 8 (bm 19 511) rfl rfl rfl rfl (by kernel_rfl) (by kernel_rfl) ⟨[0, 1, 2], by decide, rfl⟩ (qt_rd (rd_indexOld hS.d Tryz.underlying22 ty_49 rfl rfl (by omega) (by omega))) ?_
    refine ga_first 9 (bm 19 1023) rfl rfl rfl rfl (by kernel_rfl) (by kernel_rfl) ⟨[0, 1, 2], by decide, rfl⟩ (qt_rd (rd_fieldAddr rfl (fa_49_1 _))) ?_
    refine ga_first 10 (bm 19 2047) rfl rfl rfl rfl (by kernel_rfl) (by kernel_rfl) ⟨[0, 1, 2], by decide, rfl⟩ (qt_rd (rd_load Tryz.underlying3 rfl rfl (ld_slf hS.d (get_flat Dv.cells 3 (fun _ => rfl) hd (j := 1) (by decide) rfl)))) ?_
    refine ga_first 11 (bm 19 4095) rfl rfl rfl rfl (by kernel_rfl) (by kernel_rfl) ⟨[0, 1, 2], by decide, rfl⟩ (qt_rd (rd_fieldAddr rfl (fa_27_0 _))) ?_
    refine ga_first 12 (bm 19 8191) rfl rfl rfl rfl (by kernel_rfl) (by kernel_rfl) ⟨[0, 1, 2], by decide, rfl⟩ (qt_rd (rd_load Tryz.underlying22 rfl rfl (by exact ld_blk 2 rfl rfl))) ?_
    refine ga_first 13 (bm 19 16383) rfl rfl rfl rfl (by kernel_rfl) (by kernel_rfl) ⟨[0, 1, 2], by decide, rfl⟩ (qt_rd (rd_move rfl)) ?_
    refine ga_first 14 (bm 19 32767) rfl rfl rfl rfl (by kernel_rfl) (by kernel_rfl) ⟨[0, 1, 2], by decide, rfl⟩ (qt_rd (rd_indexOld hS.d Tryz.underlying22 ty_49 rfl rfl (by omega) (by omega))) ?_
    refine ga_first 15 (bm 19 65535) rfl rfl rfl rfl (by kernel_rfl) (by kernel_rfl) ⟨[0, 1, 2], by decide, rfl⟩ (qt_rd (rd_fieldAddr rfl (fa_49_2 _))) ?_
    refine ga_first 16 (bm 19 131071) rfl rfl rfl rfl (by kernel_rfl) (by kernel_rfl) ⟨[0, 1, 2], by decide, rfl⟩ (qt_rd (rd_load Tryz.underlying3 rfl rfl (ld_slf hS.d (get_flat Dv.cells 3 (fun _ => rfl) hd (j := 2) (by decide) rfl)))) ?_
    simp only [KR.cell]
    refine ga_first 17 (bm 19 262143) rfl rfl rfl rfl (by kernel_rfl) (by kernel_rfl) ⟨[0, 1, 2], by decide, rfl⟩ (qt_call (vf := []) (vc := []) rfl rfl Tryz.call43 (fun w1 ho => rrising_ok r.ks r.a r.c d.lo d.hi 7 (hhe.r r hrm) (by decide) w1 ((hH.r r hrm).at ho)) (by rintro _ _ ⟨h, _⟩; exact h)) ?_
    refine ga_first 18 (bm 19 524287) rfl rfl rfl rfl (by kernel_rfl) (by kernel_rfl) ⟨[0, 1, 2], by decide, rfl⟩ (qt_rd (rd_assign rfl)) ?_
    refine ga_end (by kernel_rfl) (.inr ⟨[0, 1, 2], by decide, rfl⟩) ?_
    refine gx_then <| gc_seq <| gc_region <| gl_op <| op_rd rfl (rd_move rfl) <| gl_op (op_rd rfl (rd_neq rfl rfl) (gk_dec (fun hk7 => ?_) (fun hk7 => ?_)))
    · refine gl_nil <| gx_then <| gc_cond_t rfl <| gc_seq <| gc_region <| gl_op <| op_rd rfl (rd_move rfl) <| gl_op <| op_rd rfl (rd_assign rfl) <| gl_nil <| gx_then <| gc_ret <| gx_block_ret <| gx_then_ret <| gx_then_ret <| gx_block_ret <| gx_then_ret <| gx_ret1 (.inl rfl) Tryz.results27 rfl [] (by decide) ?_
      refine ⟨congrArg (Value.int .i64) (Eq.symm ?_), rfl⟩
      unfold handErr
      rw [if_neg (by omega), if_neg (by omega), firstO_stop _ (0, riseP r.ks d.lo d.hi 7) _ 0 k (Nat.zero_le _) (by omega) (fun j _ hj => by show errO _ = none; unfold errO; rw [if_pos (hall j hj)]) (by show errO _ = _; unfold errO; rw [hke, if_neg (by omega)])]
    refine gl_nil <| gx_then <| gc_cond_f rfl <| gc_skip <| gx_block <| gx_then <| gc_region <| gl_op <| op_rd rfl (rd_move rfl) <| gl_op (op_rd rfl (by exact rd_addN (b := 1) rfl rfl (by omega)) ?_)
    refine gl_op <| op_rd rfl (rd_assign rfl) <| gl_nil <| gx_then ?_
    exact gx_cut (k + 1) ⟨⟨by omega, fun j hj => by
      rcases Nat.lt_or_eq_of_le (Nat.le_of_lt_succ hj) with h | rfl
      · exact hall j h
      · rw [hke]; omega⟩, by omega⟩ ⟨rfl, rfl, rfl, trivial⟩ ⟨[0, 1, 2], by decide, rfl⟩
  refine gl_nil <| gx_then <| gc_cond_f rfl <| gc_exit <| gx_then_exit <| gx_then_exit <| gx_block_exit <| gx_then <| gc_seq <| gc_region <| gl_op <| op_rd rfl (rd_fieldAddr rfl (fa_31_1 _)) <| gl_op (op_rd rfl (rd_load Tryz.underlying29 rfl rfl (by exact ld_blk 1 rfl rfl)) ?_)
  refine gl_op <| op_rd rfl (rd_fieldAddr rfl (fa_27_2 _)) <| gl_op (op_rd rfl (rd_load Tryz.underlying24 rfl rfl (by exact ld_blk 2 rfl rfl)) ?_)
  refine gl_op <| op_rd rfl (rd_lenSlice Tryz.underlying24 rfl) ?_
  have hle1 := hle.t
  refine gl_op (op_rd rfl (rd_sub rfl rfl (by omega) (by omega)) ?_)
  refine gl_op (op_call rfl (vf := []) (vc := []) rfl rfl Tryz.call43 (fun w1 ho => rrising_ok h.ss h.sa h.sc 0 _ 4 hhe.t (by decide) w1 (hH.t.at ho)) ?_)
  rintro _ _ ⟨rfl, rfl⟩
  refine gl_op <| op_rd rfl (rd_assign rfl) <| gl_nil <| gx_then <| gc_seq <| gc_seq <| gc_region <| gl_op <| op_rd rfl (rd_move rfl) <| gl_op (op_rd rfl (rd_eql rfl rfl) (gk_dec (fun hst => ?_) (fun hst => ?_)))
  · refine gl_nil <| gx_then <| gc_cond_t rfl <| gc_region <| gl_op <| op_rd rfl (rd_fieldAddr rfl (fa_31_2 _)) <| gl_op (op_rd rfl (rd_load Tryz.underlying29 rfl rfl (by exact ld_blk 1 rfl rfl)) ?_)
    refine gl_op <| op_rd rfl (rd_fieldAddr rfl (fa_27_3 _)) <| gl_op (op_rd rfl (rd_load Tryz.underlying25 rfl rfl (by exact ld_blk 2 rfl rfl)) ?_)
    refine gl_op <| op_rd rfl (rd_lenSlice Tryz.underlying25 rfl) ?_
    have hle2 := hle.c
    refine gl_op (op_rd rfl (rd_sub rfl rfl (by omega) (by omega)) ?_)
    refine gl_op (op_call rfl (vf := []) (vc := []) rfl rfl Tryz.call43 (fun w1 ho => rrising_ok h.cs h.ca h.cc 0 _ 4 hhe.c (by decide) w1 (hH.c.at ho)) ?_)
    rintro _ _ ⟨rfl, rfl⟩
    refine gl_op <| op_rd rfl (rd_assign rfl) <| gl_nil <| gx_then <| gc_seq <| gc_region <| gl_op <| op_rd rfl (rd_move rfl) <| gl_op <| op_rd rfl (rd_assign rfl) <| gl_nil <| gx_then <| gc_ret <| gx_ret1 (.inl rfl) Tryz.results27 rfl [] (by decide) ?_
    refine ⟨congrArg (Value.int .i64) (Eq.symm ?_), rfl⟩
    unfold handErr
    rw [if_neg (by omega), if_neg (by omega), firstO_none _ _ 0 (fun j _ hj => by show errO _ = none; unfold errO; rw [if_pos (hall j (by omega))])]
    simp only
    rw [if_neg (by omega)]
  refine gl_nil <| gx_then <| gc_cond_f rfl <| gc_skip <| gx_then <| gc_seq <| gc_region <| gl_op <| op_rd rfl (rd_move rfl) <| gl_op <| op_rd rfl (rd_assign rfl) <| gl_nil <| gx_then <| gc_ret <| gx_ret1 (.inl rfl) Tryz.results27 rfl [] (by decide) ?_
  refine ⟨congrArg (Value.int .i64) (Eq.symm ?_), rfl⟩
  unfold handErr
  rw [if_neg (by omega), if_neg (by omega), firstO_none _ _ 0 (fun j _ hj => by show errO _ = none; unfold errO; rw [if_pos (hall j (by omega))])]
  simp only
  rw [if_pos (by omega)]
set_option maxRecDepth 100000 in
set_option maxHeartbeats 1000000 in
theorem SameInts_ok (xs ys : List Int) (a b : Option Addr) (ca cb : Nat) (hxl : xs.length ≤ 140737488355328) (w0 : World) (hx : OldSl w0 [] a xs.length 1 (xs.map intV)) (hy : OldSl w0 [] b ys.length 1 (ys.map intV)) : Sp Tryz.prog 21 [.slice a xs.length ca, .slice b ys.length cb] w0 [] (RV (.bool (decide (xs = ys)))) := by
  refine spec_enter Tryz.func21 rfl Tryz.ntmps21 rfl (Own.refl _) ?_
  simp only [argEnv]
  refine gc_seq <| gc_region <| gl_op <| op_rd rfl (rd_assign rfl) <| gl_nil <| gx_then <| gc_seq <| gc_seq <| gc_region <| gl_op <| op_rd rfl (rd_move rfl) <| gl_op <| op_rd rfl (rd_lenSlice Tryz.underlying29 rfl) <| gl_op <| op_rd rfl (rd_move rfl) <| gl_op <| op_rd rfl (rd_lenSlice Tryz.underlying29 rfl) <| gl_op (op_rd rfl (rd_neq rfl rfl) (gk_dec (fun h10 => ?_) (fun h10 => ?_)))
  · refine gl_nil <| gx_then <| gc_cond_t rfl <| gc_seq <| gc_region <| gl_op <| op_rd rfl (rd_assign rfl) <| gl_nil <| gx_then <| gc_ret <| gx_then_ret <| gx_ret1 (.inl rfl) Tryz.results21 rfl [] (by decide) ?_
    refine ⟨congrArg Value.bool (Eq.symm ?_), rfl⟩
    exact decide_eq_false (fun e => by subst e; omega)
  refine gl_nil <| gx_then <| gc_cond_f rfl <| gc_skip <| gx_then <| gc_seq <| gc_seq <| gc_region <| gl_op <| op_rd rfl (rd_assign rfl) <| gl_nil <| gx_then <| gc_block <| gc_loopF (ι := Nat) [(0, _), (1, _)] [] (fun k => k ≤ xs.length ∧ xs.take k = ys.take k) (fun k Fr0 => ((5, natV k) :: Fr0)) (fun k Fr0 => Fr0) (fun k => xs.length - k) 0 (⟨Nat.zero_le _, rfl⟩) ⟨rfl, rfl, rfl, trivial⟩ ⟨[], by decide, rfl⟩ ?_
  rintro k ⟨hk, htk⟩
  refine gc_seq <| gc_seq <| gc_region <| gl_op <| op_rd rfl (rd_move rfl) <| gl_op <| op_rd rfl (rd_move rfl) <| gl_op <| op_rd rfl (rd_lenSlice Tryz.underlying29 rfl) <| gl_op (op_rd rfl (rd_lss rfl rfl) (gk_dec (fun h14 => ?_) (fun h14 => ?_)))
  · obtain ⟨u, hu⟩ := get_some (show k < xs.length by omega)
    obtain ⟨v, hv⟩ := get_some (show k < ys.length by omega)
    refine gl_nil <| gx_then <| gc_cond_t rfl <| gc_skip <| gx_then <| gc_seq <| gc_block <| gc_seq <| gc_drawP [] true 8 rfl <| ga_first 0 (bm 9 1) rfl rfl rfl rfl (by kernel_rfl) (by kernel_rfl) ⟨[], by decide, rfl⟩ (qt_rd (rd_move rfl)) ?_
    refine ga_first 1 (bm 9 3) rfl rfl rfl rfl (by kernel_rfl) (by kernel_rfl) ⟨[], by decide, rfl⟩ (qt_rd (rd_move rfl)) ?_
    refine ga_first 2 (bm 9 7) rfl rfl rfl rfl (by kernel_rfl) (by kernel_rfl) ⟨[], by decide, rfl⟩ (qt_rd (rd_indexOld1 hx Tryz.underlying29 ty_3 rfl rfl (by omega) (by omega))) ?_
    refine ga_first 3 (bm 9 15) rfl rfl rfl rfl (by kernel_rfl) (by kernel_rfl) ⟨[], by decide, rfl⟩ (qt_rd (rd_load Tryz.underlying3 rfl rfl (ld_slN hx (get_z hu)))) ?_
    refine ga_first 4 (bm 9 31) rfl rfl rfl rfl (by kernel_rfl) (by kernel_rfl) ⟨[], by decide, rfl⟩ (qt_rd (rd_move rfl)) ?_
    refine ga_first 5 (bm 9 63) rfl rfl rfl rfl (by kernel_rfl) (by kernel_rfl) ⟨[], by decide, rfl⟩ (qt_rd (rd_move rfl)) ?_
    refine ga_first 6 (bm 9 127) rfl rfl rfl rfl (by kernel_rfl) (by kernel_rfl) ⟨[], by decide, rfl⟩ (qt_rd (rd_indexOld1 hy Tryz.underlying29 ty_3 rfl rfl (by omega) (by omega))) ?_
    refine ga_first 7 (bm 9 255) rfl rfl rfl rfl (by kernel_rfl) (by kernel_rfl) ⟨[], by decide, rfl⟩ (qt_rd (rd_load Tryz.underlying3 rfl rfl (ld_slN hy (get_z hv)))) ?_
    refine ga_first 8 (bm 9 511) rfl rfl rfl rfl (by kernel_rfl) (by kernel_rfl) ⟨[], by decide, rfl⟩ (qt_rd (rd_neq rfl rfl)) (gk_dec (fun h25 => ?_) (fun h25 => ?_))
    · refine ga_end (by kernel_rfl) (.inr ⟨[], by decide, rfl⟩) ?_
      refine gx_then <| gc_cond_t rfl <| gc_seq <| gc_region <| gl_op <| op_rd rfl (rd_assign rfl) <| gl_nil <| gx_then <| gc_ret <| gx_block_ret <| gx_then_ret <| gx_then_ret <| gx_block_ret <| gx_then_ret <| gx_ret1 (.inl rfl) Tryz.results21 rfl [] (by decide) ?_
      refine ⟨congrArg Value.bool (Eq.symm ?_), rfl⟩
      exact decide_eq_false (fun e => by subst e; rw [hu] at hv; cases hv; omega)
    refine ga_end (by kernel_rfl) (.inr ⟨[], by decide, rfl⟩) ?_
    refine gx_then <| gc_cond_f rfl <| gc_skip <| gx_block <| gx_then <| gc_region <| gl_op <| op_rd rfl (rd_move rfl) <| gl_op (op_rd rfl (by exact rd_addN (b := 1) rfl rfl (by omega)) ?_)
    refine gl_op <| op_rd rfl (rd_assign rfl) <| gl_nil <| gx_then ?_
    exact gx_cut (k + 1) ⟨⟨by omega, by rw [take_at hu, take_at hv, htk, show u = v by omega]⟩, by omega⟩ ⟨rfl, rfl, rfl, trivial⟩ ⟨[], by decide, rfl⟩
  refine gl_nil <| gx_then <| gc_cond_f rfl <| gc_exit <| gx_then_exit <| gx_then_exit <| gx_block_exit <| gx_then <| gc_seq <| gc_region <| gl_op <| op_rd rfl (rd_assign rfl) <| gl_nil <| gx_then <| gc_ret <| gx_ret1 (.inl rfl) Tryz.results21 rfl [] (by decide) ?_
  refine ⟨congrArg Value.bool (Eq.symm ?_), rfl⟩
  rw [List.take_of_length_le (by omega), List.take_of_length_le (by omega)] at htk
  exact decide_eq_true htk
end Go.Proofs.YtbjijbbkfgcleaaGreatDoor
namespace Go.Proofs.YtbjijbbkfgcleaaGreatDoor
open Go.Gv
open Go.RowKit
open Go.Sn
open Sx
namespace Sx
def setC (X : Nat) : List Value := [.int .u64 ((loW X : Nat) : Int), .int .u64 ((hiW X : Nat) : Int)]
theorem setC_at (X i : Nat) (hi : i < 2) : (setC X)[i]? = some (.int .u64 ((wordOf X i : Nat) : Int)) := by
  rcases (show i = 0 ∨ i = 1 by omega) with rfl | rfl <;> rfl
theorem setC_set {X n : Nat} (hn : n < 128) : (setC X).set (n / 64) (.int .u64 ((wordOf X (n / 64) ||| 2 ^ (n % 64) : Nat) : Int)) = setC (X ||| 2 ^ n) := by
  by_cases h : n < 64
  · rw [Nat.div_eq_of_lt h, Nat.mod_eq_of_lt h]
    simp [setC, wordOf, lo_or h, hi_or h]
  · rw [show n / 64 = 1 by omega, show n % 64 = n - 64 by omega]
    simp [setC, wordOf, lo_or' (show 64 ≤ n by omega), hi_or' (show 64 ≤ n by omega)]
theorem flat_setOne {α : Type} (f : α → List Value) (m : Nat) (hf : ∀ x, (f x).length = m) {j : Nat} {v : Value} (hj : j < m) : ∀ (zs : List α) (k : Nat) (x x' : α), zs[k]? = some x → (f x).set j v = f x' → (zs.flatMap f).set (k * m + j) v = (zs.set k x').flatMap f
  | [], k, x, x', hx, _ => by simp at hx
  | z :: zs, 0, x, x', hx, h => by
    simp only [List.getElem?_cons_zero, Option.some.injEq] at hx
    subst hx
    rw [Nat.zero_mul, Nat.zero_add, List.set_cons_zero, List.flatMap_cons, List.flatMap_cons, ← h, List.set_append_left _ _ (by rw [hf]; exact hj)]
  | z :: zs, k + 1, x, x', hx, h => by
    have ih := flat_setOne f m hf hj zs k x x' (by simpa using hx) h
    rw [List.set_cons_succ, List.flatMap_cons, List.flatMap_cons, List.set_append_right _ _ (by rw [hf, Nat.add_mul]; omega), ← ih]
    congr 2
    rw [hf, Nat.add_mul]; omega
theorem wordOf_lt {X i : Nat} (hX : X < 2 ^ 128) : wordOf X i < 18446744073709551616 := by
  unfold wordOf; split
  · exact loW_lt X
  · exact hiW_lt hX
/-- Go's table in memory -/
def TabIn (w : World) : Prop := ∀ i, i < 64 → w.cell? ((⟨0, 0, none⟩ : Addr).add i) = some (.int .u8 ((tab64.getD i 0 : Nat) : Int))
theorem TabIn.lt {w : World} (h : TabIn w) : 0 < w.heap.size := cell_lt (h 0 (by decide))
theorem TabIn.at {w0 w : World} {S : List Nat} {l : List HL} (h : TabIn w0) (ho : Own w0 S w l) (hS : 0 ∉ S) : TabIn w := fun i hi => ho.cellOld (h i hi) (by rw [block_add]; exact hS)
theorem pow_mod_lt (n : Nat) : 1 * 2 ^ (n % 64) < 18446744073709551616 := by
  rw [Nat.one_mul]
  exact Nat.pow_lt_pow_right (by decide) (show n % 64 < 64 by omega)
end Sx
open Sx
set_option maxRecDepth 100000 in
set_option maxHeartbeats 1000000 in
theorem add_ok (sets : List Nat) (d n b cap nn : Nat) (hnn : sets.length = nn) (hd : d < sets.length) (hn : n < 128) (hlt : ∀ x ∈ sets, x < 2 ^ 128) (w0 : World) (hown : Own w0 [b] w0 [.row 87 2 (some b) nn cap (sets.flatMap setC)]) : Sp Tryz.prog 42 [.pointer (some ⟨b, d * 2, none⟩), natV n] w0 [b] (fun v L => v = .tuple #[] ∧ L = [.row 87 2 (some b) nn cap ((addSet sets (d, n)).flatMap setC)]) := by
  obtain ⟨X, hX⟩ := get_some hd
  have hXl := hlt X (List.mem_of_getElem? hX)
  refine spec_enter Tryz.func42 rfl Tryz.ntmps42 rfl hown ?_
  simp only [argEnv]
  refine gc_drawP [0] false 12 rfl <| ga_first 0 (bm 13 1) rfl rfl rfl rfl (by kernel_rfl) (by kernel_rfl) ⟨[0], by decide, rfl⟩ (qt_rd (rd_move rfl)) ?_
  refine ga_first 1 (bm 13 3) rfl rfl rfl rfl (by kernel_rfl) (by kernel_rfl) ⟨[0], by decide, rfl⟩ (qt_rd (rd_move rfl)) ?_
  refine ga_first 2 (bm 13 7) rfl rfl rfl rfl (by kernel_rfl) (by kernel_rfl) ⟨[0], by decide, rfl⟩ (qt_rd (by exact rd_quoN (b := 64) rfl rfl (by omega) (by omega))) ?_
  refine ga_first 3 (bm 13 15) rfl rfl rfl rfl (by kernel_rfl) (by kernel_rfl) ⟨[0], by decide, rfl⟩ (qt_rd (rd_nilCheck rfl)) ?_
  refine ga_first 4 (bm 13 31) rfl rfl rfl rfl (by kernel_rfl) (by kernel_rfl) ⟨[0], by decide, rfl⟩ (qt_rd (rd_indexArrN Tryz.underlying87 ty_85 rfl rfl (by omega))) ?_
  refine ga_first 5 (bm 13 63) rfl rfl rfl rfl (by kernel_rfl) (by kernel_rfl) ⟨[0], by decide, rfl⟩ (qt_rd (rd_load Tryz.underlying85 rfl rfl (ld_row 0 (a := some b) rfl (get_flat setC 2 (fun _ => rfl) hX (j := n / 64) (by omega) (setC_at X (n / 64) (by omega)))))) ?_
  refine ga_first 6 (bm 13 127) rfl rfl rfl rfl (by kernel_rfl) (by kernel_rfl) ⟨[0], by decide, rfl⟩ (qt_rd (rd_move rfl)) ?_
  refine ga_first 7 (bm 13 255) rfl rfl rfl rfl (by kernel_rfl) (by kernel_rfl) ⟨[0], by decide, rfl⟩ (qt_rd (by exact rd_remN (b := 64) rfl rfl (by omega))) ?_
  refine ga_first 8 (bm 13 511) rfl rfl rfl rfl (by kernel_rfl) (by kernel_rfl) ⟨[0], by decide, rfl⟩ (qt_rd (rd_shlU (a := 1) (b := n % 64) (c := 2 ^ (n % 64)) rfl rfl (by omega) (pow_mod_lt n) (by rw [Nat.shiftLeft_eq, Nat.one_mul]))) ?_
  refine ga_first 9 (bm 13 1023) rfl rfl rfl rfl (by kernel_rfl) (by kernel_rfl) ⟨[0], by decide, rfl⟩ (qt_rd (rd_orU (a := wordOf X (n / 64)) (b := 2 ^ (n % 64)) rfl rfl (wordOf_lt hXl) (by have := pow_mod_lt n; omega) rfl)) ?_
  refine ga_only 10 (bm 13 2047) rfl rfl (by kernel_rfl) (by kernel_rfl) (.inr ⟨[0], by decide, rfl⟩) (op_rd rfl (rd_nilCheck rfl) ?_)
  refine ga_first 11 (bm 13 4095) rfl rfl rfl rfl (by kernel_rfl) (by kernel_rfl) ⟨[0], by decide, rfl⟩ (qt_rd (rd_indexArrN Tryz.underlying87 ty_85 rfl rfl (by omega))) ?_
  refine ga_only 12 (bm 13 8191) rfl rfl (by kernel_rfl) (by kernel_rfl) (.inr ⟨[0], by decide, rfl⟩) (op_storeRowE 0 ty_85 rfl rfl rfl rfl (by rw [flat_len setC 2 (fun _ => rfl)]; omega) (show (sets.flatMap setC).set (d * 2 + n / 64) _ = (sets.set d (X ||| 2 ^ n)).flatMap setC from flat_setOne setC 2 (fun _ => rfl) (by omega) sets d X _ hX (setC_set hn)) (by rfl) ?_)
  refine ga_end (by kernel_rfl) (.inl (by kernel_rfl)) ?_
  refine gx_ret0 (.inr rfl) Tryz.results42 [0] (by decide) ?_
  refine ⟨rfl, ?_⟩
  unfold addSet
  rw [getD_some hX]
  rfl
set_option maxRecDepth 100000 in
set_option maxHeartbeats 1000000 in
theorem hasSet_ok (X n : Nat) (hX : X < 2 ^ 128) (hn : n < 128) (w0 : World) : Sp Tryz.prog 55 [.agg #[.int .u64 ((loW X : Nat) : Int), .int .u64 ((hiW X : Nat) : Int)], natV n] w0 [] (RV (.bool (X.testBit n))) := by
  refine spec_enter Tryz.func55 rfl Tryz.ntmps55 rfl (Own.refl _) ?_
  simp only [argEnv]
  refine gc_seq <| gc_region <| gl_op (op_box rfl rfl rfl (fun b2 => ?_))
  refine gl_op <| op_rd rfl (rd_assign rfl) <| gl_nil <| gx_then <| gc_seq <| gc_region <| gl_op <| op_rd rfl (rd_move rfl) <| gl_op (op_rd rfl (by exact rd_quoN (b := 64) rfl rfl (by omega) (by omega)) ?_)
  refine gl_op (op_rd rfl (rd_indexArr Tryz.underlying87 ty_85 rfl rfl (by omega) (by omega)) ?_)
  refine gl_op (op_rd rfl (rd_load Tryz.underlying85 rfl rfl (fun w ho => ho.blkCells 0 rfl (n / 64) _ (setC_at X (n / 64) (by omega)))) ?_)
  refine gl_op <| op_rd rfl (rd_move rfl) <| gl_op (op_rd rfl (by exact rd_remN (b := 64) rfl rfl (by omega)) ?_)
  refine gl_op <| op_rd rfl (rd_shrU (a := wordOf X (n / 64)) (b := n % 64) rfl rfl (wordOf_lt hX) rfl) <| gl_op (op_rd rfl (rd_andU (a := wordOf X (n / 64) >>> (n % 64)) (b := 1) rfl rfl (Nat.lt_of_le_of_lt (Nat.shiftRight_le _ _) (wordOf_lt hX)) (by decide) rfl) ?_)
  refine gl_op <| op_rd rfl (rd_eql rfl rfl) <| gl_op <| op_rd rfl (rd_assign rfl) <| gl_nil <| gx_then <| gc_ret <| gx_ret1 (.inl rfl) Tryz.results55 rfl [] (by decide) ?_
  refine ⟨congrArg Value.bool ?_, rfl⟩
  rw [Bool.eq_iff_iff, decide_eq_true_eq, ← has_bit hn]
  omega
set_option maxRecDepth 100000 in
set_option maxHeartbeats 1000000 in
theorem tz_ok (W : Nat) (h0 : 0 < W) (hW : W < 18446744073709551616) (w0 : World) (hT : TabIn w0) : Sp Tryz.prog 61 [.int .u64 (W : Int)] w0 [] (RV (natV (tz 64 W))) := by
  obtain ⟨hb1, hb2, hb3⟩ := tz_bit 64 W h0 (by rw [← p64]; exact hW)
  obtain ⟨k, hk⟩ : ∃ k, tz 64 W = k := ⟨_, rfl⟩
  rw [hk] at hb1 hb2 hb3 ⊢
  clear hk
  obtain ⟨ht1, ht2⟩ := tab64_at ⟨k, hb3⟩
  simp only at ht1 ht2
  obtain ⟨x, hx⟩ : ∃ x, dbIx k = x := ⟨_, rfl⟩
  rw [hx] at ht1 ht2
  refine spec_enter Tryz.func61 rfl Tryz.ntmps61 rfl (Own.refl _) ?_
  simp only [argEnv]
  refine gc_seq <| gc_region <| gl_op <| op_rd rfl (rd_assign rfl) <| gl_nil <| gx_then <| gc_seq <| gc_seq <| gc_region <| gl_op <| op_rd rfl (rd_move rfl) <| gl_op (op_rd rfl (rd_eql rfl rfl) (gk_dec (fun h4 => ?_) (fun h4 => ?_)))
  · exfalso; omega
  refine gl_nil <| gx_then <| gc_cond_f rfl <| gc_skip <| gx_then <| gc_seq <| gc_region <| gl_op <| op_rd rfl (rd_move rfl) <| gl_op <| op_rd rfl (rd_move rfl) <| gl_op <| op_rd rfl (rd_negU rfl h0 hW) <| gl_op (op_rd rfl (rd_andU (a := W) (b := 18446744073709551616 - W) (c := 2 ^ k) rfl rfl hW (by omega) (and_neg h0 hW hb1 hb2)) ?_)
  refine gl_op <| op_rd rfl (rd_mulUw (a := 2 ^ k) (b := 285870213051353865) rfl rfl rfl) <| gl_op (op_rd rfl (rd_shrU (b := 58) (c := x) rfl rfl (Nat.mod_lt _ (by decide)) hx) ?_)
  refine gl_op (op_rd rfl (rd_indexArr (ad := ⟨0, 0, none⟩) Tryz.underlying156 ty_5 rfl rfl (by omega) (by omega)) ?_)
  refine gl_op (op_rd rfl (rd_load Tryz.underlying5 rfl rfl (fun w ho => ho.cellOld (hT _ ht1) (by simp))) ?_)
  refine gl_op (op_rd rfl (rd_conv Tryz.runUnderlying5 Tryz.runUnderlying3 rfl (by simp only [Int.toNat_natCast]; rw [ht2]; exact wrap_i64_nat (by omega) : IntKind.i64.wrap _ = ((k : Nat) : Int))) ?_)
  refine gl_op <| op_rd rfl (rd_assign rfl) <| gl_nil <| gx_then <| gc_ret <| gx_ret1 (.inl rfl) Tryz.results61 rfl [] (by decide) ?_
  exact ⟨rfl, rfl⟩
end Go.Proofs.YtbjijbbkfgcleaaGreatDoor
namespace Go.Proofs.YtbjijbbkfgcleaaGreatDoor
open Go.Gv
open Go.RowKit
open Go.Sn
open Sx
namespace Sx
def restW (X i W : Nat) : List Nat := (bits64 W).map (64 * i + ·) ++ (if i = 0 then (bits64 (hiW X)).map (64 + ·) else [])
def restI (X i : Nat) : List Nat := if i < 2 then restW X i (wordOf X i) else []
theorem restI_zero (X : Nat) : restI X 0 = bitsOf X := by
  unfold restI restW wordOf
  rw [bitsOf_split]
  simp
theorem restW_zero {X i : Nat} (hi : i < 2) : restW X i 0 = restI X (i + 1) := by
  unfold restI restW wordOf
  rw [bits64_zero]
  rcases (show i = 0 ∨ i = 1 by omega) with rfl | rfl
  · simp
  · simp
theorem restW_cons {X i W : Nat} (h0 : 0 < W) (hW : W < 18446744073709551616) : restW X i W = (64 * i + tz 64 W) :: restW X i (W &&& (W - 1)) := by
  unfold restW
  rw [bits64_cons h0 hW]; rfl
theorem restW_len {W : Nat} (h0 : 0 < W) (hW : W < 18446744073709551616) : (bits64 (W &&& (W - 1))).length < (bits64 W).length := by
  rw [bits64_cons h0 hW]; simp
theorem drop_cons {l r : List Nat} {j a : Nat} (h : l.drop j = a :: r) : j < l.length ∧ l.getD j 0 = a ∧ l.drop (j + 1) = r := by
  have hl : j < l.length := by
    rcases Nat.lt_or_ge j l.length with h1 | h1
    · exact h1
    · rw [List.drop_eq_nil_of_le h1] at h; cases h
  obtain ⟨x, hx⟩ := get_some hl
  rw [drop_at hx] at h
  simp only [List.cons.injEq] at h
  exact ⟨hl, by rw [getD_some hx]; exact h.1, h.2⟩
theorem setC_arr (X i : Nat) (hi : i < 2) : (setC X).toArray[i]? = some (.int .u64 ((wordOf X i : Nat) : Int)) := by
  rw [List.getElem?_toArray]; exact setC_at X i hi
theorem drop_end {l : List Nat} {j : Nat} (h : l.drop j = []) (hj : j ≤ l.length) : j = l.length := by
  have := List.length_drop (i := j) (l := l)
  rw [h] at this
  simp at this; omega
end Sx
open Sx
set_option maxRecDepth 100000 in
set_option maxHeartbeats 1000000 in
theorem allIt_ok (X : Nat) (hX : X < 2 ^ 128) (bx lb : Nat) (J Jx : Nat → List HL → Prop) (hG : ∀ i L, J i L → HL.blk bx (setC X) 87 ∈ L) (w1 : World) (L : List HL) (hY : YOk Tryz.prog lb (bitsOf X).length (fun i => [natV ((bitsOf X).getD i 0)]) J Jx w1 (L.filterMap HL.block)) (h0 : J 0 L) (ho : Own w1 (L.filterMap HL.block) w1 L) (hT : TabIn w1) (hg : 0 ∉ L.filterMap HL.block) : Sp Tryz.prog 60 [.func (.yield lb) #[] #[], .pointer (some ⟨bx, 0, none⟩)] w1 (L.filterMap HL.block) (fun _ L2 => J (bitsOf X).length L2 ∨ ∃ i, i < (bitsOf X).length ∧ Jx i L2) := by
  have hbl := bits64_len (wordOf X 0)
  refine spec_enterM Tryz.func60 rfl Tryz.ntmps60 rfl ho ?_
  simp only [argEnv]
  refine rc_seq <| rc_region <| rl_op (by nofun) (op_rd rfl (rd_loadAgg Tryz.underlying87 rfl ty_87 rfl (cs_mem (hG _ _ h0)) rfl) ?_)
  refine rl_op (by nofun) (op_rd rfl (rd_move rfl) ?_)
  refine rl_nil <| gx_then <| rc_block <| rc_loopF (ι := Nat × Nat × List HL) [(0, _), (5, _)] [] (fun q => q.1 ≤ 2 ∧ J q.2.1 q.2.2 ∧ (bitsOf X).drop q.2.1 = restI X q.1 ∧ q.2.1 ≤ (bitsOf X).length) (fun q Fr0 => ((6, natV q.1) :: Fr0)) (fun q Fr0 => (Fr0 ++ q.2.2)) (fun q => 2 - q.1) (0, 0, L) (⟨Nat.zero_le _, h0, (restI_zero X).symm, Nat.zero_le _⟩) ⟨rfl, rfl, rfl, trivial⟩ (sub_tail (A := []) (B := []) (T := L) [] 0 (by decide) (by decide) rfl rfl) ?_
  rintro ⟨i, j, T⟩ ⟨hi2, hJ, hd, hjl⟩
  simp only at hi2 hJ hd hjl ⊢
  refine rc_seq <| rc_region <| rl_op (by nofun) (op_rd rfl (rd_lss rfl rfl) (gk_dec (fun h7 => ?_) (fun h7 => ?_)))
  · refine rl_nil <| gx_then <| rc_seq <| rc_cond_t rfl <| rc_skip <| gx_then <| rc_seq <| rc_block <| rc_seq <| rc_region <| rl_op (by nofun) (op_rd rfl (rd_move rfl) ?_)
    refine rl_op (by nofun) (op_rd rfl (rd_indexArrV Tryz.underlying87 Tryz.underlying85 ty_85 rfl rfl (by omega) (setC_arr X i (by omega))) ?_)
    refine rl_op (by nofun) (op_rd rfl (rd_assign rfl) ?_)
    refine rl_op (by nofun) (op_rd rfl (rd_assign rfl) ?_)
    refine rl_nil <| gx_then <| rc_block <| rc_loopF (ι := Nat × Nat × List HL) [(0, _), (3, _), (5, _), (6, _)] [] (fun q => q.1 < 18446744073709551616 ∧ J q.2.1 q.2.2 ∧ (bitsOf X).drop q.2.1 = restW X i q.1 ∧ q.2.1 ≤ (bitsOf X).length) (fun q Fr0 => ((4, .int .u64 (q.1 : Int)) :: Fr0)) (fun q Fr0 => (Fr0 ++ q.2.2)) (fun q => (bits64 q.1).length) (wordOf X i, j, T) (⟨wordOf_lt hX, hJ, by simp only; rw [hd]; unfold restI; rw [if_pos (by omega)], hjl⟩) ⟨rfl, rfl, rfl, rfl, rfl, trivial⟩ (sub_tail (A := []) (B := []) (T := T) [] 0 (by decide) (by decide) rfl rfl) ?_
    rintro ⟨W, j2, T3⟩ ⟨hW, hJ3, hd3, hjl3⟩
    simp only at hW hJ3 hd3 hjl3 ⊢
    refine rc_seq <| rc_seq <| rc_region <| rl_op (by nofun) (op_rd rfl (rd_move rfl) ?_)
    refine rl_op (by nofun) (op_rd rfl (rd_neq rfl rfl) (gk_dec (fun h11 => ?_) (fun h11 => ?_)))
    · have htz := (tz_bit 64 W (by omega) (by rw [← p64]; exact hW)).2.2
      refine rl_nil <| gx_then <| rc_cond_t rfl <| rc_skip <| gx_then <| rc_seq <| rc_block <| rc_seq <| rc_region <| rl_op (by nofun) (op_rd rfl (rd_move rfl) ?_)
      refine rl_op (by nofun) (op_rd rfl (rd_move rfl) ?_)
      refine rl_op (by nofun) (op_rd rfl (by exact rd_mulN (a := 64) rfl rfl (by omega)) ?_)
      refine rl_op (by nofun) (op_rd rfl (rd_move rfl) ?_)
      refine rl_op (by nofun) (op_call rfl (vf := []) (vc := []) rfl rfl Tryz.call61 (fun w2 how => tz_ok W (by omega) hW w2 (hT.at how hg)) ?_)
      rintro _ _ ⟨rfl, rfl⟩
      refine rl_op (by nofun) (op_rd rfl (by exact rd_addN rfl rfl (by omega)) ?_)
      obtain ⟨hjl2, hjd, hjr⟩ := drop_cons (hd3.trans (restW_cons (X := X) (i := i) (show 0 < W by omega) hW))
      refine rl_opI (op_yield [] T3 hY hjl2 hJ3 rfl rfl rfl (congrArg (fun z => some [natV z]) hjd.symm) (fun T2 hJ2 => ?_) (fun T2 hJ2 => ?_))
      · refine rl_op (by nofun) (op_rd rfl (rd_not rfl) ?_)
        refine rl_nil <| gx_then <| rc_cond_f rfl <| rc_skip <| gx_block <| gx_then <| rc_region <| rl_op (by nofun) (op_rd rfl (rd_move rfl) ?_)
        refine rl_op (by nofun) (op_rd rfl (rd_move rfl) ?_)
        refine rl_op (by nofun) (op_rd rfl (rd_subU (a := W) (b := 1) rfl rfl (by omega) rfl hW) ?_)
        refine rl_op (by nofun) (op_rd rfl (rd_andU (a := W) (b := W - 1) rfl rfl hW (by omega) rfl) ?_)
        refine rl_op (by nofun) (op_rd rfl (rd_assign rfl) ?_)
        refine rl_nil <| gx_then ?_
        exact gx_cut ((W &&& (W - 1), j2 + 1, T2)) ⟨⟨Nat.lt_of_le_of_lt Nat.and_le_left hW, hJ2, hjr, by simp only; omega⟩, restW_len (by omega) hW⟩ ⟨rfl, rfl, rfl, rfl, rfl, trivial⟩ (sub_tail (A := []) (B := []) (T := T2) [] 0 (by decide) (by decide) rfl rfl)
      refine rl_op (by nofun) (op_rd rfl (rd_not rfl) ?_)
      refine rl_nil <| gx_then <| rc_cond_t rfl <| rc_ret <| gx_block_ret <| gx_then_ret <| gx_then_ret <| gx_block_ret <| gx_block_ret <| gx_then_ret <| gx_then_ret <| gx_block_ret <| gx_retM0 [] (.inl rfl) Tryz.results60 (Sub.refl' _) ?_
      exact .inr ⟨j2, hjl2, hJ2⟩
    refine rl_nil <| gx_then <| rc_cond_f rfl <| rc_exit <| gx_then_exit <| gx_then_exit <| gx_block_exit <| gx_block <| gx_then <| rc_region <| rl_op (by nofun) (op_rd rfl (by exact rd_addN (b := 1) rfl rfl (by omega)) ?_)
    refine rl_op (by nofun) (op_rd rfl (rd_move rfl) ?_)
    refine rl_nil <| gx_then ?_
    exact gx_cut ((i + 1, j2, T3)) ⟨⟨by simp only; omega, hJ3, by simp only; rw [hd3, show W = 0 by omega]; exact restW_zero (by omega), hjl3⟩, by simp only; omega⟩ ⟨rfl, rfl, rfl, trivial⟩ (sub_tail (A := []) (B := []) (T := T3) [] 0 (by decide) (by decide) rfl rfl)
  refine rl_nil <| gx_then <| rc_seq <| rc_cond_f rfl <| rc_exit <| gx_then_exit <| gx_then_exit <| gx_block_exit <| gx_retM0 [] (.inr rfl) Tryz.results60 (Sub.refl' _) ?_
  have hj9 : j = (bitsOf X).length := drop_end (hd.trans (by unfold restI; rw [if_neg (by omega)])) hjl
  exact .inl (hj9 ▸ hJ)
end Go.Proofs.YtbjijbbkfgcleaaGreatDoor
namespace Go.Proofs.YtbjijbbkfgcleaaGreatDoor
open Go.Gv
open Go.RowKit
open Go.Sn
open Sx
namespace Sx
theorem take_snocN {l : List Nat} {i : Nat} (h : i < l.length) : (l.take i).map natV ++ [natV (l.getD i 0)] = (l.take (i + 1)).map natV := by
  obtain ⟨x, hx⟩ := get_some h
  rw [take_at hx, getD_some hx, List.map_append]; rfl
end Sx
open Sx
set_option maxRecDepth 100000 in
set_option maxHeartbeats 1000000 in
theorem all_ok (X : Nat) (w0 : World) : Sp Tryz.prog 36 [.agg #[.int .u64 ((loW X : Nat) : Int), .int .u64 ((hiW X : Nat) : Int)]] w0 [] (fun v L => ∃ bx, v = .func (.func 60) #[] #[.pointer (some ⟨bx, 0, none⟩)] ∧ L = [.blk bx (setC X) 87]) := by
  refine spec_enter Tryz.func36 rfl Tryz.ntmps36 rfl (Own.refl _) ?_
  simp only [argEnv]
  refine gc_seq <| gc_region <| gl_op (op_box rfl rfl rfl (fun b1 => ?_))
  refine gl_op <| op_rd rfl (rd_assign rfl) <| gl_nil <| gx_then <| gc_seq <| gc_region <| gl_op <| op_rd rfl (rd_makeFunc (fs := []) (cs := [.tmp 1]) rfl rfl) <| gl_op <| op_rd rfl (rd_assign rfl) <| gl_nil <| gx_then <| gc_ret <| gx_ret1 (.inl rfl) Tryz.results36 rfl [0] (by decide) ?_
  exact ⟨b1, rfl, rfl⟩
set_option maxRecDepth 100000 in
set_option maxHeartbeats 1000000 in
theorem AppendSeq_ok (X : Nat) (hX : X < 2 ^ 128) (bx : Nat) (w0 : World) (hT : TabIn w0) (hbx : 0 ∉ [bx]) (hown : Own w0 [bx] w0 [.blk bx (setC X) 87]) : Sp Tryz.prog 81 [.slice none 0 0, .func (.func 60) #[] #[.pointer (some ⟨bx, 0, none⟩)]] w0 [bx] (fun v L => ∃ r c, v = .slice (rowA r) (bitsOf X).length c ∧ L = [.row 3 1 r (bitsOf X).length c ((bitsOf X).map natV)]) := by
  refine spec_enterM Tryz.func81 rfl Tryz.ntmps81 rfl hown ?_
  simp only [argEnv]
  refine rc_seq <| rc_region <| rl_op (by nofun) (op_box rfl rfl rfl (fun b2 => ?_))
  refine rl_op (by nofun) (op_rd rfl (rd_assign rfl) ?_)
  refine rl_nil <| gx_then <| rc_seq <| rc_seq <| rc_region <| rl_op (by nofun) (op_rd rfl (rd_move rfl) ?_)
  refine rl_nil <| gx_then <| rc_block <| gk_nil 3 1 <| gk_heap [1, 0, 2] (by decide) ?_
  refine gk_env [(0, _), (1, _), (2, _), (4, _), (6, _)] ⟨rfl, rfl, rfl, rfl, rfl, trivial⟩ ?_
  refine rc_rangeF (β := Unit) (N := (bitsOf X).length) (xs := fun i => natV ((bitsOf X).getD i 0)) (gf := 60) (caps := [.pointer (some ⟨bx, 0, none⟩)]) (fun i _ => [(5, natV ((bitsOf X).getD i 0))]) (fun i _ => []) rfl Tryz.call60 rfl (fun i L => ∃ r c, L = [.blk b2 [.slice (rowA r) i c] 29, .row 3 1 r i c (((bitsOf X).take i).map natV), .blk bx (setC X) 87]) (fun _ _ _ => False) (fun L => HL.blk bx (setC X) 87 ∈ L) (fun i L hd h => by
    rcases h with ⟨r, c, rfl⟩ | ⟨c, h⟩
    · exact List.mem_append_right _ (by simp)
    · exact h.elim) (⟨none, 0, rfl⟩) (fun lb J Jx hG w1 L hY hJ hO => allIt_ok X hX bx lb J Jx hG w1 L hY hJ hO.self (hT.at hO hbx) (old_out hO hT.lt hbx)) ?_ ?_ ?_ ?_
  · intro i lb w1 S1 L1 K1 Q1 hk1
    refine rc_region <| rl_op (by nofun) (op_rd rfl (rd_assign rfl) ?_)
    refine rl_nil <| gx_then ?_
    exact gk_env _ (by exact ⟨rfl, rfl, rfl, rfl, rfl, rfl, trivial⟩) (hk1 ())
  · intro i hi L hI lb D rec w1 S1 _ rec9 hO9 hS9
    obtain ⟨r, c, rfl⟩ := hI
    have hbl := bitsOf_len X
    refine rc_block <| rc_region <| rl_op (by nofun) (op_rd rfl (rd_load Tryz.underlying29 rfl rfl (by exact ld_blk 2 rfl rfl)) ?_)
    refine rl_op (by nofun) (op_rd rfl (rd_move rfl) ?_)
    refine rl_op (by nofun) (op_buildSlice (sz := 1) rfl rfl (fun _ => bs_29_1_0 _) rfl rfl (fun b10 => ?_))
    refine rl_op (by nofun) (op_appendRow 4 0 Tryz.underlying29 ty_3 rfl (by decide) rfl rfl rfl rfl rfl (by simp [Value.oneCell']) (by omega) (by omega) (fun _ => (by rfl)) (fun r11 c11 => ?_))
    refine rl_op (by nofun) (op_store 3 ty_29 rfl rfl rfl rfl rfl (by rfl) (by rfl) ?_)
    refine rl_nil <| gx_block ?_
    rw [take_snocN hi]
    exact rp_normal _ (⟨r11, c11, rfl⟩) ⟨[1, 2, 3, 4, 5], by decide, rfl⟩
  · intro D L hI
    obtain ⟨r, c, rfl⟩ := hI
    refine gx_block <| gx_then <| rc_seq <| rc_region <| rl_op (by nofun) (op_rd rfl (rd_load Tryz.underlying29 rfl rfl (by exact ld_blk 1 rfl rfl)) ?_)
    refine rl_op (by nofun) (op_rd rfl (rd_assign rfl) ?_)
    refine rl_nil <| gx_then <| rc_ret <| gx_retM1 [D] (.inl rfl) Tryz.results81 rfl ⟨[0, 2], by decide, rfl⟩ ?_
    exact ⟨r, c, rfl, by rw [List.take_length]; rfl⟩
  · intro D c i L hi hI
    exact hI.elim
set_option maxRecDepth 100000 in
set_option maxHeartbeats 1000000 in
theorem Collect_ok (X : Nat) (hX : X < 2 ^ 128) (bx : Nat) (w0 : World) (hT : TabIn w0) (hbx : 0 ∉ [bx]) (hown : Own w0 [bx] w0 [.blk bx (setC X) 87]) : Sp Tryz.prog 59 [.func (.func 60) #[] #[.pointer (some ⟨bx, 0, none⟩)]] w0 [bx] (fun v L => ∃ r c, v = .slice (rowA r) (bitsOf X).length c ∧ L = [.row 3 1 r (bitsOf X).length c ((bitsOf X).map natV)]) := by
  refine spec_enter Tryz.func59 rfl Tryz.ntmps59 rfl hown ?_
  simp only [argEnv]
  refine gc_seq <| gc_region <| gl_op <| op_rd rfl (rd_assign rfl) <| gl_nil <| gx_then <| gc_seq <| gc_region <| gl_op <| op_rd rfl (rd_move rfl) <| gl_op (op_callM [0] [] rfl (vf := []) (vc := []) rfl rfl Tryz.call81 (by decide) rfl (fun w how hc => AppendSeq_ok X hX bx w (hT.at how hbx) hbx hc) ?_)
  rintro _ _ ⟨r, c, rfl, rfl⟩
  refine gl_op <| op_rd rfl (rd_assign rfl) <| gl_nil <| gx_then <| gc_ret <| gx_ret1 (.inl rfl) Tryz.results59 rfl [0] (by decide) ?_
  exact ⟨r, c, rfl, rfl⟩
set_option maxRecDepth 100000 in
set_option maxHeartbeats 1000000 in
theorem listed_ok (X : Nat) (hX : X < 2 ^ 128) (w0 : World) (hT : TabIn w0) : Sp Tryz.prog 34 [.agg #[.int .u64 ((loW X : Nat) : Int), .int .u64 ((hiW X : Nat) : Int)]] w0 [] (fun v L => ∃ r c, v = .slice (rowA r) (bitsOf X).length c ∧ L = [.row 3 1 r (bitsOf X).length c ((bitsOf X).map natV)]) := by
  refine spec_enter Tryz.func34 rfl Tryz.ntmps34 rfl (Own.refl _) ?_
  simp only [argEnv]
  refine gc_seq <| gc_region <| gl_op (op_box rfl rfl rfl (fun b1 => ?_))
  refine gl_op <| op_rd rfl (rd_assign rfl) <| gl_nil <| gx_then <| gc_seq <| gc_region <| gl_op (op_rd rfl (rd_loadAgg Tryz.underlying87 rfl ty_87 rfl (by exact cs_blk 0 (off := 0) (k := 2) rfl rfl) rfl) ?_)
  refine gl_op (op_call rfl (vf := []) (vc := []) rfl rfl Tryz.call36 (fun w ho => all_ok X w) ?_)
  rintro _ _ ⟨bx, rfl, rfl⟩
  refine gl_op (op_callM [0] [1] rfl (vf := []) (vc := []) rfl rfl Tryz.call59 (by decide) rfl (fun w how hc => Collect_ok X hX bx w (hT.at how (by simp)) (by have h1 := new_ge how 0 rfl rfl; have h2 := hT.lt; intro h3; simp at h3; omega) hc) ?_)
  rintro _ _ ⟨r, c, rfl, rfl⟩
  refine gl_op <| op_rd rfl (rd_assign rfl) <| gl_nil <| gx_then <| gc_ret <| gx_ret1 (.inl rfl) Tryz.results34 rfl [0] (by decide) ?_
  exact ⟨r, c, rfl, rfl⟩
end Go.Proofs.YtbjijbbkfgcleaaGreatDoor
namespace Go.Proofs.YtbjijbbkfgcleaaGreatDoor
open Go.Gv
open Go.RowKit
open Go.Sn
open Sx
namespace Sx
theorem i2_place : I2 Tryz.prog 107 (Tryz.prog.fieldsOf 107)[0]! (Tryz.prog.fieldsOf 107)[1]! .i64 .i64 := ⟨by kernel_rfl, by kernel_rfl, by kernel_rfl, by kernel_rfl, by kernel_rfl, by kernel_rfl, by kernel_rfl, by kernel_rfl⟩
def BS (s : Org) (b : Nat) : HL := .blk b [.slice s.da s.ds.length s.dc, .slice s.ra s.rs.length s.rc, .slice s.sa s.ss.length s.sc, .slice s.ca s.cs.length s.cc] 27
def BA (b b30 : Nat) : HL := .blk b [.pointer (some ⟨b30, 0, none⟩)] 93
def BK (nd b30 k27 c27 m28 : Nat) : HL := .blk b30 [.slice (rowA (some k27)) nd c27, .map (some m28)] 97
def RS (nd k27 c27 : Nat) (sets : List Nat) : HL := .row 87 2 (some k27) nd c27 (sets.flatMap setC)
def OM (m28 : Nat) (tb : List En) : HL := .obj m28 (actO tb)
def RG (r : Option Nat) (c : Nat) (ps : List Pl) : HL := .row 107 2 r ps.length c (ps.flatMap plC)
def ActH (s : Org) (b2 b5 b30 k27 c27 m28 : Nat) (st : AS) : List HL := [BS s b2, BA b5 b30, BK s.ds.length b30 k27 c27 m28, RS s.ds.length k27 c27 st.sets, OM m28 st.tb]
end Sx
open Sx
set_option maxRecDepth 100000 in
set_option maxHeartbeats 1000000 in
theorem taken_ok (c : Cp) (ks : List Nat) (a : Option Addr) (cp : Nat) (hc : ks.length ≤ cp) (hl : ks.length ≤ 128) (w0 : World) : Sp Tryz.prog 56 [c.val, .slice a ks.length cp] w0 [] (fun v L => L = [] ∧ ∃ a2 c2, v = .slice a2 (takenL c ks).length c2 ∧ ∀ w S, OldSl w S a ks.length 1 (ks.map natV) → OldSl w S a2 (takenL c ks).length 1 ((takenL c ks).map natV)) := by
  refine spec_enter Tryz.func56 rfl Tryz.ntmps56 rfl (Own.refl _) ?_
  simp only [argEnv]
  refine gc_seq <| gc_region <| gl_op (op_box rfl rfl rfl (fun b2 => ?_))
  refine gl_op <| op_rd rfl (rd_assign rfl) <| gl_nil <| gx_then <| gc_seq <| gc_block <| gc_seq <| gc_region <| gl_op <| op_rd rfl (rd_move rfl) <| gl_op <| op_rd rfl (rd_lenSlice Tryz.underlying29 rfl) <| gl_op (op_rd rfl (rd_eql rfl rfl) (gk_dec (fun h8 => ?_) (fun h8 => ?_)))
  · refine gl_op <| op_rd rfl (rd_move rfl) <| gl_no rfl rfl rfl <| gl_no rfl rfl rfl <| gl_no rfl rfl rfl <| gl_op <| op_rd rfl (rd_pick_t rfl rfl) <| gl_op <| op_rd rfl (rd_assign rfl) <| gl_nil <| gx_then <| gc_cond_t rfl <| gc_seq <| gc_region <| gl_op <| op_rd rfl (rd_move rfl) <| gl_op <| op_rd rfl (rd_assign rfl) <| gl_nil <| gx_then <| gc_ret <| gx_block_ret <| gx_then_ret <| gx_ret1 (.inl rfl) Tryz.results56 rfl [] (by decide) ?_
    refine ⟨rfl, a, cp, ?_, fun w S h => ?_⟩
    · unfold takenL; rw [if_pos (by omega)]
    · unfold takenL; rw [if_pos (by omega)]; exact h
  refine gl_op <| op_rd rfl (rd_move rfl) <| gl_yes rfl rfl <| op_rd rfl (rd_fieldAddr rfl (fa_58_4 _)) <| gl_yes rfl rfl (op_rd rfl (rd_load Tryz.underlying3 rfl rfl (by exact ld_blk 0 rfl rfl)) ?_)
  refine gl_yes rfl rfl (op_rd rfl (rd_eql rfl rfl) (gk_dec (fun h12 => ?_) (fun h12 => ?_)))
  · refine gl_op <| op_rd rfl (rd_pick_f rfl rfl) <| gl_op <| op_rd rfl (rd_assign rfl) <| gl_nil <| gx_then <| gc_cond_t rfl <| gc_seq <| gc_region <| gl_op <| op_rd rfl (rd_move rfl) <| gl_op <| op_rd rfl (rd_assign rfl) <| gl_nil <| gx_then <| gc_ret <| gx_block_ret <| gx_then_ret <| gx_ret1 (.inl rfl) Tryz.results56 rfl [] (by decide) ?_
    refine ⟨rfl, a, cp, ?_, fun w S h => ?_⟩
    · unfold takenL; rw [if_pos (by omega)]
    · unfold takenL; rw [if_pos (by omega)]; exact h
  refine gl_op <| op_rd rfl (rd_pick_f rfl rfl) <| gl_op <| op_rd rfl (rd_assign rfl) <| gl_nil <| gx_then <| gc_cond_f rfl <| gc_seq <| gc_region <| gl_op <| op_rd rfl (rd_fieldAddr rfl (fa_58_4 _)) <| gl_op (op_rd rfl (rd_load Tryz.underlying3 rfl rfl (by exact ld_blk 0 rfl rfl)) ?_)
  refine gl_op (op_rd rfl (rd_eql rfl rfl) (gk_dec (fun h18 => ?_) (fun h18 => ?_)))
  · refine gl_op <| op_rd rfl (rd_assign rfl) <| gl_nil <| gx_then <| gc_cond_t rfl <| gc_seq <| gc_region <| gl_op <| op_rd rfl (rd_move rfl) <| gl_op (op_rd rfl (rd_sliceHi Tryz.underlying29 ty_3 rfl rfl (by omega) (by omega)) ?_)
    refine gl_op <| op_rd rfl (rd_assign rfl) <| gl_nil <| gx_then <| gc_ret <| gx_block_ret <| gx_then_ret <| gx_ret1 (.inl rfl) Tryz.results56 rfl [] (by decide) ?_
    refine ⟨rfl, a, cp, ?_, fun w S h => ?_⟩
    · unfold takenL; rw [if_neg (by omega), if_pos (by omega), List.length_take, Nat.min_eq_left (by omega)]; rfl
    · unfold takenL; rw [if_neg (by omega), if_pos (by omega), List.length_take, Nat.min_eq_left (by omega), List.map_take]; exact h.take 1 (by omega)
  refine gl_op <| op_rd rfl (rd_assign rfl) <| gl_nil <| gx_then <| gc_cond_f rfl <| gc_skip <| gx_block <| gx_then <| gc_seq <| gc_region <| gl_op <| op_rd rfl (rd_move rfl) <| gl_op <| op_rd rfl (rd_move rfl) <| gl_op <| op_rd rfl (rd_lenSlice Tryz.underlying29 rfl) <| gl_op (op_rd rfl (by exact rd_subN (b := 1) rfl rfl (by omega) (by omega)) ?_)
  refine gl_op (op_rd rfl (rd_sliceLo Tryz.underlying29 ty_3 rfl rfl (by omega) (by omega)) ?_)
  refine gl_op <| op_rd rfl (rd_assign rfl) <| gl_nil <| gx_then <| gc_ret <| gx_ret1 (.inl rfl) Tryz.results56 rfl [] (by decide) ?_
  refine ⟨rfl, subA a cp (ks.length - 1) 1, cp - (ks.length - 1), ?_, fun w S h => ?_⟩
  · unfold takenL; rw [if_neg (by omega), if_neg (by omega), List.length_drop]; rfl
  · unfold takenL; rw [if_neg (by omega), if_neg (by omega), List.length_drop, List.map_drop]
    have := h.drop (ks.length - 1) (by omega) hc
    rwa [Nat.mul_one] at this
set_option maxRecDepth 100000 in
set_option maxHeartbeats 1000000 in
theorem reached_ok (s : Org) (h : HN) (hle : OrgLe s) (hA : (cxN s h).Ok) (i : Nat) (hi : i ∈ (cxN s h).dr) (l : List Pl) (la : Option Addr) (lc : Nat) (hll : l.length ≤ 1000) (hl8 : ∀ p ∈ l, p.2 < 128) (b2 b5 b30 k27 c27 m28 : Nat) (st : AS) (hst : SetOk (cxN s h) st) (w0 : World) (hS : OrgIn s w0 [b2, b5, b30, k27, m28]) (hsl : OldSl w0 [b2, b5, b30, k27, m28] la l.length 2 (l.flatMap plC)) (hown : Own w0 [b2, b5, b30, k27, m28] w0 (ActH s b2 b5 b30 k27 c27 m28 st)) : Sp Tryz.prog 54 [natV i, .slice la l.length lc, .pointer (some ⟨b2, 0, none⟩), .pointer (some ⟨b5, 0, none⟩)] w0 [b2, b5, b30, k27, m28] (fun v L => ∃ r c, v = .slice (rowA r) (reachP (cxN s h) i l st).2.length c ∧ L = ActH s b2 b5 b30 k27 c27 m28 (reachP (cxN s h) i l st).1 ++ [RG r c (reachP (cxN s h) i l st).2]) := by
  obtain ⟨x, hx⟩ := get_some (show i < s.cs.length from hA.drn i hi)
  have hxi : (cxN s h).cp i = x := getD_some hx
  obtain ⟨hd0, hd1⟩ := hA.dst i (hA.drn i hi)
  have hsh := hA.shf i (hA.drn i hi)
  rw [hxi] at hd0 hd1 hsh
  change x.dst < s.ds.length at hd1
  obtain ⟨d, hd⟩ := get_some (show x.dst.toNat < s.ds.length by omega)
  have hdi : (cxN s h).dv x.dst.toNat = d := getD_some hd
  have hrg := hA.rng x.dst.toNat (show x.dst.toNat < s.ds.length by omega)
  rw [hdi] at hrg
  have hcl := hle.c
  have hil : i < s.cs.length := hA.drn i hi
  have hdl := hle.d
  unfold ActH BS BA BK RS OM at hown
  refine spec_enter Tryz.func54 rfl Tryz.ntmps54 rfl hown ?_
  simp only [argEnv]
  refine gc_seq <| gc_region <| gl_op <| op_rd rfl (rd_assign rfl) <| gl_nil <| gx_then <| gc_seq <| gc_region <| gl_op <| op_rd rfl (rd_fieldAddr rfl (fa_27_3 _)) <| gl_op (op_rd rfl (rd_load Tryz.underlying25 rfl rfl (by exact ld_blk 0 rfl rfl)) ?_)
  refine gl_op <| op_rd rfl (rd_move rfl) <| gl_op (op_rd rfl (rd_indexOld hS.c Tryz.underlying25 ty_58 rfl rfl (by omega) (by omega)) ?_)
  refine gl_op (op_rd rfl (rd_loadAgg Tryz.underlying58 rfl ty_58 rfl (cs_slN hS.c (flat_drop_get Cp.cells 6 (fun _ => rfl) hx)) rfl) ?_)
  refine gl_op (op_alloc ty_58 rfl rfl (fun b7 => ?_))
  refine gl_op (op_storeAgg 0 ty_58 rfl rfl rfl rfl rfl rfl (by rfl) ?_)
  refine gl_nil <| gx_then <| gc_seq <| gc_region <| gl_op <| op_rd rfl (rd_fieldAddr rfl (fa_27_0 _)) <| gl_op (op_rd rfl (rd_load Tryz.underlying22 rfl rfl (by exact ld_blk 1 rfl rfl)) ?_)
  refine gl_op <| op_rd rfl (rd_fieldAddr rfl (fa_58_2 _)) <| gl_op (op_rd rfl (rd_load Tryz.underlying3 rfl rfl (by exact ld_blk 0 rfl rfl)) ?_)
  refine gl_op (op_rd rfl (rd_indexOld hS.d Tryz.underlying22 ty_49 rfl rfl (by omega) (by omega)) ?_)
  refine gl_op (op_rd rfl (rd_loadAgg Tryz.underlying49 rfl ty_49 rfl (cs_sl hS.d (flat_drop_get Dv.cells 3 (fun _ => rfl) hd)) rfl) ?_)
  refine gl_op (op_alloc ty_49 rfl rfl (fun b8 => ?_))
  refine gl_op (op_storeAgg 0 ty_49 rfl rfl rfl rfl rfl rfl (by rfl) ?_)
  refine gl_nil <| gx_then <| gc_seq <| gc_seq ?_
  simp only [Cp.cells, Dv.cells]
  refine gc_region <| gl_op <| op_rd rfl (rd_move rfl) <| gl_op <| op_rd rfl (rd_lenSlice Tryz.underlying124 rfl) <| gl_op <| op_rd rfl (rd_move rfl) <| gl_nil <| gx_then <| gc_block <| gk_nil 107 2 <| gc_loopF (ι := Nat × (AS × List Pl) × Option Nat × Nat) [(0, _), (3, _), (7, _), (8, _), (23, _), (24, _)] [_, _, _, _, _] (fun q => q.1 ≤ l.length ∧ q.2.1 = (l.take q.1).foldl (stepR (cxN s h) i) (st, []) ∧ SetOk (cxN s h) q.2.1.1 ∧ q.2.1.2.length ≤ q.1) (fun q Fr0 => ((6, .slice (rowA q.2.2.1) q.2.1.2.length q.2.2.2) :: (25, natV q.1) :: Fr0)) (fun q Fr0 => (.row 87 2 (some k27) s.ds.length c27 (q.2.1.1.sets.flatMap setC) :: .obj m28 (actO q.2.1.1.tb) :: .row 107 2 q.2.2.1 q.2.1.2.length q.2.2.2 (q.2.1.2.flatMap plC) :: Fr0)) (fun q => l.length - q.1) (0, (st, []), none, 0) (⟨Nat.zero_le _, rfl, hst, Nat.le_refl _⟩) ⟨rfl, rfl, rfl, rfl, rfl, rfl, rfl, rfl, trivial⟩ ⟨[6, 7, 0, 1, 2, 3, 4, 5], by decide, rfl⟩ ?_
  rintro ⟨k, ⟨st1, o1⟩, r, c⟩ ⟨hk, hX, hset, hol⟩
  simp only at hk hX hset hol ⊢
  refine gc_seq <| gc_region <| gl_op (op_rd rfl (rd_lss rfl rfl) (gk_dec (fun h26 => ?_) (fun h26 => ?_)))
  · obtain ⟨p, hp⟩ := get_some (show k < l.length by omega)
    have hp8 := hl8 p (List.mem_of_getElem? hp)
    refine gl_nil <| gx_then <| gc_seq <| gc_cond_t rfl <| gc_skip <| gx_then <| gc_seq <| gc_block <| gc_seq <| gc_region <| gl_op (op_rd rfl (by exact rd_indexOld (by assumption) Tryz.underlying124 ty_107 rfl rfl (by omega) (by omega)) ?_)
    refine gl_op (op_rd rfl (rd_loadAgg Tryz.underlying107 rfl ty_107 rfl (cs_slN hsl (flat_drop_get plC 2 (fun _ => rfl) hp)) rfl) ?_)
    refine gl_op (op_alloc ty_107 rfl rfl (fun b10 => ?_))
    refine gl_op (op_storeAgg 0 ty_107 rfl rfl rfl rfl rfl rfl (by rfl) ?_)
    refine gl_nil <| gx_then <| gc_seq ?_
    simp only [plC]
    refine gc_region <| gl_op <| op_rd rfl (rd_fieldAddr rfl (fa_107_1 _)) <| gl_op (op_rd rfl (rd_load Tryz.underlying3 rfl rfl (by exact ld_blk 0 rfl rfl)) ?_)
    refine gl_op <| op_rd rfl (rd_fieldAddr rfl (fa_58_3 _)) <| gl_op (op_rd rfl (rd_load Tryz.underlying3 rfl rfl (by exact ld_blk 5 rfl rfl)) ?_)
    refine gl_op (op_rd rfl (rd_add rfl rfl (by omega) (by omega)) ?_)
    refine gl_op <| op_rd rfl (rd_assign rfl) <| gl_nil <| gx_then <| gc_seq <| gc_drawP [0, 1, 2, 3, 4, 5, 6, 7, 8] true 22 rfl <| ga_first 0 (bm 23 1) rfl rfl rfl rfl (by kernel_rfl) (by kernel_rfl) ⟨[0, 1, 2, 3, 4, 5, 6, 7, 8], by decide, rfl⟩ (qt_rd (rd_move rfl)) ?_
    refine ga_first 1 (bm 23 3) rfl rfl rfl rfl (by kernel_rfl) (by kernel_rfl) ⟨[0, 1, 2, 3, 4, 5, 6, 7, 8], by decide, rfl⟩ (qt_rd (rd_fieldAddr rfl (fa_49_1 _))) ?_
    refine ga_first 2 (bm 23 7) rfl rfl rfl rfl (by kernel_rfl) (by kernel_rfl) ⟨[0, 1, 2, 3, 4, 5, 6, 7, 8], by decide, rfl⟩ (qt_rd (rd_load Tryz.underlying3 rfl rfl (by exact ld_blk 4 rfl rfl))) ?_
    refine ga_first 3 (bm 23 15) rfl rfl rfl rfl (by kernel_rfl) (by kernel_rfl) ⟨[0, 1, 2, 3, 4, 5, 6, 7, 8], by decide, rfl⟩ (qt_rd (rd_geq rfl rfl)) (gk_dec (fun h37 => ?_) (fun h37 => ?_))
    · refine ga_first 4 (bm 23 31) rfl rfl rfl rfl (by kernel_rfl) (by kernel_rfl) ⟨[0, 1, 2, 3, 4, 5, 6, 7, 8], by decide, rfl⟩ (qt_rd (rd_move rfl)) ?_
      refine ga_firstY 5 (bm 23 63) rfl rfl rfl rfl rfl rfl (by kernel_rfl) (by kernel_rfl) ⟨[0, 1, 2, 3, 4, 5, 6, 7, 8], by decide, rfl⟩ (qt_rd (rd_move rfl)) ?_
      refine ga_firstY 6 (bm 23 127) rfl rfl rfl rfl rfl rfl (by kernel_rfl) (by kernel_rfl) ⟨[0, 1, 2, 3, 4, 5, 6, 7, 8], by decide, rfl⟩ (qt_rd (rd_fieldAddr rfl (fa_49_2 _))) ?_
      refine ga_firstY 7 (bm 23 255) rfl rfl rfl rfl rfl rfl (by kernel_rfl) (by kernel_rfl) ⟨[0, 1, 2, 3, 4, 5, 6, 7, 8], by decide, rfl⟩ (qt_rd (rd_load Tryz.underlying3 rfl rfl (by exact ld_blk 4 rfl rfl))) ?_
      refine ga_firstY 8 (bm 23 511) rfl rfl rfl rfl rfl rfl (by kernel_rfl) (by kernel_rfl) ⟨[0, 1, 2, 3, 4, 5, 6, 7, 8], by decide, rfl⟩ (qt_rd (rd_leq rfl rfl)) (gk_dec (fun h42 => ?_) (fun h42 => ?_))
      · obtain ⟨kn, hkn⟩ : ∃ kn : Nat, (p.2 : Int) + x.shift = kn := ⟨((p.2 : Int) + x.shift).toNat, by omega⟩
        rw [hkn] at h37 h42 ⊢
        have htg : (cxN s h).tgt i p = some (x.dst.toNat, kn) := by
          have := stepR_tgt (A := cxN s h) (i := i) (p := p) (kn := kn) (by rw [hxi]; exact hkn) (by rw [hxi, hdi]; omega)
          rwa [hxi] at this
        obtain ⟨X, hX2⟩ := get_some (show x.dst.toNat < st1.sets.length by have := hset.len; change _ = s.ds.length at this; omega)
        have hXl := hset.lt X (List.mem_of_getElem? hX2)
        have hash : hasS st1.sets (x.dst.toNat, kn) = X.testBit kn := by unfold hasS; rw [getD_some hX2]
        have hdn : x.dst = ((x.dst.toNat : Nat) : Int) := by omega
        refine ga_first 9 (bm 23 1023) rfl rfl rfl rfl (by kernel_rfl) (by kernel_rfl) ⟨[0, 1, 2, 3, 4, 5, 6, 7, 8], by decide, rfl⟩ (qt_rd (rd_pick_t rfl rfl)) ?_
        refine ga_first 10 (bm 23 2047) rfl rfl rfl rfl (by kernel_rfl) (by kernel_rfl) ⟨[0, 1, 2, 3, 4, 5, 6, 7, 8], by decide, rfl⟩ (qt_rd (rd_move rfl)) ?_
        refine ga_firstY 11 (bm 23 4095) rfl rfl rfl rfl rfl rfl (by kernel_rfl) (by kernel_rfl) ⟨[0, 1, 2, 3, 4, 5, 6, 7, 8], by decide, rfl⟩ (qt_rd (rd_load Tryz.underlying93 rfl rfl (by exact ld_blk 7 rfl rfl))) ?_
        refine ga_firstY 12 (bm 23 8191) rfl rfl rfl rfl rfl rfl (by kernel_rfl) (by kernel_rfl) ⟨[0, 1, 2, 3, 4, 5, 6, 7, 8], by decide, rfl⟩ (qt_rd (rd_nilCheck rfl)) ?_
        refine ga_firstY 13 (bm 23 16383) rfl rfl rfl rfl rfl rfl (by kernel_rfl) (by kernel_rfl) ⟨[0, 1, 2, 3, 4, 5, 6, 7, 8], by decide, rfl⟩ (qt_rd (rd_fieldAddr rfl (fa_97_0 _))) ?_
        refine ga_firstY 14 (bm 23 32767) rfl rfl rfl rfl rfl rfl (by kernel_rfl) (by kernel_rfl) ⟨[0, 1, 2, 3, 4, 5, 6, 7, 8], by decide, rfl⟩ (qt_rd (rd_load Tryz.underlying75 rfl rfl (by exact ld_blk 8 rfl rfl))) ?_
        refine ga_firstY 15 (bm 23 65535) rfl rfl rfl rfl rfl rfl (by kernel_rfl) (by kernel_rfl) ⟨[0, 1, 2, 3, 4, 5, 6, 7, 8], by decide, rfl⟩ (qt_rd (rd_fieldAddr rfl (fa_58_2 _))) ?_
        refine ga_firstY 16 (bm 23 131071) rfl rfl rfl rfl rfl rfl (by kernel_rfl) (by kernel_rfl) ⟨[0, 1, 2, 3, 4, 5, 6, 7, 8], by decide, rfl⟩ (qt_rd (rd_load Tryz.underlying3 rfl rfl (by exact ld_blk 5 rfl rfl))) ?_
        refine ga_firstY 17 (bm 23 262143) rfl rfl rfl rfl rfl rfl (by kernel_rfl) (by kernel_rfl) ⟨[0, 1, 2, 3, 4, 5, 6, 7, 8], by decide, rfl⟩ (qt_rd (by exact rd_indexRow 1 rfl Tryz.underlying75 ty_87 rfl rfl (by omega) (by omega))) ?_
        refine ga_firstY 18 (bm 23 524287) rfl rfl rfl rfl rfl rfl (by kernel_rfl) (by kernel_rfl) ⟨[0, 1, 2, 3, 4, 5, 6, 7, 8], by decide, rfl⟩ (qt_rd (rd_loadAgg Tryz.underlying87 rfl ty_87 rfl (cs_row 1 (a := some k27) rfl (flat_drop_get setC 2 (fun _ => rfl) hX2)) rfl)) ?_
        refine ga_firstY 19 (bm 23 1048575) rfl rfl rfl rfl rfl rfl (by kernel_rfl) (by kernel_rfl) ⟨[0, 1, 2, 3, 4, 5, 6, 7, 8], by decide, rfl⟩ (qt_rd (rd_move rfl)) ?_
        simp only [setC]
        refine ga_firstY 20 (bm 23 2097151) rfl rfl rfl rfl rfl rfl (by kernel_rfl) (by kernel_rfl) ⟨[0, 1, 2, 3, 4, 5, 6, 7, 8], by decide, rfl⟩ (qt_call (vf := []) (vc := []) rfl rfl Tryz.call55 (fun w1 ho => hasSet_ok X kn hXl (by omega) w1) (by rintro _ _ ⟨h, _⟩; exact h)) ?_
        refine gk_bool (fun hh => ?_) (fun hh => ?_)
        · refine ga_firstY 21 (bm 23 4194303) rfl rfl rfl rfl rfl rfl (by kernel_rfl) (by kernel_rfl) ⟨[0, 1, 2, 3, 4, 5, 6, 7, 8], by decide, rfl⟩ (qt_rd (rd_not rfl)) ?_
          refine ga_first 22 (bm 23 8388607) rfl rfl rfl rfl (by kernel_rfl) (by kernel_rfl) ⟨[0, 1, 2, 3, 4, 5, 6, 7, 8], by decide, rfl⟩ (qt_rd (rd_pick_t rfl rfl)) ?_
          refine ga_end (by kernel_rfl) (.inr ⟨[0, 1, 2, 3, 4, 5, 6, 7, 8], by decide, rfl⟩) ?_
          refine gx_then <| gc_cond_f rfl <| gc_skip <| gx_block <| gx_then <| gc_region <| gl_op (op_rd rfl (by exact rd_addN (b := 1) rfl rfl (by omega)) ?_)
          refine gl_op <| op_rd rfl (rd_move rfl) <| gl_nil <| gx_then ?_
          exact gx_cut ((k + 1, (st1, o1), r, c)) ⟨⟨by simp only; omega, by simp only; rw [fold_take _ _ hp, ← hX, stepR_has htg (by rw [hash]; exact hh)], hset, by simp only; omega⟩, by simp only; omega⟩ ⟨rfl, rfl, rfl, rfl, rfl, rfl, rfl, rfl, trivial⟩ ⟨[1, 2, 3, 4, 5, 6, 7, 8], by decide, rfl⟩
        have hno : tabOf st1.tb (x.dst.toNat, kn) = none := by
          cases h9 : tabOf st1.tb (x.dst.toNat, kn) with
          | none => rfl
          | some v => have := (hset.has (x.dst.toNat, kn) (show x.dst.toNat < s.ds.length by omega)).2 ⟨v, h9⟩; rw [hash, hh] at this; cases this
        refine ga_firstY 21 (bm 23 4194303) rfl rfl rfl rfl rfl rfl (by kernel_rfl) (by kernel_rfl) ⟨[0, 1, 2, 3, 4, 5, 6, 7, 8], by decide, rfl⟩ (qt_rd (rd_not rfl)) ?_
        refine ga_first 22 (bm 23 8388607) rfl rfl rfl rfl (by kernel_rfl) (by kernel_rfl) ⟨[0, 1, 2, 3, 4, 5, 6, 7, 8], by decide, rfl⟩ (qt_rd (rd_pick_t rfl rfl)) ?_
        refine ga_end (by kernel_rfl) (.inr ⟨[0, 1, 2, 3, 4, 5, 6, 7, 8], by decide, rfl⟩) ?_
        refine gx_then <| gc_cond_t rfl <| gc_seq <| gc_drawP [0, 2, 3, 4, 5, 6, 7, 8] true 8 rfl <| ga_first 0 (bm 9 1) rfl rfl rfl rfl (by kernel_rfl) (by kernel_rfl) ⟨[0, 2, 3, 4, 5, 6, 7, 8], by decide, rfl⟩ (qt_rd (rd_load Tryz.underlying93 rfl rfl (by exact ld_blk 6 rfl rfl))) ?_
        refine ga_first 1 (bm 9 3) rfl rfl rfl rfl (by kernel_rfl) (by kernel_rfl) ⟨[0, 2, 3, 4, 5, 6, 7, 8], by decide, rfl⟩ (qt_rd (rd_nilCheck rfl)) ?_
        refine ga_first 2 (bm 9 7) rfl rfl rfl rfl (by kernel_rfl) (by kernel_rfl) ⟨[0, 2, 3, 4, 5, 6, 7, 8], by decide, rfl⟩ (qt_rd (rd_fieldAddr rfl (fa_97_0 _))) ?_
        refine ga_first 3 (bm 9 15) rfl rfl rfl rfl (by kernel_rfl) (by kernel_rfl) ⟨[0, 2, 3, 4, 5, 6, 7, 8], by decide, rfl⟩ (qt_rd (rd_load Tryz.underlying75 rfl rfl (by exact ld_blk 7 rfl rfl))) ?_
        refine ga_first 4 (bm 9 31) rfl rfl rfl rfl (by kernel_rfl) (by kernel_rfl) ⟨[0, 2, 3, 4, 5, 6, 7, 8], by decide, rfl⟩ (qt_rd (rd_fieldAddr rfl (fa_58_2 _))) ?_
        refine ga_first 5 (bm 9 63) rfl rfl rfl rfl (by kernel_rfl) (by kernel_rfl) ⟨[0, 2, 3, 4, 5, 6, 7, 8], by decide, rfl⟩ (qt_rd (rd_load Tryz.underlying3 rfl rfl (by exact ld_blk 4 rfl rfl))) ?_
        refine ga_first 6 (bm 9 127) rfl rfl rfl rfl (by kernel_rfl) (by kernel_rfl) ⟨[0, 2, 3, 4, 5, 6, 7, 8], by decide, rfl⟩ (qt_rd (by exact rd_indexS Tryz.underlying75 ty_87 rfl rfl (by omega) (by omega))) ?_
        refine ga_first 7 (bm 9 255) rfl rfl rfl rfl (by kernel_rfl) (by kernel_rfl) ⟨[0, 2, 3, 4, 5, 6, 7, 8], by decide, rfl⟩ (qt_rd (rd_move rfl)) ?_
        refine ga_only 8 (bm 9 511) rfl rfl (by kernel_rfl) (by kernel_rfl) (.inr ⟨[0, 2, 3, 4, 5, 6, 7, 8], by decide, rfl⟩) (op_callM [1] [0, 2, 3, 4, 5, 6, 7, 8] rfl (vf := []) (vc := []) rfl rfl Tryz.call42 (by decide) rfl (fun w how hc => add_ok st1.sets x.dst.toNat kn k27 c27 s.ds.length hset.len (by have := hset.len; change _ = s.ds.length at this; omega) (by omega) hset.lt w hc) ?_)
        rintro _ _ ⟨rfl, rfl⟩
        refine ga_end (by kernel_rfl) (.inr ⟨[1, 2, 3, 4, 5, 6, 7, 8], by decide, rfl⟩) ?_
        refine gx_then <| gc_seq <| gc_drawP [0, 1, 3, 4, 5, 6, 7, 8] false 11 rfl <| ga_first 0 (bm 12 1) rfl rfl rfl rfl (by kernel_rfl) (by kernel_rfl) ⟨[0, 1, 3, 4, 5, 6, 7, 8], by decide, rfl⟩ (qt_rd (rd_load Tryz.underlying93 rfl rfl (by exact ld_blk 6 rfl rfl))) ?_
        refine ga_first 1 (bm 12 3) rfl rfl rfl rfl (by kernel_rfl) (by kernel_rfl) ⟨[0, 1, 3, 4, 5, 6, 7, 8], by decide, rfl⟩ (qt_rd (rd_nilCheck rfl)) ?_
        refine ga_first 2 (bm 12 7) rfl rfl rfl rfl (by kernel_rfl) (by kernel_rfl) ⟨[0, 1, 3, 4, 5, 6, 7, 8], by decide, rfl⟩ (qt_rd (rd_fieldAddr rfl (fa_97_1 _))) ?_
        refine ga_first 3 (bm 12 15) rfl rfl rfl rfl (by kernel_rfl) (by kernel_rfl) ⟨[0, 1, 3, 4, 5, 6, 7, 8], by decide, rfl⟩ (qt_rd (rd_load Tryz.underlying95 rfl rfl (by exact ld_blk 7 rfl rfl))) ?_
        refine ga_first 4 (bm 12 31) rfl rfl rfl rfl (by kernel_rfl) (by kernel_rfl) ⟨[0, 1, 3, 4, 5, 6, 7, 8], by decide, rfl⟩ (qt_rd (rd_fieldAddr rfl (fa_58_2 _))) ?_
        refine ga_first 5 (bm 12 63) rfl rfl rfl rfl (by kernel_rfl) (by kernel_rfl) ⟨[0, 1, 3, 4, 5, 6, 7, 8], by decide, rfl⟩ (qt_rd (rd_load Tryz.underlying3 rfl rfl (by exact ld_blk 4 rfl rfl))) ?_
        refine ga_first 6 (bm 12 127) rfl rfl rfl rfl (by kernel_rfl) (by kernel_rfl) ⟨[0, 1, 3, 4, 5, 6, 7, 8], by decide, rfl⟩ (qt_rd (rd_move rfl)) ?_
        refine ga_first 7 (bm 12 255) rfl rfl rfl rfl (by kernel_rfl) (by kernel_rfl) ⟨[0, 1, 3, 4, 5, 6, 7, 8], by decide, rfl⟩ (qt_rd (rd_build rfl (fun _ => bd_107_0_1 _ _))) ?_
        refine ga_first 8 (bm 12 511) rfl rfl rfl rfl (by kernel_rfl) (by kernel_rfl) ⟨[0, 1, 3, 4, 5, 6, 7, 8], by decide, rfl⟩ (qt_rd (rd_move rfl)) ?_
        refine ga_first 9 (bm 12 1023) rfl rfl rfl rfl (by kernel_rfl) (by kernel_rfl) ⟨[0, 1, 3, 4, 5, 6, 7, 8], by decide, rfl⟩ (qt_rd (rd_loadAgg Tryz.underlying107 rfl ty_107 rfl (by exact cs_blk 1 (off := 0) (k := 2) rfl rfl) rfl)) ?_
        refine ga_first 10 (bm 12 2047) rfl rfl rfl rfl (by kernel_rfl) (by kernel_rfl) ⟨[0, 1, 3, 4, 5, 6, 7, 8], by decide, rfl⟩ (qt_rd (rd_build rfl (fun _ => bd_123_0_1 _ _ _))) ?_
        refine ga_only 11 (bm 12 4095) rfl rfl (by kernel_rfl) (by kernel_rfl) (.inr ⟨[0, 1, 3, 4, 5, 6, 7, 8], by decide, rfl⟩) (op_mapPutP 2 stpV (v := ((i : Int), p)) Tryz.underlying95 i2_place rfl rfl rfl rfl (by rw [hdn]; exact mpOf_none (q := (x.dst.toNat, kn)) hno) rfl ?_)
        rw [show mapP stpV (mpOf st1.tb 0 ++ [⟨x.dst, (kn : Int), ((i : Int), p), st1.tb.length⟩]) (st1.tb.length + 1) = actO (st1.tb ++ [enOf st1.tb (x.dst.toNat, kn) i p]) by rw [← actO_snoc, (enOf_q _ _ _ _).1, (enOf_q _ _ _ _).2.1, (enOf_q _ _ _ _).2.2, ← hdn]]
        refine ga_end (by kernel_rfl) (.inl (by kernel_rfl)) ?_
        refine gx_then <| gc_region <| gl_op <| op_rd rfl (rd_move rfl) <| gl_op <| op_rd rfl (rd_fieldAddr rfl (fa_58_2 _)) <| gl_op (op_rd rfl (rd_load Tryz.underlying3 rfl rfl (by exact ld_blk 5 rfl rfl)) ?_)
        refine gl_op <| op_rd rfl (rd_move rfl) <| gl_op (op_rd rfl (rd_build rfl (fun _ => bd_107_0_1 _ _)) ?_)
        refine gl_op (op_buildSlice (sz := 2) rfl rfl (fun _ => bs_124_1_0 _ _) rfl rfl (fun b82 => ?_))
        refine gl_op (op_appendRow 4 0 Tryz.underlying124 ty_107 rfl (by decide) rfl rfl rfl rfl rfl (by simp [Value.oneCell']) (by omega) (by omega) (fun _ => (by rfl)) (fun r83 c83 => ?_))
        refine gl_op <| op_rd rfl (rd_assign rfl) <| gl_nil <| gx_block <| gx_then ?_
        rw [show o1.flatMap plC ++ [.int .i64 x.dst, .int .i64 (kn : Int)] = (o1 ++ [(x.dst.toNat, kn)]).flatMap plC by rw [List.flatMap_append]; simp only [List.flatMap_cons, List.flatMap_nil, plC, List.append_nil]; rw [show natV x.dst.toNat = .int .i64 x.dst from congrArg (Value.int .i64) hdn.symm], show o1.length + 1 = (o1 ++ [(x.dst.toNat, kn)]).length by simp]
        refine gc_region <| gl_op (op_rd rfl (by exact rd_addN (b := 1) rfl rfl (by omega)) ?_)
        refine gl_op <| op_rd rfl (rd_move rfl) <| gl_nil <| gx_then ?_
        exact gx_cut ((k + 1, (⟨addSet st1.sets (x.dst.toNat, kn), st1.tb ++ [enOf st1.tb (x.dst.toNat, kn) i p]⟩, o1 ++ [(x.dst.toNat, kn)]), r83, c83)) ⟨⟨by simp only; omega, by simp only; rw [fold_take _ _ hp, ← hX, stepR_new htg (by rw [hash]; exact hh)], hset.put (show x.dst.toNat < s.ds.length by omega) (by simp only; omega) (enOf_q _ _ _ _).1, by simp only [List.length_append, List.length_cons, List.length_nil]; omega⟩, by simp only; omega⟩ ⟨rfl, rfl, rfl, rfl, rfl, rfl, rfl, rfl, trivial⟩ ⟨[1, 3, 4, 5, 6, 7, 8, 9], by decide, rfl⟩
      refine ga_first 9 (bm 23 1023) rfl rfl rfl rfl (by kernel_rfl) (by kernel_rfl) ⟨[0, 1, 2, 3, 4, 5, 6, 7, 8], by decide, rfl⟩ (qt_rd (rd_pick_t rfl rfl)) ?_
      refine ga_first 10 (bm 23 2047) rfl rfl rfl rfl (by kernel_rfl) (by kernel_rfl) ⟨[0, 1, 2, 3, 4, 5, 6, 7, 8], by decide, rfl⟩ (qt_rd (rd_move rfl)) ?_
      refine ga_firstN 11 (bm 23 4095) rfl rfl rfl rfl rfl rfl (by kernel_rfl) (by kernel_rfl) ⟨[0, 1, 2, 3, 4, 5, 6, 7, 8], by decide, rfl⟩ ?_
      refine ga_firstN 12 (bm 23 8191) rfl rfl rfl rfl rfl rfl (by kernel_rfl) (by kernel_rfl) ⟨[0, 1, 2, 3, 4, 5, 6, 7, 8], by decide, rfl⟩ ?_
      refine ga_firstN 13 (bm 23 16383) rfl rfl rfl rfl rfl rfl (by kernel_rfl) (by kernel_rfl) ⟨[0, 1, 2, 3, 4, 5, 6, 7, 8], by decide, rfl⟩ ?_
      refine ga_firstN 14 (bm 23 32767) rfl rfl rfl rfl rfl rfl (by kernel_rfl) (by kernel_rfl) ⟨[0, 1, 2, 3, 4, 5, 6, 7, 8], by decide, rfl⟩ ?_
      refine ga_firstN 15 (bm 23 65535) rfl rfl rfl rfl rfl rfl (by kernel_rfl) (by kernel_rfl) ⟨[0, 1, 2, 3, 4, 5, 6, 7, 8], by decide, rfl⟩ ?_
      refine ga_firstN 16 (bm 23 131071) rfl rfl rfl rfl rfl rfl (by kernel_rfl) (by kernel_rfl) ⟨[0, 1, 2, 3, 4, 5, 6, 7, 8], by decide, rfl⟩ ?_
      refine ga_firstN 17 (bm 23 262143) rfl rfl rfl rfl rfl rfl (by kernel_rfl) (by kernel_rfl) ⟨[0, 1, 2, 3, 4, 5, 6, 7, 8], by decide, rfl⟩ ?_
      refine ga_firstN 18 (bm 23 524287) rfl rfl rfl rfl rfl rfl (by kernel_rfl) (by kernel_rfl) ⟨[0, 1, 2, 3, 4, 5, 6, 7, 8], by decide, rfl⟩ ?_
      refine ga_firstN 19 (bm 23 1048575) rfl rfl rfl rfl rfl rfl (by kernel_rfl) (by kernel_rfl) ⟨[0, 1, 2, 3, 4, 5, 6, 7, 8], by decide, rfl⟩ ?_
      refine ga_firstN 20 (bm 23 2097151) rfl rfl rfl rfl rfl rfl (by kernel_rfl) (by kernel_rfl) ⟨[0, 1, 2, 3, 4, 5, 6, 7, 8], by decide, rfl⟩ ?_
      refine ga_firstN 21 (bm 23 4194303) rfl rfl rfl rfl rfl rfl (by kernel_rfl) (by kernel_rfl) ⟨[0, 1, 2, 3, 4, 5, 6, 7, 8], by decide, rfl⟩ ?_
      refine ga_first 22 (bm 23 8388607) rfl rfl rfl rfl (by kernel_rfl) (by kernel_rfl) ⟨[0, 1, 2, 3, 4, 5, 6, 7, 8], by decide, rfl⟩ (qt_rd (rd_pick_f rfl rfl)) ?_
      refine ga_end (by kernel_rfl) (.inr ⟨[0, 1, 2, 3, 4, 5, 6, 7, 8], by decide, rfl⟩) ?_
      refine gx_then <| gc_cond_f rfl <| gc_skip <| gx_block <| gx_then <| gc_region <| gl_op (op_rd rfl (by exact rd_addN (b := 1) rfl rfl (by omega)) ?_)
      refine gl_op <| op_rd rfl (rd_move rfl) <| gl_nil <| gx_then ?_
      exact gx_cut ((k + 1, (st1, o1), r, c)) ⟨⟨by simp only; omega, by simp only; rw [fold_take _ _ hp, ← hX, stepR_no (by rw [hxi, hdi]; omega)], hset, by simp only; omega⟩, by simp only; omega⟩ ⟨rfl, rfl, rfl, rfl, rfl, rfl, rfl, rfl, trivial⟩ ⟨[1, 2, 3, 4, 5, 6, 7, 8], by decide, rfl⟩
    refine ga_first 4 (bm 23 31) rfl rfl rfl rfl (by kernel_rfl) (by kernel_rfl) ⟨[0, 1, 2, 3, 4, 5, 6, 7, 8], by decide, rfl⟩ (qt_rd (rd_move rfl)) ?_
    refine ga_firstN 5 (bm 23 63) rfl rfl rfl rfl rfl rfl (by kernel_rfl) (by kernel_rfl) ⟨[0, 1, 2, 3, 4, 5, 6, 7, 8], by decide, rfl⟩ ?_
    refine ga_firstN 6 (bm 23 127) rfl rfl rfl rfl rfl rfl (by kernel_rfl) (by kernel_rfl) ⟨[0, 1, 2, 3, 4, 5, 6, 7, 8], by decide, rfl⟩ ?_
    refine ga_firstN 7 (bm 23 255) rfl rfl rfl rfl rfl rfl (by kernel_rfl) (by kernel_rfl) ⟨[0, 1, 2, 3, 4, 5, 6, 7, 8], by decide, rfl⟩ ?_
    refine ga_firstN 8 (bm 23 511) rfl rfl rfl rfl rfl rfl (by kernel_rfl) (by kernel_rfl) ⟨[0, 1, 2, 3, 4, 5, 6, 7, 8], by decide, rfl⟩ ?_
    refine ga_first 9 (bm 23 1023) rfl rfl rfl rfl (by kernel_rfl) (by kernel_rfl) ⟨[0, 1, 2, 3, 4, 5, 6, 7, 8], by decide, rfl⟩ (qt_rd (rd_pick_f rfl rfl)) ?_
    refine ga_first 10 (bm 23 2047) rfl rfl rfl rfl (by kernel_rfl) (by kernel_rfl) ⟨[0, 1, 2, 3, 4, 5, 6, 7, 8], by decide, rfl⟩ (qt_rd (rd_move rfl)) ?_
    refine ga_firstN 11 (bm 23 4095) rfl rfl rfl rfl rfl rfl (by kernel_rfl) (by kernel_rfl) ⟨[0, 1, 2, 3, 4, 5, 6, 7, 8], by decide, rfl⟩ ?_
    refine ga_firstN 12 (bm 23 8191) rfl rfl rfl rfl rfl rfl (by kernel_rfl) (by kernel_rfl) ⟨[0, 1, 2, 3, 4, 5, 6, 7, 8], by decide, rfl⟩ ?_
    refine ga_firstN 13 (bm 23 16383) rfl rfl rfl rfl rfl rfl (by kernel_rfl) (by kernel_rfl) ⟨[0, 1, 2, 3, 4, 5, 6, 7, 8], by decide, rfl⟩ ?_
    refine ga_firstN 14 (bm 23 32767) rfl rfl rfl rfl rfl rfl (by kernel_rfl) (by kernel_rfl) ⟨[0, 1, 2, 3, 4, 5, 6, 7, 8], by decide, rfl⟩ ?_
    refine ga_firstN 15 (bm 23 65535) rfl rfl rfl rfl rfl rfl (by kernel_rfl) (by kernel_rfl) ⟨[0, 1, 2, 3, 4, 5, 6, 7, 8], by decide, rfl⟩ ?_
    refine ga_firstN 16 (bm 23 131071) rfl rfl rfl rfl rfl rfl (by kernel_rfl) (by kernel_rfl) ⟨[0, 1, 2, 3, 4, 5, 6, 7, 8], by decide, rfl⟩ ?_
    refine ga_firstN 17 (bm 23 262143) rfl rfl rfl rfl rfl rfl (by kernel_rfl) (by kernel_rfl) ⟨[0, 1, 2, 3, 4, 5, 6, 7, 8], by decide, rfl⟩ ?_
    refine ga_firstN 18 (bm 23 524287) rfl rfl rfl rfl rfl rfl (by kernel_rfl) (by kernel_rfl) ⟨[0, 1, 2, 3, 4, 5, 6, 7, 8], by decide, rfl⟩ ?_
    refine ga_firstN 19 (bm 23 1048575) rfl rfl rfl rfl rfl rfl (by kernel_rfl) (by kernel_rfl) ⟨[0, 1, 2, 3, 4, 5, 6, 7, 8], by decide, rfl⟩ ?_
    refine ga_firstN 20 (bm 23 2097151) rfl rfl rfl rfl rfl rfl (by kernel_rfl) (by kernel_rfl) ⟨[0, 1, 2, 3, 4, 5, 6, 7, 8], by decide, rfl⟩ ?_
    refine ga_firstN 21 (bm 23 4194303) rfl rfl rfl rfl rfl rfl (by kernel_rfl) (by kernel_rfl) ⟨[0, 1, 2, 3, 4, 5, 6, 7, 8], by decide, rfl⟩ ?_
    refine ga_first 22 (bm 23 8388607) rfl rfl rfl rfl (by kernel_rfl) (by kernel_rfl) ⟨[0, 1, 2, 3, 4, 5, 6, 7, 8], by decide, rfl⟩ (qt_rd (rd_pick_f rfl rfl)) ?_
    refine ga_end (by kernel_rfl) (.inr ⟨[0, 1, 2, 3, 4, 5, 6, 7, 8], by decide, rfl⟩) ?_
    refine gx_then <| gc_cond_f rfl <| gc_skip <| gx_block <| gx_then <| gc_region <| gl_op (op_rd rfl (by exact rd_addN (b := 1) rfl rfl (by omega)) ?_)
    refine gl_op <| op_rd rfl (rd_move rfl) <| gl_nil <| gx_then ?_
    exact gx_cut ((k + 1, (st1, o1), r, c)) ⟨⟨by simp only; omega, by simp only; rw [fold_take _ _ hp, ← hX, stepR_no (by rw [hxi, hdi]; omega)], hset, by simp only; omega⟩, by simp only; omega⟩ ⟨rfl, rfl, rfl, rfl, rfl, rfl, rfl, rfl, trivial⟩ ⟨[1, 2, 3, 4, 5, 6, 7, 8], by decide, rfl⟩
  refine gl_nil <| gx_then <| gc_seq <| gc_cond_f rfl <| gc_exit <| gx_then_exit <| gx_then_exit <| gx_block_exit <| gx_then <| gc_seq <| gc_region <| gl_op <| op_rd rfl (rd_move rfl) <| gl_op <| op_rd rfl (rd_assign rfl) <| gl_nil <| gx_then <| gc_ret <| gx_ret1 (.inl rfl) Tryz.results54 rfl [5, 6, 7, 0, 1, 2] (by decide) ?_
  have hk9 : k = l.length := by omega
  rw [hk9, List.take_length] at hX
  unfold reachP
  rw [← hX]
  exact ⟨r, c, rfl, rfl⟩
end Go.Proofs.YtbjijbbkfgcleaaGreatDoor
namespace Go.Proofs.YtbjijbbkfgcleaaGreatDoor
open Go.Gv
open Go.RowKit
open Go.Sn
open Sx
namespace Sx
theorem get_gr {gs : List GR} {k : Nat} {g : GR} (h : gs[k]? = some g) : (gs.map GR.cell)[k]? = some g.cell := by rw [List.getElem?_map, h]; rfl
theorem set_gr (ys : List GR) (i : Nat) (g : GR) : (ys.map GR.cell).set i (.slice (rowA g.r) g.ps.length g.c) = (ys.set i g).map GR.cell := by rw [List.map_set]; rfl
theorem set_take_snoc {α : Type} {ys : List α} {i : Nat} {g : α} (h : i < ys.length) : (ys.take (i + 1)).set i g = ys.take i ++ [g] := by
  apply List.ext_getElem?
  intro q
  rw [List.getElem?_set, List.length_take, List.getElem?_append, List.length_take, Nat.min_eq_left (show i ≤ ys.length by omega), Nat.min_eq_left (show i + 1 ≤ ys.length by omega)]
  by_cases h1 : i = q
  · subst h1; simp
  · rw [if_neg h1]
    by_cases h2 : q < i
    · rw [if_pos h2, List.getElem?_take, List.getElem?_take, if_pos h2, if_pos (by omega)]
    · rw [if_neg h2, List.getElem?_take, if_neg (by omega)]
      have : q - i ≠ 0 := by omega
      simp [this]
end Sx
open Sx
set_option maxRecDepth 100000 in
set_option maxHeartbeats 1000000 in
theorem empty_ok (a : Option Addr) (n c : Nat) (w0 : World) : Sp Tryz.prog 58 [.slice a n c] w0 [] (RV (.bool (decide (n = 0)))) := by
  refine spec_enter Tryz.func58 rfl Tryz.ntmps58 rfl (Own.refl _) ?_
  simp only [argEnv]
  refine gc_seq <| gc_region <| gl_op <| op_rd rfl (rd_assign rfl) <| gl_nil <| gx_then <| gc_seq <| gc_region <| gl_op <| op_rd rfl (rd_move rfl) <| gl_op <| op_rd rfl (rd_lenSlice Tryz.underlying124 rfl) <| gl_op <| op_rd rfl (rd_eql rfl rfl) <| gl_op <| op_rd rfl (rd_assign rfl) <| gl_nil <| gx_then <| gc_ret <| gx_ret1 (.inl rfl) Tryz.results58 rfl [] (by decide) ?_
  refine ⟨congrArg Value.bool ?_, rfl⟩
  rw [Bool.eq_iff_iff]; simp
set_option maxRecDepth 100000 in
set_option maxHeartbeats 1000000 in
theorem IndexG_ok (gs : List GR) (a : Option Addr) (cp : Nat) (hl : gs.length ≤ 1000000) (w0 : World) (hsl : OldSl w0 [] a gs.length 1 (gs.map GR.cell)) : Sp Tryz.prog 80 [.slice a gs.length cp, .func (.func 58) #[] #[]] w0 [] (RV (.int .i64 (idxE gs 0))) := by
  refine spec_enter Tryz.func80 rfl Tryz.ntmps80 rfl (Own.refl _) ?_
  simp only [argEnv]
  refine gc_seq <| gc_region <| gl_op <| op_rd rfl (rd_assign rfl) <| gl_nil <| gx_then <| gc_seq <| gc_seq <| gc_region <| gl_op <| op_rd rfl (rd_move rfl) <| gl_op <| op_rd rfl (rd_lenSlice Tryz.underlying127 rfl) <| gl_op <| op_rd rfl (rd_move rfl) <| gl_nil <| gx_then <| gc_block <| gc_loopF (ι := Nat) [(0, _), (1, _), (7, _)] [] (fun k => k ≤ gs.length ∧ idxE gs 0 = idxE (gs.drop k) k) (fun k Fr0 => ((8, natV k) :: Fr0)) (fun k Fr0 => Fr0) (fun k => gs.length - k) 0 (⟨Nat.zero_le _, rfl⟩) ⟨rfl, rfl, rfl, rfl, trivial⟩ ⟨[], by decide, rfl⟩ ?_
  rintro k ⟨hk, hrun⟩
  refine gc_seq <| gc_region <| gl_op (op_rd rfl (rd_lss rfl rfl) (gk_dec (fun h9 => ?_) (fun h9 => ?_)))
  · obtain ⟨g, hg⟩ := get_some (show k < gs.length by omega)
    refine gl_nil <| gx_then <| gc_seq <| gc_cond_t rfl <| gc_skip <| gx_then <| gc_seq <| gc_block <| gc_seq <| gc_region <| gl_op <| op_rd rfl (rd_move rfl) <| gl_op <| op_rd rfl (rd_assign rfl) <| gl_nil <| gx_then <| gc_seq <| gc_region <| gl_op <| op_rd rfl (rd_move rfl) <| gl_op <| op_rd rfl (rd_move rfl) <| gl_op <| op_rd rfl (rd_move rfl) <| gl_op (op_rd rfl (rd_indexOld1 hsl Tryz.underlying127 ty_124 rfl rfl (by omega) (by omega)) ?_)
    refine gl_op <| op_rd rfl (rd_load Tryz.underlying124 rfl rfl (ld_slN hsl (get_gr hg))) ?_
    simp only [GR.cell]
    refine gl_op (op_call rfl (vf := []) (vc := []) rfl rfl Tryz.call58 (fun w1 ho => empty_ok _ _ _ w1) ?_)
    rintro _ _ ⟨rfl, rfl⟩
    refine gk_bool (fun he => ?_) (fun he => ?_)
    · refine gl_nil <| gx_then <| gc_cond_t rfl <| gc_seq <| gc_region <| gl_op <| op_rd rfl (rd_move rfl) <| gl_op <| op_rd rfl (rd_assign rfl) <| gl_nil <| gx_then <| gc_ret <| gx_block_ret <| gx_then_ret <| gx_then_ret <| gx_block_ret <| gx_then_ret <| gx_ret1 (.inl rfl) Tryz.results80 rfl [] (by decide) ?_
      rw [hrun, idxE_at hg, if_pos (by simpa using he)]
      exact ⟨rfl, rfl⟩
    refine gl_nil <| gx_then <| gc_cond_f rfl <| gc_skip <| gx_block <| gx_then <| gc_region <| gl_op (op_rd rfl (by exact rd_addN (b := 1) rfl rfl (by omega)) ?_)
    refine gl_op <| op_rd rfl (rd_move rfl) <| gl_nil <| gx_then ?_
    exact gx_cut (k + 1) ⟨⟨by omega, by rw [hrun, idxE_at hg, if_neg (by simpa using he)]⟩, by omega⟩ ⟨rfl, rfl, rfl, rfl, trivial⟩ ⟨[], by decide, rfl⟩
  refine gl_nil <| gx_then <| gc_seq <| gc_cond_f rfl <| gc_exit <| gx_then_exit <| gx_then_exit <| gx_block_exit <| gx_then <| gc_seq <| gc_region <| gl_op <| op_rd rfl (rd_assign rfl) <| gl_nil <| gx_then <| gc_ret <| gx_ret1 (.inl rfl) Tryz.results80 rfl [] (by decide) ?_
  rw [hrun, List.drop_eq_nil_of_le (by omega)]
  exact ⟨rfl, rfl⟩
set_option maxRecDepth 100000 in
set_option maxHeartbeats 1000000 in
theorem DeleteG_ok (gs : List GR) (r : Option Nat) (c : Nat) (hl : gs.length ≤ 1000000) (S : List Nat) (w0 : World) (hown : Own w0 S w0 [.row 124 1 r gs.length c (gs.map GR.cell)]) : Sp Tryz.prog 57 [.slice (rowA r) gs.length c, .func (.func 58) #[] #[]] w0 S (fun v L => v = .slice (rowA r) (gs.filter neB).length c ∧ L = [.row 124 1 r (gs.filter neB).length c ((gs.filter neB).map GR.cell)]) := by
  have hcap := row_cap (hown.holds (.row 124 1 r gs.length c (gs.map GR.cell)) (by simp))
  refine spec_enter Tryz.func57 rfl Tryz.ntmps57 rfl hown ?_
  simp only [argEnv]
  refine gc_seq <| gc_region <| gl_op <| op_rd rfl (rd_assign rfl) <| gl_nil <| gx_then <| gc_seq <| gc_region <| gl_op <| op_rd rfl (rd_move rfl) <| gl_op <| op_rd rfl (rd_move rfl) <| gl_op (op_call rfl (vf := []) (vc := []) rfl rfl Tryz.call80 (fun w1 ho => IndexG_ok gs _ c hl w1 (ho.rowSl 0 rfl)) ?_)
  rintro _ _ ⟨rfl, rfl⟩
  refine gl_op <| op_rd rfl (rd_assign rfl) <| gl_nil <| gx_then <| gc_seq <| gc_seq <| gc_region <| gl_op <| op_rd rfl (rd_move rfl) <| gl_op (op_rd rfl (rd_eql rfl rfl) (gk_dec (fun h12 => ?_) (fun h12 => ?_)))
  · refine gl_nil <| gx_then <| gc_cond_t rfl <| gc_seq <| gc_region <| gl_op <| op_rd rfl (rd_move rfl) <| gl_op <| op_rd rfl (rd_assign rfl) <| gl_nil <| gx_then <| gc_ret <| gx_then_ret <| gx_ret1 (.inl rfl) Tryz.results57 rfl [0] (by decide) ?_
    have hn := idxE_none (show idxE gs 0 = -1 by omega)
    rw [hn]
    exact ⟨rfl, rfl⟩
  have hle := idxE_le gs 0
  obtain ⟨i0, hi0⟩ : ∃ i0 : Nat, idxE gs 0 = i0 := ⟨(idxE gs 0).toNat, by omega⟩
  have hsome := idxE_some (l := gs) (k := 0) (j := i0) (by rw [hi0, Nat.zero_add])
  rw [hi0]
  refine gl_nil <| gx_then <| gc_cond_f rfl <| gc_skip <| gx_then <| gc_seq <| gc_seq <| gc_region <| gl_op <| op_rd rfl (rd_move rfl) <| gl_op (op_rd rfl (by exact rd_addN (b := 1) rfl rfl (by omega)) ?_)
  refine gl_op <| op_rd rfl (rd_assign rfl) <| gl_nil <| gx_then <| gc_block <| gc_loopF (ι := Nat × List GR) [(0, _), (1, _)] [] (fun q => q.1 ≤ gs.length ∧ q.2.length = gs.length ∧ ((gs.take q.1).filter neB).length < q.1 ∧ q.2.take ((gs.take q.1).filter neB).length = (gs.take q.1).filter neB ∧ q.2.drop q.1 = gs.drop q.1) (fun q Fr0 => ((5, natV ((gs.take q.1).filter neB).length) :: (6, natV q.1) :: Fr0)) (fun q Fr0 => (.row 124 1 r gs.length c (q.2.map GR.cell) :: Fr0)) (fun q => gs.length - q.1) (i0 + 1, gs) (⟨hsome.1, rfl, by simp only; rw [hsome.2, List.length_take, Nat.min_eq_left (by omega)]; omega, by simp only; rw [hsome.2, List.length_take, Nat.min_eq_left (by omega)], rfl⟩) ⟨(by rw [hsome.2, List.length_take, Nat.min_eq_left (by omega)]; rfl), rfl, rfl, rfl, trivial⟩ ⟨[0], by decide, rfl⟩ ?_
  rintro ⟨j, ys⟩ ⟨hj, hyl, hlt, htk, hdr⟩
  simp only at hj hyl hlt htk hdr ⊢
  obtain ⟨i, hi⟩ : ∃ i, ((gs.take j).filter neB).length = i := ⟨_, rfl⟩
  rw [hi] at hlt htk ⊢
  refine gc_seq <| gc_seq <| gc_region <| gl_op <| op_rd rfl (rd_move rfl) <| gl_op <| op_rd rfl (rd_move rfl) <| gl_op <| op_rd rfl (rd_lenSlice Tryz.underlying127 rfl) <| gl_op (op_rd rfl (rd_lss rfl rfl) (gk_dec (fun h19 => ?_) (fun h19 => ?_)))
  · obtain ⟨g, hg⟩ := get_some (show j < gs.length by omega)
    have hyg : ys[j]? = some g := by
      have h8 := congrArg (fun l => l[0]?) hdr
      simp only [List.getElem?_drop, Nat.add_zero] at h8
      rw [h8]; exact hg
    refine gl_nil <| gx_then <| gc_cond_t rfl <| gc_skip <| gx_then <| gc_seq <| gc_block <| gc_seq <| gc_region <| gl_op <| op_rd rfl (rd_move rfl) <| gl_op <| op_rd rfl (rd_move rfl) <| gl_op (op_rd rfl (by exact rd_indexRow1 0 rfl Tryz.underlying127 ty_124 rfl rfl (by omega) (by omega)) ?_)
    refine gl_op <| op_rd rfl (rd_load Tryz.underlying124 rfl rfl (ld_rowN 0 rfl (get_gr hyg))) <| gl_op <| op_rd rfl (rd_assign rfl) <| gl_nil <| gx_then <| gc_seq <| gc_region <| gl_op <| op_rd rfl (rd_move rfl) <| gl_op <| op_rd rfl (rd_move rfl) ?_
    simp only [GR.cell]
    refine gl_op (op_call rfl (vf := []) (vc := []) rfl rfl Tryz.call58 (fun w1 ho => empty_ok _ _ _ w1) ?_)
    rintro _ _ ⟨rfl, rfl⟩
    refine gk_bool (fun he => ?_) (fun he => ?_)
    · have hge : neB g = false := by unfold neB; simp at he ⊢; exact he
      have hfe : (gs.take (j + 1)).filter neB = (gs.take j).filter neB := by rw [take_at hg, List.filter_append]; simp [hge]
      have hfl : ((gs.take (j + 1)).filter neB).length = i := by rw [hfe, hi]
      refine gl_op <| op_rd rfl (rd_not rfl) <| gl_nil <| gx_then <| gc_cond_f rfl <| gc_skip <| gx_block <| gx_then <| gc_region <| gl_op <| op_rd rfl (rd_move rfl) <| gl_op (op_rd rfl (by exact rd_addN (b := 1) rfl rfl (by omega)) ?_)
      refine gl_op <| op_rd rfl (rd_assign rfl) <| gl_nil <| gx_then ?_
      exact gx_cut ((j + 1, ys)) ⟨⟨by simp only; omega, hyl, by simp only; rw [hfl]; omega, by simp only; rw [hfl, hfe]; exact htk, by simp only; rw [← List.drop_drop, hdr, List.drop_drop]⟩, by simp only; omega⟩ ⟨(by rw [hfl]; rfl), rfl, rfl, rfl, trivial⟩ ⟨[0], by decide, rfl⟩
    have hge : neB g = true := by unfold neB; simp at he ⊢; exact he
    have hfe : (gs.take (j + 1)).filter neB = (gs.take j).filter neB ++ [g] := by rw [take_at hg, List.filter_append]; simp [hge]
    have hfl : ((gs.take (j + 1)).filter neB).length = i + 1 := by rw [hfe, List.length_append, hi]; rfl
    refine gl_op <| op_rd rfl (rd_not rfl) <| gl_nil <| gx_then <| gc_cond_t rfl <| gc_seq <| gc_region <| gl_op <| op_rd rfl (rd_move rfl) <| gl_op <| op_rd rfl (rd_move rfl) <| gl_op <| op_rd rfl (rd_move rfl) <| gl_op (op_rd rfl (by exact rd_indexRow1 0 rfl Tryz.underlying127 ty_124 rfl rfl (by omega) (by omega)) ?_)
    refine gl_op (op_storeRowE 0 ty_124 rfl rfl rfl rfl (by rw [List.length_map]; omega) (set_gr ys i g) (by rfl) ?_)
    refine gl_nil <| gx_then <| gc_region <| gl_op <| op_rd rfl (rd_move rfl) <| gl_op (op_rd rfl (by exact rd_addN (b := 1) rfl rfl (by omega)) ?_)
    refine gl_op <| op_rd rfl (rd_assign rfl) <| gl_nil <| gx_block <| gx_then <| gc_region <| gl_op <| op_rd rfl (rd_move rfl) <| gl_op (op_rd rfl (by exact rd_addN (b := 1) rfl rfl (by omega)) ?_)
    refine gl_op <| op_rd rfl (rd_assign rfl) <| gl_nil <| gx_then ?_
    exact gx_cut ((j + 1, ys.set i g)) ⟨⟨by simp only; omega, by simp only; rw [List.length_set]; exact hyl, by simp only; rw [hfl]; omega, by simp only; rw [hfl, hfe, List.take_set, ← htk]; exact set_take_snoc (by omega), by simp only; rw [List.drop_set_of_lt (by omega), ← List.drop_drop, hdr, List.drop_drop]⟩, by simp only; omega⟩ ⟨(by rw [hfl]; rfl), rfl, rfl, rfl, trivial⟩ ⟨[0], by decide, rfl⟩
  refine gl_nil <| gx_then <| gc_cond_f rfl <| gc_exit <| gx_then_exit <| gx_then_exit <| gx_block_exit <| gx_then <| gc_seq ?_
  have hj9 : j = gs.length := by omega
  rw [hj9, List.take_length] at hi htk
  refine gc_region <| gl_op <| op_rd rfl (rd_move rfl) <| gl_op <| op_rd rfl (rd_move rfl) <| gl_op (op_rd rfl (rd_sliceLo Tryz.underlying127 ty_124 rfl rfl (by omega) (by omega)) ?_)
  simp only [Int.toNat_natCast]
  refine gl_op (op_clearRow 0 Tryz.underlying127 ty_124 rfl rfl rfl rfl (by omega) (by rw [← List.map_take, htk]) ?_)
  refine gl_nil <| gx_then <| gc_seq <| gc_region <| gl_op <| op_rd rfl (rd_move rfl) <| gl_op <| op_rd rfl (rd_move rfl) <| gl_op (op_rd rfl (rd_sliceHi Tryz.underlying127 ty_124 rfl rfl (by omega) (by omega)) ?_)
  refine gl_op <| op_rd rfl (rd_assign rfl) <| gl_nil <| gx_then <| gc_ret <| gx_ret1 (.inl rfl) Tryz.results57 rfl [0] (by decide) ?_
  simp only [Int.toNat_natCast]
  rw [← hi]
  exact ⟨rfl, rfl⟩
end Go.Proofs.YtbjijbbkfgcleaaGreatDoor
namespace Go.Proofs.YtbjijbbkfgcleaaGreatDoor
open Go.Gv
open Go.RowKit
open Go.Sn
open Sx
namespace Sx
/-- the groups in memory -/
structure GSOk (A : Cx) (x : GS) (G : List GR) (T : List HL) : Prop where
  set : SetOk A x.1
  ps : G.map GR.ps = x.2
  ok : ∀ g ∈ G, GOk g.ps
  tl : ∀ g ∈ G, RG g.r g.c g.ps ∈ T
theorem GSOk.put {A : Cx} {x1 : AS} {x2 : List (List Pl)} {G : List GR} {T : List HL} (h : GSOk A (x1, x2) G T) {st : AS} (hs : SetOk A st) {rg : Option Nat} {cg : Nat} {ps : List Pl} (hp : GOk ps) : GSOk A (st, x2 ++ [ps]) (G ++ [⟨rg, cg, ps⟩]) (T ++ [RG rg cg ps]) := by
  refine ⟨hs, by rw [List.map_append, h.ps]; rfl, fun g hg => ?_, fun g hg => ?_⟩
  · rcases List.mem_append.1 hg with hg | hg
    · exact h.ok g hg
    · rw [List.mem_singleton.1 hg]; exact hp
  · rcases List.mem_append.1 hg with hg | hg
    · exact List.mem_append_left _ (h.tl g hg)
    · rw [List.mem_singleton.1 hg]; exact List.mem_append_right _ (by simp)
theorem GSOk.filter {A : Cx} {x : GS} {G : List GR} {T : List HL} (h : GSOk A x G T) : GSOk A (x.1, x.2.filter fun l => decide (l ≠ [])) (G.filter neB) T := by
  refine ⟨h.set, ?_, fun g hg => h.ok g (List.mem_filter.1 hg).1, fun g hg => h.tl g (List.mem_filter.1 hg).1⟩
  show _ = x.2.filter _
  rw [← h.ps, List.filter_map]; rfl
theorem get_kn {ks : List KN} {k : Nat} {r : KN} (h : ks[k]? = some r) : (ks.map KN.cell)[k]? = some (.slice r.a r.ks.length r.c) := by rw [List.getElem?_map, h]; rfl
theorem get_nz {zs : List Nat} {k z : Nat} (h : zs[k]? = some z) : (zs.map natV)[k]? = some (natV z) := by rw [List.getElem?_map, h]; rfl
theorem snoc_gr (G : List GR) (rg : Option Nat) (cg : Nat) (ps : List Pl) : G.map GR.cell ++ [.slice (rowA rg) ps.length cg] = (G ++ [(⟨rg, cg, ps⟩ : GR)]).map GR.cell := by rw [List.map_append]; rfl
theorem setC_zero : (Value.agg #[.int .u64 0, .int .u64 0]).cells.toList = setC 0 := rfl
end Sx
open Sx
set_option maxRecDepth 100000 in
set_option maxHeartbeats 1000000 in
theorem acting_ok (s : Org) (h : HN) (hle : OrgLe s) (hg : HGood s h) (w0 : World) (hS : OrgIn s w0 []) (hH : HNIn h w0 []) : Sp Tryz.prog 33 [s.val, h.val] w0 [] (fun v L => ∃ b30 k27 c27 m28, v = .pointer (some ⟨b30, 0, none⟩) ∧ L = [BK s.ds.length b30 k27 c27 m28, RS s.ds.length k27 c27 (actP (cxN s h)).sets, OM m28 (actP (cxN s h)).tb]) := by
  have hA := hg.cx
  have hnd : s.ds.length ≤ 6 := hA.nd
  have hkl : h.ks.length = s.ds.length := by have := hA.nk; simpa [cxN] using this
  have hnc := hg.nc
  have hcl : h.cs.length ≤ s.cs.length := asc_len hA.dra hA.drn
  refine spec_enter Tryz.func33 rfl Tryz.ntmps33 rfl (Own.refl _) ?_
  simp only [argEnv]
  refine gc_seq <| gc_region <| gl_op (op_box rfl rfl rfl (fun b2 => ?_))
  refine gl_op (op_box rfl rfl rfl (fun b3 => ?_))
  refine gl_op <| op_rd rfl (rd_assign rfl) <| gl_nil <| gx_then <| gc_seq <| gc_region <| gl_op <| op_rd rfl (rd_fieldAddr rfl (fa_27_0 _)) <| gl_op (op_rd rfl (rd_load Tryz.underlying22 rfl rfl (by exact ld_blk 1 rfl rfl)) ?_)
  refine gl_op <| op_rd rfl (rd_lenSlice Tryz.underlying22 rfl) <| gl_op (op_makeSlice (s.ds.length) Tryz.underlying75 ty_87 rfl rfl rfl (by omega) (by omega) (by omega) (by omega) (fun b27 => ?_))
  refine gl_op (op_makeMapP stpV rfl (fun b28 => ?_))
  refine gl_op (op_rd rfl (rd_build rfl (fun _ => bd_97_0_1 _ _ _ _)) ?_)
  refine gl_op (op_box rfl rfl rfl (fun b30 => ?_))
  refine gl_op (op_alloc ty_93 rfl rfl (fun b5 => ?_))
  refine gl_op (op_store 0 ty_93 rfl rfl rfl rfl rfl (by rfl) (by rfl) ?_)
  refine gl_nil <| gx_then <| gc_seq <| gc_seq ?_
  rw [made_flat setC 2 _ 0 setC_zero (fun _ => rfl) (by decide), actO_nil]
  refine gc_region <| gl_op <| op_rd rfl (rd_fieldAddr rfl (fa_31_0 _)) <| gl_op (op_rd rfl (rd_load Tryz.underlying28 rfl rfl (by exact ld_blk 4 rfl rfl)) ?_)
  refine gl_op <| op_rd rfl (rd_lenSlice Tryz.underlying28 rfl) <| gl_op <| op_rd rfl (rd_move rfl) <| gl_nil <| gx_then <| gc_block <| gc_loopF (ι := Nat) [(2, _), (3, _), (5, _), (32, _), (33, _)] [_, _, _, _] (fun k => k ≤ h.ks.length) (fun k Fr0 => ((34, natV k) :: Fr0)) (fun k Fr0 => (.row 87 2 (some b27) s.ds.length s.ds.length (((stPre (cxN s h) k 0).sets).flatMap setC) :: .obj b28 (actO (stPre (cxN s h) k 0).tb) :: Fr0)) (fun k => h.ks.length - k) 0 (Nat.zero_le _) ⟨rfl, rfl, rfl, rfl, rfl, rfl, trivial⟩ ⟨[3, 2, 0, 1, 4, 5], by decide, rfl⟩ ?_
  rintro k hk
  refine gc_seq <| gc_region <| gl_op (op_rd rfl (rd_lss rfl rfl) (gk_dec (fun h35 => ?_) (fun h35 => ?_)))
  · obtain ⟨r, hr⟩ := get_some (show k < h.ks.length by omega)
    have hrm := List.mem_of_getElem? hr
    have hkd : (cxN s h).kd k = r.ks := by
      show (h.ks.map KN.ks).getD k [] = r.ks
      rw [List.getD_eq_getElem?_getD, List.getElem?_map, hr]; rfl
    have hrl := hg.hk r hrm
    refine gl_nil <| gx_then <| gc_seq <| gc_cond_t rfl <| gc_skip <| gx_then <| gc_seq <| gc_block <| gc_seq <| gc_region <| gl_op <| op_rd rfl (rd_move rfl) <| gl_op (op_rd rfl (rd_indexOld1 hH.k Tryz.underlying28 ty_29 rfl rfl (by omega) (by omega)) ?_)
    refine gl_op <| op_rd rfl (rd_load Tryz.underlying29 rfl rfl (ld_slN hH.k (get_kn hr))) <| gl_op <| op_rd rfl (rd_assign rfl) <| gl_op <| op_rd rfl (rd_assign rfl) <| gl_nil <| gx_then <| gc_seq <| gc_region <| gl_op <| op_rd rfl (rd_move rfl) <| gl_op <| op_rd rfl (rd_lenSlice Tryz.underlying29 rfl) <| gl_op <| op_rd rfl (rd_move rfl) <| gl_nil <| gx_then <| gc_block <| gc_loopF (ι := Nat) [(2, _), (3, _), (5, _), (6, _), (32, _), (33, _), (34, _), (39, _), (40, _)] [_, _, _, _] (fun j => j ≤ r.ks.length) (fun j Fr0 => ((41, natV j) :: Fr0)) (fun j Fr0 => (.row 87 2 (some b27) s.ds.length s.ds.length (((stPre (cxN s h) k j).sets).flatMap setC) :: .obj b28 (actO (stPre (cxN s h) k j).tb) :: Fr0)) (fun j => r.ks.length - j) 0 (Nat.zero_le _) ⟨rfl, rfl, rfl, rfl, rfl, rfl, rfl, rfl, rfl, rfl, trivial⟩ ⟨[0, 1, 2, 3, 4, 5], by decide, rfl⟩ ?_
    rintro j hj
    refine gc_seq <| gc_region <| gl_op (op_rd rfl (rd_lss rfl rfl) (gk_dec (fun h42 => ?_) (fun h42 => ?_)))
    · obtain ⟨n, hn⟩ := get_some (show j < r.ks.length by omega)
      have hkn : ((cxN s h).kd k)[j]? = some n := by rw [hkd]; exact hn
      have hkk := hA.key k n (by rw [hkd]; exact List.mem_of_getElem? hn)
      have hkr := hA.rng k (show k < s.ds.length by omega)
      have hset := stPre_set hA k j
      have hsl0 : (stPre (cxN s h) k j).sets.length = s.ds.length := hset.len
      refine gl_nil <| gx_then <| gc_seq <| gc_cond_t rfl <| gc_skip <| gx_then <| gc_seq <| gc_block <| gc_seq <| gc_region <| gl_op (op_rd rfl (rd_indexOld1 (hH.r r hrm) Tryz.underlying29 ty_3 rfl rfl (by omega) (by omega)) ?_)
      refine gl_op <| op_rd rfl (rd_load Tryz.underlying3 rfl rfl (ld_slN (hH.r r hrm) (get_nz hn))) <| gl_op <| op_rd rfl (rd_assign rfl) <| gl_nil <| gx_then <| gc_seq <| gc_region <| gl_op (op_rd rfl (rd_load Tryz.underlying93 rfl rfl (by exact ld_blk 2 rfl rfl)) ?_)
      refine gl_op <| op_rd rfl (rd_nilCheck rfl) <| gl_op <| op_rd rfl (rd_fieldAddr rfl (fa_97_0 _)) <| gl_op (op_rd rfl (rd_load Tryz.underlying75 rfl rfl (by exact ld_blk 3 rfl rfl)) ?_)
      refine gl_op <| op_rd rfl (rd_move rfl) <| gl_op (op_rd rfl (by exact rd_indexRow 0 rfl Tryz.underlying75 ty_87 rfl rfl (by omega) (by omega)) ?_)
      refine gl_op <| op_rd rfl (rd_move rfl) <| gl_op (op_callM [0] [1, 2, 3, 4, 5] rfl (vf := []) (vc := []) rfl rfl Tryz.call42 (by decide) rfl (fun w how hc => add_ok (stPre (cxN s h) k j).sets k n b27 s.ds.length s.ds.length hsl0 (by omega) (by omega) hset.lt w hc) ?_)
      rintro _ _ ⟨rfl, rfl⟩
      rw [show addSet (stPre (cxN s h) k j).sets (k, n) = (stPre (cxN s h) k (j + 1)).sets by rw [stPre_snoc hkn]; rfl]
      refine gl_nil <| gx_then <| gc_region <| gl_op (op_rd rfl (rd_load Tryz.underlying93 rfl rfl (by exact ld_blk 2 rfl rfl)) ?_)
      refine gl_op <| op_rd rfl (rd_nilCheck rfl) <| gl_op <| op_rd rfl (rd_fieldAddr rfl (fa_97_1 _)) <| gl_op (op_rd rfl (rd_load Tryz.underlying95 rfl rfl (by exact ld_blk 3 rfl rfl)) ?_)
      refine gl_op <| op_rd rfl (rd_move rfl) <| gl_op <| op_rd rfl (rd_move rfl) <| gl_op (op_rd rfl (rd_build rfl (fun _ => bd_107_0_1 _ _)) ?_)
      refine gl_op (op_rd rfl (rd_build rfl (fun _ => bd_123_0 _)) ?_)
      refine gl_op <| op_mapPutP 1 stpV (v := (-1, (0, 0))) Tryz.underlying95 i2_place rfl rfl rfl rfl (mpOf_none (q := (k, n)) (stPre_none hA hkn)) rfl ?_
      rw [show mapP stpV (mpOf (stPre (cxN s h) k j).tb 0 ++ [⟨(k : Int), (n : Int), (-1, (0, 0)), (stPre (cxN s h) k j).tb.length⟩]) ((stPre (cxN s h) k j).tb.length + 1) = actO (stPre (cxN s h) k (j + 1)).tb by rw [stPre_snoc hkn]; exact actO_snoc _ ⟨(k, n), -1, (0, 0), (k, n), []⟩]
      refine gl_nil <| gx_block <| gx_then <| gc_region <| gl_op (op_rd rfl (by exact rd_addN (b := 1) rfl rfl (by omega)) ?_)
      refine gl_op <| op_rd rfl (rd_move rfl) <| gl_nil <| gx_then ?_
      exact gx_cut (j + 1) ⟨by omega, by omega⟩ ⟨rfl, rfl, rfl, rfl, rfl, rfl, rfl, rfl, rfl, rfl, trivial⟩ ⟨[0, 1, 2, 3, 4, 5], by decide, rfl⟩
    refine gl_nil <| gx_then <| gc_seq <| gc_cond_f rfl <| gc_exit <| gx_then_exit <| gx_then_exit <| gx_block_exit <| gx_block <| gx_then ?_
    have hj9 : j = ((cxN s h).kd k).length := by rw [hkd]; omega
    rw [hj9, stPre_row]
    refine gc_region <| gl_op (op_rd rfl (by exact rd_addN (b := 1) rfl rfl (by omega)) ?_)
    refine gl_op <| op_rd rfl (rd_move rfl) <| gl_nil <| gx_then ?_
    exact gx_cut (k + 1) ⟨by omega, by omega⟩ ⟨rfl, rfl, rfl, rfl, rfl, rfl, trivial⟩ ⟨[0, 1, 2, 3, 4, 5], by decide, rfl⟩
  refine gl_nil <| gx_then <| gc_seq <| gc_cond_f rfl <| gc_exit <| gx_then_exit <| gx_then_exit <| gx_block_exit <| gx_then <| gc_seq ?_
  have hk9 : k = (cxN s h).ks.length := by show k = (h.ks.map KN.ks).length; rw [List.length_map]; omega
  rw [hk9, stPre_end hA]
  refine gc_region <| gl_op <| op_rd rfl (rd_makeFunc (fs := []) (cs := [.tmp 2, .tmp 5]) rfl rfl) <| gl_op <| op_rd rfl (rd_assign rfl) <| gl_nil <| gx_then <| gc_seq <| gc_region <| gl_op <| op_rd rfl (rd_assign rfl) <| gl_nil <| gx_then <| gc_seq <| gc_seq <| gc_region <| gl_op <| op_rd rfl (rd_fieldAddr rfl (fa_31_2 _)) <| gl_op (op_rd rfl (rd_load Tryz.underlying29 rfl rfl (by exact ld_blk 4 rfl rfl)) ?_)
  refine gl_op <| op_rd rfl (rd_lenSlice Tryz.underlying29 rfl) <| gl_op <| op_rd rfl (rd_move rfl) <| gl_nil <| gx_then <| gc_block <| gk_nil 124 1 <| gc_loopF (ι := Nat × GS × List GR × Option Nat × Nat × List HL) [(2, _), (3, _), (5, _), (10, _), (65, _), (66, _)] [_, _, _, _] (fun q => q.1 ≤ h.cs.length ∧ q.2.1 = (h.cs.take q.1).foldl (firstStep (cxN s h)) (st0 (cxN s h), []) ∧ GSOk (cxN s h) q.2.1 q.2.2.1 q.2.2.2.2.2 ∧ q.2.2.1.length = q.1) (fun q Fr0 => ((11, .slice (rowA q.2.2.2.1) q.2.2.1.length q.2.2.2.2.1) :: (67, natV q.1) :: Fr0)) (fun q Fr0 => (.row 87 2 (some b27) s.ds.length s.ds.length ((q.2.1.1.sets).flatMap setC) :: .obj b28 (actO q.2.1.1.tb) :: .row 124 1 q.2.2.2.1 q.2.2.1.length q.2.2.2.2.1 (q.2.2.1.map GR.cell) :: (Fr0 ++ q.2.2.2.2.2))) (fun q => h.cs.length - q.1) (0, (st0 (cxN s h), []), [], none, 0, []) (⟨Nat.zero_le _, rfl, ⟨(st0_ok hA).2, rfl, by simp, by simp⟩, rfl⟩) ⟨rfl, rfl, rfl, rfl, rfl, rfl, rfl, rfl, trivial⟩ ⟨[1, 2, 0, 3, 4, 5, 6], by decide, rfl⟩ ?_
  rintro ⟨k, ⟨x1, x2⟩, G, rG, cG, T⟩ ⟨hk, hX, hG, hGl⟩
  simp only at hk hX hG hGl ⊢
  have hset := hG.set
  simp only at hset
  refine gc_seq <| gc_region <| gl_op (op_rd rfl (rd_lss rfl rfl) (gk_dec (fun h68 => ?_) (fun h68 => ?_)))
  · obtain ⟨i, hi⟩ := get_some (show k < h.cs.length by omega)
    have him : i ∈ (cxN s h).dr := List.mem_of_getElem? hi
    obtain ⟨cp, hcp⟩ := get_some (show i < s.cs.length from hA.drn i him)
    have hcpi : (cxN s h).cp i = cp := getD_some hcp
    have hil : i < s.cs.length := hA.drn i him
    obtain ⟨hs0, hs1⟩ := hA.src i hil
    rw [hcpi] at hs0 hs1
    change cp.src < s.ds.length at hs1
    obtain ⟨kr, hkr⟩ := get_some (show cp.src.toNat < h.ks.length by omega)
    have hkrm := List.mem_of_getElem? hkr
    have hkd : (cxN s h).kd cp.src.toNat = kr.ks := by
      show (h.ks.map KN.ks).getD cp.src.toNat [] = kr.ks
      rw [List.getD_eq_getElem?_getD, List.getElem?_map, hkr]; rfl
    have hstart : (cxN s h).start i = (takenL cp kr.ks).map fun n => (cp.src.toNat, n) := by unfold Cx.start; rw [hcpi, hkd]
    have hsgo := start_gok hA i
    have hstl : (takenL cp kr.ks).length ≤ 128 := by have := hsgo.len; rw [hstart, List.length_map] at this; exact this
    have hsn : cp.src = ((cp.src.toNat : Nat) : Int) := by omega
    refine gl_nil <| gx_then <| gc_seq <| gc_cond_t rfl <| gc_skip <| gx_then <| gc_seq <| gc_block <| gc_seq <| gc_region <| gl_op (op_rd rfl (rd_indexOld1 hH.c Tryz.underlying29 ty_3 rfl rfl (by omega) (by omega)) ?_)
    refine gl_op <| op_rd rfl (rd_load Tryz.underlying3 rfl rfl (ld_slN hH.c (get_nz hi))) <| gl_op <| op_rd rfl (rd_assign rfl) <| gl_nil <| gx_then <| gc_seq <| gc_region <| gl_op <| op_rd rfl (rd_assign rfl) <| gl_nil <| gx_then <| gc_seq <| gc_region <| gl_op <| op_rd rfl (rd_fieldAddr rfl (fa_27_3 _)) <| gl_op (op_rd rfl (rd_load Tryz.underlying25 rfl rfl (by exact ld_blk 6 rfl rfl)) ?_)
    refine gl_op <| op_rd rfl (rd_move rfl) <| gl_op (op_rd rfl (rd_indexOld hS.c Tryz.underlying25 ty_58 rfl rfl (by omega) (by omega)) ?_)
    refine gl_op (op_rd rfl (rd_loadAgg Tryz.underlying58 rfl ty_58 rfl (cs_slN hS.c (flat_drop_get Cp.cells 6 (fun _ => rfl) hcp)) rfl) ?_)
    refine gl_op (op_alloc ty_58 rfl rfl (fun b15 => ?_))
    refine gl_op (op_storeAgg 0 ty_58 rfl rfl rfl rfl rfl rfl (by rfl) ?_)
    refine gl_nil <| gx_then <| gc_seq <| gc_seq ?_
    simp only [Cp.cells]
    refine gc_drawP [0, 1, 2, 3, 4, 5, 6, 7] true 9 rfl <| ga_first 0 (bm 10 1) rfl rfl rfl rfl (by kernel_rfl) (by kernel_rfl) ⟨[0, 1, 2, 3, 4, 5, 6, 7], by decide, rfl⟩ (qt_rd (rd_loadAgg Tryz.underlying58 rfl ty_58 rfl (by exact cs_blk 0 (off := 0) (k := 6) rfl rfl) rfl)) ?_
    refine ga_first 1 (bm 10 3) rfl rfl rfl rfl (by kernel_rfl) (by kernel_rfl) ⟨[0, 1, 2, 3, 4, 5, 6, 7], by decide, rfl⟩ (qt_rd (rd_fieldAddr rfl (fa_31_0 _))) ?_
    refine ga_first 2 (bm 10 7) rfl rfl rfl rfl (by kernel_rfl) (by kernel_rfl) ⟨[0, 1, 2, 3, 4, 5, 6, 7], by decide, rfl⟩ (qt_rd (rd_load Tryz.underlying28 rfl rfl (by exact ld_blk 6 rfl rfl))) ?_
    refine ga_first 3 (bm 10 15) rfl rfl rfl rfl (by kernel_rfl) (by kernel_rfl) ⟨[0, 1, 2, 3, 4, 5, 6, 7], by decide, rfl⟩ (qt_rd (rd_fieldAddr rfl (fa_58_1 _))) ?_
    refine ga_first 4 (bm 10 31) rfl rfl rfl rfl (by kernel_rfl) (by kernel_rfl) ⟨[0, 1, 2, 3, 4, 5, 6, 7], by decide, rfl⟩ (qt_rd (rd_load Tryz.underlying3 rfl rfl (by exact ld_blk 0 rfl rfl))) ?_
    refine ga_first 5 (bm 10 63) rfl rfl rfl rfl (by kernel_rfl) (by kernel_rfl) ⟨[0, 1, 2, 3, 4, 5, 6, 7], by decide, rfl⟩ (qt_rd (rd_indexOld1 hH.k Tryz.underlying28 ty_29 rfl rfl (by omega) (by omega))) ?_
    refine ga_first 6 (bm 10 127) rfl rfl rfl rfl (by kernel_rfl) (by kernel_rfl) ⟨[0, 1, 2, 3, 4, 5, 6, 7], by decide, rfl⟩ (qt_rd (rd_load Tryz.underlying29 rfl rfl (ld_sl hH.k (get_kn hkr)))) ?_
    refine ga_first 9 (bm 10 639) rfl rfl rfl rfl (by kernel_rfl) (by kernel_rfl) ⟨[0, 1, 2, 3, 4, 5, 6, 7], by decide, rfl⟩ (qt_rd (rd_move rfl)) ?_
    refine ga_only 7 (bm 10 767) rfl rfl (by kernel_rfl) (by kernel_rfl) (.inr ⟨[0, 1, 2, 3, 4, 5, 6, 7], by decide, rfl⟩) (op_call rfl (vf := []) (vc := []) rfl rfl Tryz.call56 (fun w1 ho => taken_ok cp kr.ks kr.a kr.c (hg.hc kr hkrm) (hg.hk kr hkrm) w1) ?_)
    rintro _ _ ⟨rfl, a2, c2, rfl, htk⟩
    have hsl3 := htk w0 [] (hH.r kr hkrm)
    refine ga_first 8 (bm 10 1023) rfl rfl rfl rfl (by kernel_rfl) (by kernel_rfl) ⟨[0, 1, 2, 3, 4, 5, 6, 7], by decide, rfl⟩ (qt_rd (rd_lenSlice Tryz.underlying29 rfl)) ?_
    refine ga_end (by kernel_rfl) (.inr ⟨[0, 1, 2, 3, 4, 5, 6, 7], by decide, rfl⟩) ?_
    refine gx_then <| gc_block <| gk_nil 107 2 <| gc_loopF (ι := Nat × Option Nat × Nat) [(2, _), (3, _), (5, _), (10, _), (11, _), (13, _), (15, _), (65, _), (66, _), (67, _), (83, _), (84, _)] (_ :: _ :: _ :: _ :: _ :: _ :: _ :: _ :: T) (fun q => q.1 ≤ (takenL cp kr.ks).length) (fun q Fr0 => ((14, .slice (rowA q.2.1) q.1 q.2.2) :: (85, natV q.1) :: Fr0)) (fun q Fr0 => (.row 107 2 q.2.1 q.1 q.2.2 ((((takenL cp kr.ks).take q.1).map fun n => (cp.src.toNat, n)).flatMap plC) :: Fr0)) (fun q => (takenL cp kr.ks).length - q.1) (0, none, 0) (Nat.zero_le _) ⟨rfl, rfl, rfl, rfl, rfl, rfl, rfl, rfl, rfl, rfl, rfl, rfl, rfl, rfl, trivial⟩ (sub_tail (A := [_, _, _, _, _, _, _, _, _]) (B := [_, _, _, _, _, _, _, _, _]) (T := T) [0, 1, 2, 3, 4, 5, 6, 7, 8] 9 (by decide) (by decide) rfl rfl) ?_
    rintro ⟨j, r14, c14⟩ hj
    simp only at hj ⊢
    refine gc_seq <| gc_region <| gl_op (op_rd rfl (rd_lss rfl rfl) (gk_dec (fun h86 => ?_) (fun h86 => ?_)))
    · obtain ⟨n, hn⟩ := get_some (show j < (takenL cp kr.ks).length by omega)
      refine gl_nil <| gx_then <| gc_seq <| gc_cond_t rfl <| gc_skip <| gx_then <| gc_seq <| gc_block <| gc_seq <| gc_region <| gl_op (op_rd rfl (rd_indexOld1 hsl3 Tryz.underlying29 ty_3 rfl rfl (by omega) (by omega)) ?_)
      refine gl_op <| op_rd rfl (rd_load Tryz.underlying3 rfl rfl (ld_slN hsl3 (get_nz hn))) <| gl_op <| op_rd rfl (rd_assign rfl) <| gl_nil <| gx_then <| gc_region <| gl_op <| op_rd rfl (rd_move rfl) <| gl_op <| op_rd rfl (rd_fieldAddr rfl (fa_58_1 _)) <| gl_op (op_rd rfl (rd_load Tryz.underlying3 rfl rfl (by exact ld_blk 1 rfl rfl)) ?_)
      refine gl_op <| op_rd rfl (rd_move rfl) <| gl_op (op_rd rfl (rd_build rfl (fun _ => bd_107_0_1 _ _)) ?_)
      refine gl_op (op_buildSlice (sz := 2) rfl rfl (fun _ => bs_124_1_0 _ _) rfl rfl (fun b94 => ?_))
      refine gl_op (op_appendRow 1 0 Tryz.underlying124 ty_107 rfl (by decide) rfl rfl rfl rfl rfl (by simp [Value.oneCell']) (by omega) (by omega) (fun _ => (by rfl)) (fun r95 c95 => ?_))
      refine gl_op <| op_rd rfl (rd_assign rfl) <| gl_nil <| gx_block <| gx_then ?_
      rw [show ((((takenL cp kr.ks).take j).map fun n => (cp.src.toNat, n)).flatMap plC) ++ [.int .i64 cp.src, .int .i64 (n : Int)] = ((((takenL cp kr.ks).take (j + 1)).map fun n => (cp.src.toNat, n)).flatMap plC) by rw [take_at hn, List.map_append, List.flatMap_append]; simp only [List.map_cons, List.map_nil, List.flatMap_cons, List.flatMap_nil, plC, List.append_nil]; rw [show natV cp.src.toNat = .int .i64 cp.src from congrArg (Value.int .i64) hsn.symm]]
      refine gc_region <| gl_op (op_rd rfl (by exact rd_addN (b := 1) rfl rfl (by omega)) ?_)
      refine gl_op <| op_rd rfl (rd_move rfl) <| gl_nil <| gx_then ?_
      exact gx_cut ((j + 1, r95, c95)) ⟨by simp only; omega, by simp only; omega⟩ ⟨rfl, rfl, rfl, rfl, rfl, rfl, rfl, rfl, rfl, rfl, rfl, rfl, rfl, rfl, trivial⟩ (sub_tail (A := [_, _, _, _, _, _, _, _, _]) (B := [_, _, _, _, _, _, _, _, _, _]) (T := T) [1, 2, 3, 4, 5, 6, 7, 8, 9] 10 (by decide) (by decide) rfl rfl)
    refine gl_nil <| gx_then <| gc_seq <| gc_cond_f rfl <| gc_exit <| gx_then_exit <| gx_then_exit <| gx_block_exit <| gx_then ?_
    have hj9 : j = ((cxN s h).start i).length := by rw [hstart, List.length_map]; omega
    rw [show ((takenL cp kr.ks).take j).map (fun n => (cp.src.toNat, n)) = (cxN s h).start i by rw [hstart, List.take_of_length_le (by rw [hj9, hstart, List.length_map]; exact Nat.le_refl _)], hj9]
    refine gc_region <| gl_op <| op_rd rfl (rd_move rfl) <| gl_op <| op_rd rfl (rd_move rfl) <| gl_op <| op_rd rfl (rd_move rfl) <| gl_op <| op_rd rfl (rd_move rfl) <| gl_op (op_callMT [_, _, _, _, _, _, _, _, _] T [8, 5, 6, 2, 3] [0, 1, 4, 7] 9 rfl rfl rfl (vf := []) (vc := [.pointer (some ⟨b2, 0, none⟩), .pointer (some ⟨b5, 0, none⟩)]) rfl rfl Tryz.call54 (by decide) (by decide) rfl (fun w how hc => reached_ok s h hle hA i him ((cxN s h).start i) (rowA r14) c14 (Nat.le_trans hsgo.len (by decide)) hsgo.key b2 b5 b30 b27 s.ds.length b28 x1 hset w (hS.atS how (new_pick (B := [_, _, _, _, _, _, _, _, _]) (T := T) how [8, 5, 6, 2, 3])) (rowOutB (B := [_, _, _, _, _, _, _, _, _]) (T := T) how 0 [8, 5, 6, 2, 3] 9 rfl (by decide) rfl (by decide)) hc) ?_)
    rintro _ _ ⟨rg, cg, rfl, rfl⟩
    refine gk_mid2 [_, _, _, _, _] [RG rg cg (reachP (cxN s h) i ((cxN s h).start i) x1).2] [_, _, _, _] T <| gl_op (op_buildSlice (sz := 1) rfl rfl (fun _ => bs_127_1_0 _ _ _) rfl rfl (fun b102 => ?_))
    refine gl_op (op_appendRow 8 0 Tryz.underlying127 ty_124 rfl (by decide) rfl rfl rfl rfl rfl (by simp [Value.oneCell']) (by omega) (by omega) (fun _ => (by rfl)) (fun r103 c103 => ?_))
    refine gl_op <| op_rd rfl (rd_assign rfl) <| gl_nil <| gx_block <| gx_then ?_
    rw [snoc_gr, show G.length + 1 = (G ++ [(⟨rg, cg, (reachP (cxN s h) i ((cxN s h).start i) x1).2⟩ : GR)]).length by simp]
    refine gc_region <| gl_op (op_rd rfl (by exact rd_addN (b := 1) rfl rfl (by omega)) ?_)
    refine gl_op <| op_rd rfl (rd_move rfl) <| gl_nil <| gx_then ?_
    exact gx_cut ((k + 1, firstStep (cxN s h) (x1, x2) i, G ++ [(⟨rg, cg, (reachP (cxN s h) i ((cxN s h).start i) x1).2⟩ : GR)], r103, c103, T ++ [RG rg cg (reachP (cxN s h) i ((cxN s h).start i) x1).2])) ⟨⟨by simp only; omega, by simp only; rw [fold_take _ _ hi, ← hX], hG.put (reachP_set hA him hset) (reachP_gok hA him hset (start_gok hA i)), by simp only [List.length_append, List.length_cons, List.length_nil]; omega⟩, by simp only; omega⟩ ⟨rfl, rfl, rfl, rfl, rfl, rfl, rfl, rfl, trivial⟩ (sub_tail (A := [_, _, _, _, _, _, _]) (B := [_, _, _, _, _, _, _, _, _, _]) (T := (T ++ [RG rg cg (reachP (cxN s h) i ((cxN s h).start i) x1).2])) [4, 5, 8, 2, 3, 9, 1] 10 (by decide) (by decide) rfl rfl)
  refine gl_nil <| gx_then <| gc_seq <| gc_cond_f rfl <| gc_exit <| gx_then_exit <| gx_then_exit <| gx_block_exit <| gx_then <| gc_seq <| gc_block ?_
  have hX0 : (x1, x2) = lev (cxN s h) 0 := by
    rw [hX, List.take_of_length_le (by omega)]; rfl
  rw [show x1.sets = (lev (cxN s h) 0).1.sets by rw [← hX0], show x1.tb = (lev (cxN s h) 0).1.tb by rw [← hX0]]
  refine gc_loopF (ι := Nat × List GR × Option Nat × Nat × List HL) [(2, _), (3, _), (5, _), (10, _)] [_, _, _, _] (fun q => q.1 ≤ 768 ∧ GSOk (cxN s h) (lev (cxN s h) q.1) q.2.1 q.2.2.2.2) (fun q Fr0 => ((11, .slice (rowA q.2.2.1) q.2.1.length q.2.2.2.1) :: Fr0)) (fun q Fr0 => (.row 87 2 (some b27) s.ds.length s.ds.length (((lev (cxN s h) q.1).1.sets).flatMap setC) :: .obj b28 (actO (lev (cxN s h) q.1).1.tb) :: .row 124 1 q.2.2.1 q.2.1.length q.2.2.2.1 (q.2.1.map GR.cell) :: (Fr0 ++ q.2.2.2.2))) (fun q => 1000 - q.1) (0, G, rG, cG, T) (⟨Nat.zero_le _, hX0 ▸ hG⟩) ⟨rfl, rfl, rfl, rfl, rfl, trivial⟩ (sub_tail (A := [_, _, _, _, _, _, _]) (B := [_, _, _, _, _, _, _]) (T := T) [0, 1, 2, 3, 4, 5, 6] 7 (by decide) (by decide) rfl rfl) ?_
  rintro ⟨lv, G2, r2, c2, T2⟩ ⟨hlv, hG2⟩
  simp only at hlv hG2 ⊢
  obtain ⟨⟨y1, y2⟩, hy⟩ : ∃ y, lev (cxN s h) lv = y := ⟨_, rfl⟩
  have hgo := lev_go hA (n := lv)
  have hln := lev_len hA (by show h.cs.length ≤ 768; omega) lv
  rw [hy] at hG2 hgo hln ⊢
  simp only at hgo hln ⊢
  have hg2p : G2.map GR.ps = y2 := hG2.ps
  have hg2l : G2.length = y2.length := by rw [← hg2p, List.length_map]
  refine gc_seq <| gc_seq <| gc_region <| gl_op <| op_rd rfl (rd_move rfl) <| gl_op <| op_rd rfl (rd_lenSlice Tryz.underlying127 rfl) <| gl_op (op_rd rfl (rd_gtr rfl rfl) (gk_dec (fun h107 => ?_) (fun h107 => ?_)))
  · have hlt : lv < 768 := hgo (fun e => absurd (show G2.length = 0 from by rw [hg2l, e]; rfl) (by omega))
    refine gl_nil <| gx_then <| gc_cond_t rfl <| gc_skip <| gx_then <| gc_block <| gc_seq <| gc_region <| gl_op <| op_rd rfl (rd_assign rfl) <| gl_nil <| gx_then <| gc_seq <| gc_seq <| gc_region <| gl_op <| op_rd rfl (rd_move rfl) <| gl_op <| op_rd rfl (rd_lenSlice Tryz.underlying127 rfl) <| gl_op <| op_rd rfl (rd_move rfl) <| gl_nil <| gx_then <| gc_block <| gk_nil 124 1 <| gc_loopF (ι := Nat × GS × List GR × Option Nat × Nat × List HL) [(2, _), (3, _), (5, _), (10, _), (108, _), (109, _)] [_, _, _, _, _] (fun q => q.1 ≤ G2.length ∧ q.2.1 = (y2.take q.1).foldl (nextL (cxN s h)) (y1, []) ∧ GSOk (cxN s h) q.2.1 q.2.2.1 q.2.2.2.2.2 ∧ q.2.2.1.length ≤ q.1 * 24 ∧ (∀ g ∈ G2, RG g.r g.c g.ps ∈ q.2.2.2.2.2)) (fun q Fr0 => ((18, .slice (rowA q.2.2.2.1) q.2.2.1.length q.2.2.2.2.1) :: (110, natV q.1) :: Fr0)) (fun q Fr0 => (.row 87 2 (some b27) s.ds.length s.ds.length ((q.2.1.1.sets).flatMap setC) :: .obj b28 (actO q.2.1.1.tb) :: .row 124 1 q.2.2.2.1 q.2.2.1.length q.2.2.2.2.1 (q.2.2.1.map GR.cell) :: (Fr0 ++ q.2.2.2.2.2))) (fun q => G2.length - q.1) (0, (y1, []), [], none, 0, T2) (⟨Nat.zero_le _, rfl, ⟨hG2.set, rfl, by simp, by simp⟩, Nat.zero_le _, hG2.tl⟩) ⟨rfl, rfl, rfl, rfl, rfl, rfl, rfl, rfl, trivial⟩ (sub_tail (A := [_, _, _, _, _, _, _, _]) (B := [_, _, _, _, _, _, _, _]) (T := T2) [1, 2, 0, 3, 4, 5, 6, 7] 8 (by decide) (by decide) rfl rfl) ?_
    rintro ⟨k, ⟨z1, z2⟩, N3, r3, c3, T3⟩ ⟨hk, hX, hN3, hNl, hGT⟩
    simp only at hk hX hN3 hNl hGT ⊢
    refine gc_seq <| gc_region <| gl_op (op_rd rfl (rd_lss rfl rfl) (gk_dec (fun h111 => ?_) (fun h111 => ?_)))
    · obtain ⟨gr, hgr⟩ := get_some (show k < G2.length by omega)
      have hgm := List.mem_of_getElem? hgr
      have hgok := hG2.ok gr hgm
      have hgp : y2[k]? = some gr.ps := by rw [← hg2p, List.getElem?_map, hgr]; rfl
      refine gl_nil <| gx_then <| gc_seq <| gc_cond_t rfl <| gc_skip <| gx_then <| gc_seq <| gc_block <| gc_seq <| gc_region <| gl_op (op_rd rfl (rd_indexRow1 3 rfl Tryz.underlying127 ty_124 rfl rfl (by omega) (by omega)) ?_)
      refine gl_op <| op_rd rfl (rd_load Tryz.underlying124 rfl rfl (ld_rowN 3 rfl (get_gr hgr))) <| gl_op <| op_rd rfl (rd_assign rfl) <| gl_nil <| gx_then <| gc_seq <| gc_region <| gl_op <| op_rd rfl (rd_fieldAddr rfl (fa_31_2 _)) <| gl_op (op_rd rfl (rd_load Tryz.underlying29 rfl rfl (by exact ld_blk 6 rfl rfl)) ?_)
      refine gl_op <| op_rd rfl (rd_lenSlice Tryz.underlying29 rfl) <| gl_op <| op_rd rfl (rd_move rfl) <| gl_nil <| gx_then <| gc_block <| gc_loopF (ι := Nat × GS × List GR × Option Nat × Nat × List HL) [(2, _), (3, _), (5, _), (10, _), (20, _), (108, _), (109, _), (110, _), (115, _), (116, _)] [_, _, _, _, _] (fun q => q.1 ≤ h.cs.length ∧ q.2.1 = (h.cs.take q.1).foldl (nextC (cxN s h) gr.ps) (z1, z2) ∧ GSOk (cxN s h) q.2.1 q.2.2.1 q.2.2.2.2.2 ∧ q.2.2.1.length ≤ k * 24 + q.1 ∧ (∀ g ∈ G2, RG g.r g.c g.ps ∈ q.2.2.2.2.2)) (fun q Fr0 => ((18, .slice (rowA q.2.2.2.1) q.2.2.1.length q.2.2.2.2.1) :: (117, natV q.1) :: Fr0)) (fun q Fr0 => (.row 87 2 (some b27) s.ds.length s.ds.length ((q.2.1.1.sets).flatMap setC) :: .obj b28 (actO q.2.1.1.tb) :: .row 124 1 q.2.2.2.1 q.2.2.1.length q.2.2.2.2.1 (q.2.2.1.map GR.cell) :: (Fr0 ++ q.2.2.2.2.2))) (fun q => h.cs.length - q.1) (0, (z1, z2), N3, r3, c3, T3) (⟨Nat.zero_le _, rfl, hN3, by simp only; omega, hGT⟩) ⟨rfl, rfl, rfl, rfl, rfl, rfl, rfl, rfl, rfl, rfl, rfl, rfl, trivial⟩ (sub_tail (A := [_, _, _, _, _, _, _, _]) (B := [_, _, _, _, _, _, _, _]) (T := T3) [0, 1, 2, 3, 4, 5, 6, 7] 8 (by decide) (by decide) rfl rfl) ?_
      rintro ⟨j, ⟨u1, u2⟩, N4, r4, c4, T4⟩ ⟨hj, hU, hN4, hNl4, hGT4⟩
      simp only at hj hU hN4 hNl4 hGT4 ⊢
      have hset := hN4.set
      simp only at hset
      refine gc_seq <| gc_region <| gl_op (op_rd rfl (rd_lss rfl rfl) (gk_dec (fun h118 => ?_) (fun h118 => ?_)))
      · obtain ⟨i, hi⟩ := get_some (show j < h.cs.length by omega)
        have him : i ∈ (cxN s h).dr := List.mem_of_getElem? hi
        obtain ⟨cp, hcp⟩ := get_some (show i < s.cs.length from hA.drn i him)
        have hcpi : (cxN s h).cp i = cp := getD_some hcp
        have hil : i < s.cs.length := hA.drn i him
        obtain ⟨hs0, hs1⟩ := hA.src i hil
        rw [hcpi] at hs0 hs1
        change cp.src < s.ds.length at hs1
        refine gl_nil <| gx_then <| gc_seq <| gc_cond_t rfl <| gc_skip <| gx_then <| gc_seq <| gc_block <| gc_seq <| gc_region <| gl_op (op_rd rfl (rd_indexOld1 hH.c Tryz.underlying29 ty_3 rfl rfl (by omega) (by omega)) ?_)
        refine gl_op <| op_rd rfl (rd_load Tryz.underlying3 rfl rfl (ld_slN hH.c (get_nz hi))) <| gl_op <| op_rd rfl (rd_assign rfl) <| gl_nil <| gx_then <| gc_seq <| gc_region <| gl_op <| op_rd rfl (rd_fieldAddr rfl (fa_27_3 _)) <| gl_op (op_rd rfl (rd_load Tryz.underlying25 rfl rfl (by exact ld_blk 7 rfl rfl)) ?_)
        refine gl_op <| op_rd rfl (rd_move rfl) <| gl_op (op_rd rfl (rd_indexOld hS.c Tryz.underlying25 ty_58 rfl rfl (by omega) (by omega)) ?_)
        refine gl_op (op_rd rfl (rd_loadAgg Tryz.underlying58 rfl ty_58 rfl (cs_slN hS.c (flat_drop_get Cp.cells 6 (fun _ => rfl) hcp)) rfl) ?_)
        refine gl_op (op_alloc ty_58 rfl rfl (fun b23 => ?_))
        refine gl_op (op_storeAgg 0 ty_58 rfl rfl rfl rfl rfl rfl (by rfl) ?_)
        refine gl_nil <| gx_then <| gc_seq ?_
        simp only [Cp.cells]
        refine gc_drawP [0, 1, 2, 3, 4, 5, 6, 7, 8] true 15 rfl <| ga_first 0 (bm 16 1) rfl rfl rfl rfl (by kernel_rfl) (by kernel_rfl) ⟨[0, 1, 2, 3, 4, 5, 6, 7, 8], by decide, rfl⟩ (qt_rd (rd_move rfl)) ?_
        refine ga_first 1 (bm 16 3) rfl rfl rfl rfl (by kernel_rfl) (by kernel_rfl) ⟨[0, 1, 2, 3, 4, 5, 6, 7, 8], by decide, rfl⟩ (qt_rd (rd_lenSlice Tryz.underlying124 rfl)) ?_
        refine ga_first 2 (bm 16 7) rfl rfl rfl rfl (by kernel_rfl) (by kernel_rfl) ⟨[0, 1, 2, 3, 4, 5, 6, 7, 8], by decide, rfl⟩ (qt_rd (rd_gtr rfl rfl)) (gk_dec (fun h128 => ?_) (fun h128 => ?_))
        · obtain ⟨p0, l0, hps⟩ : ∃ p0 l0, gr.ps = p0 :: l0 := by
            cases hq : gr.ps with
            | nil => rw [hq] at h128; simp at h128
            | cons p0 l0 => exact ⟨p0, l0, rfl⟩
          have hmt := hGT4 gr hgm
          refine ga_first 3 (bm 16 15) rfl rfl rfl rfl (by kernel_rfl) (by kernel_rfl) ⟨[0, 1, 2, 3, 4, 5, 6, 7, 8], by decide, rfl⟩ (qt_rd (rd_move rfl)) ?_
          refine ga_firstY 4 (bm 16 31) rfl rfl rfl rfl rfl rfl (by kernel_rfl) (by kernel_rfl) ⟨[0, 1, 2, 3, 4, 5, 6, 7, 8], by decide, rfl⟩ (qt_rd (rd_fieldAddr rfl (fa_58_5 _))) ?_
          refine ga_firstY 5 (bm 16 63) rfl rfl rfl rfl rfl rfl (by kernel_rfl) (by kernel_rfl) ⟨[0, 1, 2, 3, 4, 5, 6, 7, 8], by decide, rfl⟩ (qt_rd (rd_load Tryz.underlying4 rfl rfl (by exact ld_blk 0 rfl rfl))) ?_
          refine gk_bool (fun h131 => ?_) (fun h131 => ?_)
          · refine ga_first 6 (bm 16 127) rfl rfl rfl rfl (by kernel_rfl) (by kernel_rfl) ⟨[0, 1, 2, 3, 4, 5, 6, 7, 8], by decide, rfl⟩ (qt_rd (rd_pick_t rfl rfl)) ?_
            refine ga_first 7 (bm 16 255) rfl rfl rfl rfl (by kernel_rfl) (by kernel_rfl) ⟨[0, 1, 2, 3, 4, 5, 6, 7, 8], by decide, rfl⟩ (qt_rd (rd_move rfl)) ?_
            refine ga_firstY 8 (bm 16 511) rfl rfl rfl rfl rfl rfl (by kernel_rfl) (by kernel_rfl) ⟨[0, 1, 2, 3, 4, 5, 6, 7, 8], by decide, rfl⟩ (qt_rd (rd_fieldAddr rfl (fa_58_1 _))) ?_
            refine ga_firstY 9 (bm 16 1023) rfl rfl rfl rfl rfl rfl (by kernel_rfl) (by kernel_rfl) ⟨[0, 1, 2, 3, 4, 5, 6, 7, 8], by decide, rfl⟩ (qt_rd (rd_load Tryz.underlying3 rfl rfl (by exact ld_blk 0 rfl rfl))) ?_
            refine ga_firstY 10 (bm 16 2047) rfl rfl rfl rfl rfl rfl (by kernel_rfl) (by kernel_rfl) ⟨[0, 1, 2, 3, 4, 5, 6, 7, 8], by decide, rfl⟩ (qt_rd (rd_move rfl)) ?_
            refine ga_onlyY 11 (bm 16 4095) rfl rfl rfl rfl (by kernel_rfl) (by kernel_rfl) (.inr ⟨[0, 1, 2, 3, 4, 5, 6, 7, 8], by decide, rfl⟩) (op_rd rfl (rd_indexMem (List.mem_append_right [_, _, _, _, _, _, _, _, _] hmt) Tryz.underlying124 ty_107 rfl rfl (by decide) (by omega)) ?_)
            refine ga_firstY 12 (bm 16 8191) rfl rfl rfl rfl rfl rfl (by kernel_rfl) (by kernel_rfl) ⟨[0, 1, 2, 3, 4, 5, 6, 7, 8], by decide, rfl⟩ (qt_rd (rd_fieldAddr rfl (fa_107_0 _))) ?_
            refine ga_onlyY 13 (bm 16 16383) rfl rfl rfl rfl (by kernel_rfl) (by kernel_rfl) (.inr ⟨[0, 1, 2, 3, 4, 5, 6, 7, 8], by decide, rfl⟩) (op_rd rfl (rd_load Tryz.underlying3 rfl rfl (ld_memRow (off := 0) (List.mem_append_right [_, _, _, _, _, _, _, _, _] hmt) (by rw [hps]; rfl))) ?_)
            refine ga_firstY 14 (bm 16 32767) rfl rfl rfl rfl rfl rfl (by kernel_rfl) (by kernel_rfl) ⟨[0, 1, 2, 3, 4, 5, 6, 7, 8], by decide, rfl⟩ (qt_rd (rd_eql rfl rfl)) (gk_dec (fun h140 => ?_) (fun h140 => ?_))
            · have hnx : nextC (cxN s h) gr.ps (u1, u2) i = ((reachP (cxN s h) i gr.ps u1).1, u2 ++ [(reachP (cxN s h) i gr.ps u1).2]) := by
                unfold nextC; rw [if_pos]; rw [goesL_eq hcpi hps, h131]; simp; omega
              refine ga_first 15 (bm 16 65535) rfl rfl rfl rfl (by kernel_rfl) (by kernel_rfl) ⟨[0, 1, 2, 3, 4, 5, 6, 7, 8], by decide, rfl⟩ (qt_rd (rd_pick_t rfl rfl)) ?_
              refine ga_end (by kernel_rfl) (.inr ⟨[0, 1, 2, 3, 4, 5, 6, 7, 8], by decide, rfl⟩) ?_
              refine gx_then <| gc_cond_t rfl <| gc_region <| gl_op <| op_rd rfl (rd_move rfl) <| gl_op <| op_rd rfl (rd_move rfl) <| gl_op <| op_rd rfl (rd_move rfl) <| gl_op <| op_rd rfl (rd_move rfl) <| gl_op (op_callMT [_, _, _, _, _, _, _, _, _] T4 [8, 5, 6, 1, 2] [0, 3, 4, 7] 9 rfl rfl rfl (vf := []) (vc := [.pointer (some ⟨b2, 0, none⟩), .pointer (some ⟨b5, 0, none⟩)]) rfl rfl Tryz.call54 (by decide) (by decide) rfl (fun w how hc => reached_ok s h hle hA i him gr.ps (rowA gr.r) gr.c (Nat.le_trans hgok.len (by decide)) hgok.key b2 b5 b30 b27 s.ds.length b28 u1 hset w (hS.atS how (new_pick (B := [_, _, _, _, _, _, _, _, _]) (T := T4) how [8, 5, 6, 1, 2])) (rowOutT (A := [_, _, _, _, _, _, _, _, _]) (T := T4) how [8, 5, 6, 1, 2] 9 rfl (by decide) hmt) hc) ?_)
              rintro _ _ ⟨rg, cg, rfl, rfl⟩
              refine gk_mid2 [_, _, _, _, _] [RG rg cg (reachP (cxN s h) i gr.ps u1).2] [_, _, _, _] T4 <| gl_op (op_buildSlice (sz := 1) rfl rfl (fun _ => bs_127_1_0 _ _ _) rfl rfl (fun b147 => ?_))
              refine gl_op (op_appendRow 7 0 Tryz.underlying127 ty_124 rfl (by decide) rfl rfl rfl rfl rfl (by simp [Value.oneCell']) (by omega) (by omega) (fun _ => (by rfl)) (fun r148 c148 => ?_))
              refine gl_op <| op_rd rfl (rd_assign rfl) <| gl_nil <| gx_block <| gx_then ?_
              rw [snoc_gr, show N4.length + 1 = (N4 ++ [(⟨rg, cg, (reachP (cxN s h) i gr.ps u1).2⟩ : GR)]).length by simp, show (reachP (cxN s h) i gr.ps u1).1 = (nextC (cxN s h) gr.ps (u1, u2) i).1 by rw [hnx]]
              refine gc_region <| gl_op (op_rd rfl (by exact rd_addN (b := 1) rfl rfl (by omega)) ?_)
              refine gl_op <| op_rd rfl (rd_move rfl) <| gl_nil <| gx_then ?_
              exact gx_cut ((j + 1, nextC (cxN s h) gr.ps (u1, u2) i, N4 ++ [(⟨rg, cg, (reachP (cxN s h) i gr.ps u1).2⟩ : GR)], r148, c148, T4 ++ [RG rg cg (reachP (cxN s h) i gr.ps u1).2])) ⟨⟨by simp only; omega, by simp only; rw [fold_take _ _ hi, ← hU], by rw [hnx]; exact hN4.put (reachP_set hA him hset) (reachP_gok hA him hset hgok), by simp only [List.length_append, List.length_cons, List.length_nil]; omega, fun g hg => List.mem_append_left _ (hGT4 g hg)⟩, by simp only; omega⟩ ⟨rfl, rfl, rfl, rfl, rfl, rfl, rfl, rfl, rfl, rfl, rfl, rfl, trivial⟩ (sub_tail (A := [_, _, _, _, _, _, _, _]) (B := [_, _, _, _, _, _, _, _, _, _]) (T := (T4 ++ [RG rg cg (reachP (cxN s h) i gr.ps u1).2])) [4, 5, 7, 8, 2, 3, 9, 1] 10 (by decide) (by decide) rfl rfl)
            have hnx : nextC (cxN s h) gr.ps (u1, u2) i = (u1, u2) := by
              unfold nextC; rw [if_neg]; rw [goesL_eq hcpi hps, h131]; simp; omega
            refine ga_first 15 (bm 16 65535) rfl rfl rfl rfl (by kernel_rfl) (by kernel_rfl) ⟨[0, 1, 2, 3, 4, 5, 6, 7, 8], by decide, rfl⟩ (qt_rd (rd_pick_t rfl rfl)) ?_
            refine ga_end (by kernel_rfl) (.inr ⟨[0, 1, 2, 3, 4, 5, 6, 7, 8], by decide, rfl⟩) ?_
            refine gx_then <| gc_cond_f rfl <| gc_skip <| gx_block <| gx_then <| gc_region <| gl_op (op_rd rfl (by exact rd_addN (b := 1) rfl rfl (by omega)) ?_)
            refine gl_op <| op_rd rfl (rd_move rfl) <| gl_nil <| gx_then ?_
            exact gx_cut ((j + 1, (u1, u2), N4, r4, c4, T4)) ⟨⟨by simp only; omega, by simp only; rw [fold_take _ _ hi, ← hU]; exact hnx.symm, hN4, by simp only; omega, hGT4⟩, by simp only; omega⟩ ⟨rfl, rfl, rfl, rfl, rfl, rfl, rfl, rfl, rfl, rfl, rfl, rfl, trivial⟩ (sub_tail (A := [_, _, _, _, _, _, _, _]) (B := [_, _, _, _, _, _, _, _, _]) (T := T4) [1, 2, 3, 4, 5, 6, 7, 8] 9 (by decide) (by decide) rfl rfl)
          have hnx : nextC (cxN s h) gr.ps (u1, u2) i = (u1, u2) := by
            unfold nextC; rw [if_neg]; rw [goesL_eq hcpi hps, h131]; simp
          refine ga_first 6 (bm 16 127) rfl rfl rfl rfl (by kernel_rfl) (by kernel_rfl) ⟨[0, 1, 2, 3, 4, 5, 6, 7, 8], by decide, rfl⟩ (qt_rd (rd_pick_t rfl rfl)) ?_
          refine ga_first 7 (bm 16 255) rfl rfl rfl rfl (by kernel_rfl) (by kernel_rfl) ⟨[0, 1, 2, 3, 4, 5, 6, 7, 8], by decide, rfl⟩ (qt_rd (rd_move rfl)) ?_
          refine ga_firstN 8 (bm 16 511) rfl rfl rfl rfl rfl rfl (by kernel_rfl) (by kernel_rfl) ⟨[0, 1, 2, 3, 4, 5, 6, 7, 8], by decide, rfl⟩ ?_
          refine ga_firstN 9 (bm 16 1023) rfl rfl rfl rfl rfl rfl (by kernel_rfl) (by kernel_rfl) ⟨[0, 1, 2, 3, 4, 5, 6, 7, 8], by decide, rfl⟩ ?_
          refine ga_firstN 10 (bm 16 2047) rfl rfl rfl rfl rfl rfl (by kernel_rfl) (by kernel_rfl) ⟨[0, 1, 2, 3, 4, 5, 6, 7, 8], by decide, rfl⟩ ?_
          refine ga_firstN 11 (bm 16 4095) rfl rfl rfl rfl rfl rfl (by kernel_rfl) (by kernel_rfl) ⟨[0, 1, 2, 3, 4, 5, 6, 7, 8], by decide, rfl⟩ ?_
          refine ga_firstN 12 (bm 16 8191) rfl rfl rfl rfl rfl rfl (by kernel_rfl) (by kernel_rfl) ⟨[0, 1, 2, 3, 4, 5, 6, 7, 8], by decide, rfl⟩ ?_
          refine ga_firstN 13 (bm 16 16383) rfl rfl rfl rfl rfl rfl (by kernel_rfl) (by kernel_rfl) ⟨[0, 1, 2, 3, 4, 5, 6, 7, 8], by decide, rfl⟩ ?_
          refine ga_firstN 14 (bm 16 32767) rfl rfl rfl rfl rfl rfl (by kernel_rfl) (by kernel_rfl) ⟨[0, 1, 2, 3, 4, 5, 6, 7, 8], by decide, rfl⟩ ?_
          refine ga_first 15 (bm 16 65535) rfl rfl rfl rfl (by kernel_rfl) (by kernel_rfl) ⟨[0, 1, 2, 3, 4, 5, 6, 7, 8], by decide, rfl⟩ (qt_rd (rd_pick_f rfl rfl)) ?_
          refine ga_end (by kernel_rfl) (.inr ⟨[0, 1, 2, 3, 4, 5, 6, 7, 8], by decide, rfl⟩) ?_
          refine gx_then <| gc_cond_f rfl <| gc_skip <| gx_block <| gx_then <| gc_region <| gl_op (op_rd rfl (by exact rd_addN (b := 1) rfl rfl (by omega)) ?_)
          refine gl_op <| op_rd rfl (rd_move rfl) <| gl_nil <| gx_then ?_
          exact gx_cut ((j + 1, (u1, u2), N4, r4, c4, T4)) ⟨⟨by simp only; omega, by simp only; rw [fold_take _ _ hi, ← hU]; exact hnx.symm, hN4, by simp only; omega, hGT4⟩, by simp only; omega⟩ ⟨rfl, rfl, rfl, rfl, rfl, rfl, rfl, rfl, rfl, rfl, rfl, rfl, trivial⟩ (sub_tail (A := [_, _, _, _, _, _, _, _]) (B := [_, _, _, _, _, _, _, _, _]) (T := T4) [1, 2, 3, 4, 5, 6, 7, 8] 9 (by decide) (by decide) rfl rfl)
        have hps : gr.ps = [] := List.length_eq_zero_iff.1 (by omega)
        have hnx : nextC (cxN s h) gr.ps (u1, u2) i = (u1, u2) := by unfold nextC; rw [hps]; rfl
        refine ga_first 3 (bm 16 15) rfl rfl rfl rfl (by kernel_rfl) (by kernel_rfl) ⟨[0, 1, 2, 3, 4, 5, 6, 7, 8], by decide, rfl⟩ (qt_rd (rd_move rfl)) ?_
        refine ga_firstN 4 (bm 16 31) rfl rfl rfl rfl rfl rfl (by kernel_rfl) (by kernel_rfl) ⟨[0, 1, 2, 3, 4, 5, 6, 7, 8], by decide, rfl⟩ ?_
        refine ga_firstN 5 (bm 16 63) rfl rfl rfl rfl rfl rfl (by kernel_rfl) (by kernel_rfl) ⟨[0, 1, 2, 3, 4, 5, 6, 7, 8], by decide, rfl⟩ ?_
        refine ga_first 6 (bm 16 127) rfl rfl rfl rfl (by kernel_rfl) (by kernel_rfl) ⟨[0, 1, 2, 3, 4, 5, 6, 7, 8], by decide, rfl⟩ (qt_rd (rd_pick_f rfl rfl)) ?_
        refine ga_first 7 (bm 16 255) rfl rfl rfl rfl (by kernel_rfl) (by kernel_rfl) ⟨[0, 1, 2, 3, 4, 5, 6, 7, 8], by decide, rfl⟩ (qt_rd (rd_move rfl)) ?_
        refine ga_firstN 8 (bm 16 511) rfl rfl rfl rfl rfl rfl (by kernel_rfl) (by kernel_rfl) ⟨[0, 1, 2, 3, 4, 5, 6, 7, 8], by decide, rfl⟩ ?_
        refine ga_firstN 9 (bm 16 1023) rfl rfl rfl rfl rfl rfl (by kernel_rfl) (by kernel_rfl) ⟨[0, 1, 2, 3, 4, 5, 6, 7, 8], by decide, rfl⟩ ?_
        refine ga_firstN 10 (bm 16 2047) rfl rfl rfl rfl rfl rfl (by kernel_rfl) (by kernel_rfl) ⟨[0, 1, 2, 3, 4, 5, 6, 7, 8], by decide, rfl⟩ ?_
        refine ga_firstN 11 (bm 16 4095) rfl rfl rfl rfl rfl rfl (by kernel_rfl) (by kernel_rfl) ⟨[0, 1, 2, 3, 4, 5, 6, 7, 8], by decide, rfl⟩ ?_
        refine ga_firstN 12 (bm 16 8191) rfl rfl rfl rfl rfl rfl (by kernel_rfl) (by kernel_rfl) ⟨[0, 1, 2, 3, 4, 5, 6, 7, 8], by decide, rfl⟩ ?_
        refine ga_firstN 13 (bm 16 16383) rfl rfl rfl rfl rfl rfl (by kernel_rfl) (by kernel_rfl) ⟨[0, 1, 2, 3, 4, 5, 6, 7, 8], by decide, rfl⟩ ?_
        refine ga_firstN 14 (bm 16 32767) rfl rfl rfl rfl rfl rfl (by kernel_rfl) (by kernel_rfl) ⟨[0, 1, 2, 3, 4, 5, 6, 7, 8], by decide, rfl⟩ ?_
        refine ga_first 15 (bm 16 65535) rfl rfl rfl rfl (by kernel_rfl) (by kernel_rfl) ⟨[0, 1, 2, 3, 4, 5, 6, 7, 8], by decide, rfl⟩ (qt_rd (rd_pick_f rfl rfl)) ?_
        refine ga_end (by kernel_rfl) (.inr ⟨[0, 1, 2, 3, 4, 5, 6, 7, 8], by decide, rfl⟩) ?_
        refine gx_then <| gc_cond_f rfl <| gc_skip <| gx_block <| gx_then <| gc_region <| gl_op (op_rd rfl (by exact rd_addN (b := 1) rfl rfl (by omega)) ?_)
        refine gl_op <| op_rd rfl (rd_move rfl) <| gl_nil <| gx_then ?_
        exact gx_cut ((j + 1, (u1, u2), N4, r4, c4, T4)) ⟨⟨by simp only; omega, by simp only; rw [fold_take _ _ hi, ← hU]; exact hnx.symm, hN4, by simp only; omega, hGT4⟩, by simp only; omega⟩ ⟨rfl, rfl, rfl, rfl, rfl, rfl, rfl, rfl, rfl, rfl, rfl, rfl, trivial⟩ (sub_tail (A := [_, _, _, _, _, _, _, _]) (B := [_, _, _, _, _, _, _, _, _]) (T := T4) [1, 2, 3, 4, 5, 6, 7, 8] 9 (by decide) (by decide) rfl rfl)
      refine gl_nil <| gx_then <| gc_seq <| gc_cond_f rfl <| gc_exit <| gx_then_exit <| gx_then_exit <| gx_block_exit <| gx_block <| gx_then <| gc_region <| gl_op (op_rd rfl (by exact rd_addN (b := 1) rfl rfl (by omega)) ?_)
      refine gl_op <| op_rd rfl (rd_move rfl) <| gl_nil <| gx_then ?_
      exact gx_cut ((k + 1, (u1, u2), N4, r4, c4, T4)) ⟨⟨by simp only; omega, by simp only; rw [fold_take _ _ hgp, ← hX]; unfold nextL; rw [hU, show h.cs.take j = h.cs from List.take_of_length_le (by omega)]; rfl, hN4, by simp only; omega, hGT4⟩, by simp only; omega⟩ ⟨rfl, rfl, rfl, rfl, rfl, rfl, rfl, rfl, trivial⟩ (sub_tail (A := [_, _, _, _, _, _, _, _]) (B := [_, _, _, _, _, _, _, _]) (T := T4) [0, 1, 2, 3, 4, 5, 6, 7] 8 (by decide) (by decide) rfl rfl)
    refine gl_nil <| gx_then <| gc_seq <| gc_cond_f rfl <| gc_exit <| gx_then_exit <| gx_then_exit <| gx_block_exit <| gx_then ?_
    have hlev : lev (cxN s h) (lv + 1) = (z1, z2.filter fun l => decide (l ≠ [])) := by
      show nextG (cxN s h) (lev (cxN s h) lv) = _
      rw [hy]
      unfold nextG
      simp only
      rw [show y2.take k = y2 from List.take_of_length_le (by omega)] at hX
      rw [← hX]
    rw [show z1.sets = (lev (cxN s h) (lv + 1)).1.sets by rw [hlev], show z1.tb = (lev (cxN s h) (lv + 1)).1.tb by rw [hlev]]
    refine gc_region <| gl_op <| op_rd rfl (rd_move rfl) <| gl_op (op_callMT [_, _, _, _, _, _, _, _] T3 [2] [0, 1, 3, 4, 5, 6, 7] 8 rfl rfl rfl (vf := []) (vc := []) rfl rfl Tryz.call57 (by decide) (by decide) rfl (fun w how hc => DeleteG_ok N3 r3 c3 (by omega) _ w hc) ?_)
    rintro _ _ ⟨rfl, rfl⟩
    refine gl_op <| op_rd rfl (rd_assign rfl) <| gl_nil <| gx_block <| gx_then ?_
    exact gx_cut ((lv + 1, N3.filter neB, r3, c3, T3)) ⟨⟨by simp only; omega, by simp only; rw [hlev]; exact hN3.filter⟩, by simp only; omega⟩ ⟨rfl, rfl, rfl, rfl, rfl, trivial⟩ (sub_tail (A := [_, _, _, _, _, _, _]) (B := [_, _, _, _, _, _, _, _]) (T := T3) [1, 2, 0, 4, 5, 6, 7] 8 (by decide) (by decide) rfl rfl)
  refine gl_nil <| gx_then <| gc_cond_f rfl <| gc_exit <| gx_then_exit <| gx_then_exit <| gx_block_exit <| gx_then <| gc_seq <| gc_region <| gl_op (op_rd rfl (rd_load Tryz.underlying93 rfl rfl (by exact ld_blk 3 rfl rfl)) ?_)
  refine gl_op <| op_rd rfl (rd_assign rfl) <| gl_nil <| gx_then <| gc_ret <| gx_ret1 (.inl rfl) Tryz.results33 rfl [4, 0, 1] (by decide) ?_
  have he : (lev (cxN s h) lv).1 = actP (cxN s h) := lev_act hA (by unfold fuelA; omega) (by rw [hy]; simp only; exact List.length_eq_zero_iff.1 (by omega))
  rw [hy] at he
  simp only at he
  rw [← he]
  exact ⟨b30, b27, _, b28, rfl, rfl⟩
end Go.Proofs.YtbjijbbkfgcleaaGreatDoor
namespace Go.Proofs.YtbjijbbkfgcleaaGreatDoor
open Go.Gv
open Go.RowKit
open Go.Sn
open Sx
namespace Sx
def rowT (g : Nat) (row : List CE) : HL := .row 114 4 (some g) 128 128 (row.flatMap ceC)
def TR (gs : List Nat) (tb : List (List CE)) : List HL := List.zipWith rowT gs tb
def gsC (gs : List Nat) : List Value := gs.map fun g => .slice (rowA (some g)) 128 128
def R5 (g5 : Nat) (nd c5 : Nat) (gs : List Nat) : HL := .row 115 1 (some g5) nd c5 (gsC gs)
/-- the couplers of a chain in memory -/
def CEIn (TC : List HL) (e : CE) : Prop := (e.r = none ∧ e.ch = []) ∨ HL.row 3 1 e.r e.ch.length e.c (e.ch.map natV) ∈ TC
theorem CEIn.sl {TC l : List HL} {e : CE} (h : CEIn TC e) {w0 w : World} {S : List Nat} (ho : Own w0 S w l) (hs : ∀ x ∈ TC, x ∈ l) : OldSl w [] (rowA e.r) e.ch.length 1 (e.ch.map natV) := by
  rcases h with ⟨h1, h2⟩ | h
  · rw [h1, h2]; exact oldNil w [] 1
  · exact ho.memSl (hs _ h)
theorem TR_get {gs : List Nat} {tb : List (List CE)} {d g : Nat} {row : List CE} (hg : gs[d]? = some g) (hr : tb[d]? = some row) : (TR gs tb)[d]? = some (rowT g row) := by
  unfold TR; rw [List.getElem?_zipWith, hg, hr]
theorem TR_set {gs : List Nat} {tb : List (List CE)} {d g : Nat} {row : List CE} (hg : gs[d]? = some g) : (TR gs tb).set d (rowT g row) = TR gs (tb.set d row) := by
  unfold TR
  apply List.ext_getElem?
  intro i
  rw [List.getElem?_set, List.getElem?_zipWith, List.getElem?_zipWith, List.getElem?_set, List.length_zipWith]
  by_cases h : d = i
  · subst h
    have hgl := (List.getElem?_eq_some_iff.1 hg).1
    rw [if_pos rfl, if_pos rfl, hg]
    by_cases h2 : d < tb.length
    · rw [if_pos (by rw [Nat.lt_min]; exact ⟨hgl, h2⟩), if_pos h2]
    · rw [if_neg (by rw [Nat.lt_min]; exact fun h => h2 h.2), if_neg h2]
  · simp [h]
theorem TR_snoc {gs : List Nat} {tb : List (List CE)} {g : Nat} {row : List CE} (h : gs.length = tb.length) : TR gs tb ++ [rowT g row] = TR (gs ++ [g]) (tb ++ [row]) := by
  unfold TR; rw [List.zipWith_append h]; rfl
theorem gsC_get {gs : List Nat} {d g : Nat} (h : gs[d]? = some g) : (gsC gs)[d]? = some (.slice (rowA (some g)) 128 128) := by unfold gsC; rw [List.getElem?_map, h]; rfl
theorem lessB_take : ∀ {a b : List Nat} {k : Nat}, a.take k = b.take k → k ≤ a.length → k ≤ b.length → lessB a b = lessB (a.drop k) (b.drop k)
  | a, b, 0, _, _, _ => by simp
  | [], _, k + 1, _, h, _ => by simp at h
  | _ :: _, [], k + 1, _, _, h => by simp at h
  | x :: a, y :: b, k + 1, h, h1, h2 => by
    simp only [List.take_succ_cons, List.cons.injEq] at h
    rw [List.drop_succ_cons, List.drop_succ_cons, lessB, if_pos h.1]
    exact lessB_take h.2 (by simpa using h1) (by simpa using h2)
theorem lessB_end {a b : List Nat} {k : Nat} (h : a.take k = b.take k) (h1 : k ≤ a.length) (h2 : k ≤ b.length) (h3 : ¬ (k < a.length ∧ k < b.length)) : lessB a b = false := by
  rw [lessB_take h h1 h2]
  rcases Nat.lt_or_ge k a.length with h4 | h4
  · rw [List.drop_eq_nil_of_le (show b.length ≤ k by omega)]
    cases a.drop k <;> rfl
  · rw [List.drop_eq_nil_of_le h4]; rfl
theorem lessB_at {a b : List Nat} {k u v : Nat} (h : a.take k = b.take k) (hu : a[k]? = some u) (hv : b[k]? = some v) (hne : u ≠ v) : lessB a b = decide (u < v) := by
  have h1 := (List.getElem?_eq_some_iff.1 hu).1
  have h2 := (List.getElem?_eq_some_iff.1 hv).1
  rw [lessB_take h (by omega) (by omega), drop_at hu, drop_at hv, lessB, if_neg hne]
theorem nat_one (zs : List Nat) : ∀ u ∈ zs.map natV, u.oneCell' = true := fun u hu => by
  obtain ⟨z, _, rfl⟩ := List.mem_map.1 hu; rfl
end Sx
open Sx
set_option maxRecDepth 100000 in
set_option maxHeartbeats 1000000 in
theorem Less_ok (xs ys : List Nat) (a b : Option Addr) (ca cb : Nat) (hxl : xs.length ≤ 140737488355328) (hyl : ys.length ≤ 140737488355328) (w0 : World) (hx : OldSl w0 [] a xs.length 1 (xs.map natV)) (hy : OldSl w0 [] b ys.length 1 (ys.map natV)) : Sp Tryz.prog 74 [.slice a xs.length ca, .slice b ys.length cb] w0 [] (RV (.bool (lessB xs ys))) := by
  refine spec_enter Tryz.func74 rfl Tryz.ntmps74 rfl (Own.refl _) ?_
  simp only [argEnv]
  refine gc_seq <| gc_region <| gl_op <| op_rd rfl (rd_assign rfl) <| gl_nil <| gx_then <| gc_seq <| gc_seq <| gc_region <| gl_op <| op_rd rfl (rd_assign rfl) <| gl_nil <| gx_then <| gc_block <| gc_loopF (ι := Nat) [(0, _), (1, _)] [] (fun k => k ≤ xs.length ∧ k ≤ ys.length ∧ xs.take k = ys.take k) (fun k Fr0 => ((5, natV k) :: Fr0)) (fun k Fr0 => Fr0) (fun k => xs.length - k) 0 (⟨Nat.zero_le _, Nat.zero_le _, rfl⟩) ⟨rfl, rfl, rfl, trivial⟩ ⟨[], by decide, rfl⟩ ?_
  rintro k ⟨hk, hk2, htk⟩
  refine gc_seq <| gc_seq <| gc_region <| gl_op <| op_rd rfl (rd_move rfl) <| gl_op <| op_rd rfl (rd_move rfl) <| gl_op <| op_rd rfl (rd_lenSlice Tryz.underlying29 rfl) <| gl_op (op_rd rfl (rd_lss rfl rfl) (gk_dec (fun h9 => ?_) (fun h9 => ?_)))
  · refine gl_op <| op_rd rfl (rd_move rfl) <| gl_yes rfl rfl <| op_rd rfl (rd_move rfl) <| gl_yes rfl rfl <| op_rd rfl (rd_move rfl) <| gl_yes rfl rfl <| op_rd rfl (rd_lenSlice Tryz.underlying29 rfl) <| gl_yes rfl rfl (op_rd rfl (rd_lss rfl rfl) (gk_dec (fun h14 => ?_) (fun h14 => ?_)))
    · obtain ⟨u, hu⟩ := get_some (show k < xs.length by omega)
      obtain ⟨v, hv⟩ := get_some (show k < ys.length by omega)
      refine gl_op <| op_rd rfl (rd_pick_t rfl rfl) <| gl_nil <| gx_then <| gc_cond_t rfl <| gc_skip <| gx_then <| gc_seq <| gc_block <| gc_seq <| gc_drawP [] true 8 rfl <| ga_first 0 (bm 9 1) rfl rfl rfl rfl (by kernel_rfl) (by kernel_rfl) ⟨[], by decide, rfl⟩ (qt_rd (rd_move rfl)) ?_
      refine ga_first 1 (bm 9 3) rfl rfl rfl rfl (by kernel_rfl) (by kernel_rfl) ⟨[], by decide, rfl⟩ (qt_rd (rd_move rfl)) ?_
      refine ga_first 2 (bm 9 7) rfl rfl rfl rfl (by kernel_rfl) (by kernel_rfl) ⟨[], by decide, rfl⟩ (qt_rd (rd_indexOld1 hx Tryz.underlying29 ty_3 rfl rfl (by omega) (by omega))) ?_
      refine ga_first 3 (bm 9 15) rfl rfl rfl rfl (by kernel_rfl) (by kernel_rfl) ⟨[], by decide, rfl⟩ (qt_rd (rd_load Tryz.underlying3 rfl rfl (ld_slN hx (get_nz hu)))) ?_
      refine ga_first 4 (bm 9 31) rfl rfl rfl rfl (by kernel_rfl) (by kernel_rfl) ⟨[], by decide, rfl⟩ (qt_rd (rd_move rfl)) ?_
      refine ga_first 5 (bm 9 63) rfl rfl rfl rfl (by kernel_rfl) (by kernel_rfl) ⟨[], by decide, rfl⟩ (qt_rd (rd_move rfl)) ?_
      refine ga_first 6 (bm 9 127) rfl rfl rfl rfl (by kernel_rfl) (by kernel_rfl) ⟨[], by decide, rfl⟩ (qt_rd (rd_indexOld1 hy Tryz.underlying29 ty_3 rfl rfl (by omega) (by omega))) ?_
      refine ga_first 7 (bm 9 255) rfl rfl rfl rfl (by kernel_rfl) (by kernel_rfl) ⟨[], by decide, rfl⟩ (qt_rd (rd_load Tryz.underlying3 rfl rfl (ld_slN hy (get_nz hv)))) ?_
      refine ga_first 8 (bm 9 511) rfl rfl rfl rfl (by kernel_rfl) (by kernel_rfl) ⟨[], by decide, rfl⟩ (qt_rd (rd_neq rfl rfl)) (gk_dec (fun h26 => ?_) (fun h26 => ?_))
      · refine ga_end (by kernel_rfl) (.inr ⟨[], by decide, rfl⟩) ?_
        refine gx_then <| gc_cond_t rfl <| gc_seq <| gc_drawP [] true 9 rfl <| ga_first 0 (bm 10 1) rfl rfl rfl rfl (by kernel_rfl) (by kernel_rfl) ⟨[], by decide, rfl⟩ (qt_rd (rd_move rfl)) ?_
        refine ga_first 1 (bm 10 3) rfl rfl rfl rfl (by kernel_rfl) (by kernel_rfl) ⟨[], by decide, rfl⟩ (qt_rd (rd_move rfl)) ?_
        refine ga_first 2 (bm 10 7) rfl rfl rfl rfl (by kernel_rfl) (by kernel_rfl) ⟨[], by decide, rfl⟩ (qt_rd (rd_indexOld1 hx Tryz.underlying29 ty_3 rfl rfl (by omega) (by omega))) ?_
        refine ga_first 3 (bm 10 15) rfl rfl rfl rfl (by kernel_rfl) (by kernel_rfl) ⟨[], by decide, rfl⟩ (qt_rd (rd_load Tryz.underlying3 rfl rfl (ld_slN hx (get_nz hu)))) ?_
        refine ga_first 4 (bm 10 31) rfl rfl rfl rfl (by kernel_rfl) (by kernel_rfl) ⟨[], by decide, rfl⟩ (qt_rd (rd_move rfl)) ?_
        refine ga_first 5 (bm 10 63) rfl rfl rfl rfl (by kernel_rfl) (by kernel_rfl) ⟨[], by decide, rfl⟩ (qt_rd (rd_move rfl)) ?_
        refine ga_first 6 (bm 10 127) rfl rfl rfl rfl (by kernel_rfl) (by kernel_rfl) ⟨[], by decide, rfl⟩ (qt_rd (rd_indexOld1 hy Tryz.underlying29 ty_3 rfl rfl (by omega) (by omega))) ?_
        refine ga_first 7 (bm 10 255) rfl rfl rfl rfl (by kernel_rfl) (by kernel_rfl) ⟨[], by decide, rfl⟩ (qt_rd (rd_load Tryz.underlying3 rfl rfl (ld_slN hy (get_nz hv)))) ?_
        refine ga_first 8 (bm 10 511) rfl rfl rfl rfl (by kernel_rfl) (by kernel_rfl) ⟨[], by decide, rfl⟩ (qt_rd (rd_lss rfl rfl)) ?_
        refine ga_first 9 (bm 10 1023) rfl rfl rfl rfl (by kernel_rfl) (by kernel_rfl) ⟨[], by decide, rfl⟩ (qt_rd (rd_assign rfl)) ?_
        refine ga_end (by kernel_rfl) (.inr ⟨[], by decide, rfl⟩) ?_
        refine gx_then <| gc_ret <| gx_block_ret <| gx_then_ret <| gx_then_ret <| gx_block_ret <| gx_then_ret <| gx_ret1 (.inl rfl) Tryz.results74 rfl [] (by decide) ?_
        refine ⟨congrArg Value.bool ?_, rfl⟩
        rw [lessB_at htk hu hv (by omega), Bool.eq_iff_iff]; simp
      refine ga_end (by kernel_rfl) (.inr ⟨[], by decide, rfl⟩) ?_
      refine gx_then <| gc_cond_f rfl <| gc_skip <| gx_block <| gx_then <| gc_region <| gl_op <| op_rd rfl (rd_move rfl) <| gl_op (op_rd rfl (by exact rd_addN (b := 1) rfl rfl (by omega)) ?_)
      refine gl_op <| op_rd rfl (rd_assign rfl) <| gl_nil <| gx_then ?_
      exact gx_cut (k + 1) ⟨⟨by omega, by omega, by rw [take_at hu, take_at hv, htk, show u = v by omega]⟩, by omega⟩ ⟨rfl, rfl, rfl, trivial⟩ ⟨[], by decide, rfl⟩
    refine gl_op <| op_rd rfl (rd_pick_t rfl rfl) <| gl_nil <| gx_then <| gc_cond_f rfl <| gc_exit <| gx_then_exit <| gx_then_exit <| gx_block_exit <| gx_then <| gc_seq <| gc_region <| gl_op <| op_rd rfl (rd_assign rfl) <| gl_nil <| gx_then <| gc_ret <| gx_ret1 (.inl rfl) Tryz.results74 rfl [] (by decide) ?_
    refine ⟨congrArg Value.bool (Eq.symm ?_), rfl⟩
    exact lessB_end htk hk hk2 (by omega)
  refine gl_op <| op_rd rfl (rd_move rfl) <| gl_no rfl rfl rfl <| gl_no rfl rfl rfl <| gl_no rfl rfl rfl <| gl_no rfl rfl rfl <| gl_op <| op_rd rfl (rd_pick_f rfl rfl) <| gl_nil <| gx_then <| gc_cond_f rfl <| gc_exit <| gx_then_exit <| gx_then_exit <| gx_block_exit <| gx_then <| gc_seq <| gc_region <| gl_op <| op_rd rfl (rd_assign rfl) <| gl_nil <| gx_then <| gc_ret <| gx_ret1 (.inl rfl) Tryz.results74 rfl [] (by decide) ?_
  refine ⟨congrArg Value.bool (Eq.symm ?_), rfl⟩
  exact lessB_end htk hk hk2 (by omega)
set_option maxRecDepth 100000 in
set_option maxHeartbeats 1000000 in
theorem first_ok (c : Cp) (a : Option Addr) (n cp i : Nat) (hn : n ≤ 140737488355328) (w0 : World) : Sp Tryz.prog 46 [c.val, .slice a n cp, natV i] w0 [] (RV (.bool (tk1B c n i))) := by
  refine spec_enter Tryz.func46 rfl Tryz.ntmps46 rfl (Own.refl _) ?_
  simp only [argEnv]
  refine gc_seq <| gc_region <| gl_op (op_box rfl rfl rfl (fun b3 => ?_))
  refine gl_op <| op_rd rfl (rd_assign rfl) <| gl_nil <| gx_then <| gc_seq <| gc_region <| gl_op <| op_rd rfl (rd_fieldAddr rfl (fa_58_4 _)) <| gl_op (op_rd rfl (rd_load Tryz.underlying3 rfl rfl (by exact ld_blk 0 rfl rfl)) ?_)
  refine gl_op (op_rd rfl (rd_eql rfl rfl) (gk_dec (fun h9 => ?_) (fun h9 => ?_)))
  · refine gl_op <| op_rd rfl (rd_move rfl) <| gl_no rfl rfl rfl <| gl_no rfl rfl rfl <| gl_no rfl rfl rfl <| gl_no rfl rfl rfl <| gl_noU rfl rfl rfl <| gl_noU rfl rfl rfl <| gl_no rfl rfl rfl <| gl_op <| op_rd rfl (rd_pick_t rfl rfl) <| gl_op <| op_rd rfl (rd_move rfl) <| gl_no rfl rfl rfl <| gl_no rfl rfl rfl <| gl_no rfl rfl rfl <| gl_no rfl rfl rfl <| gl_noU rfl rfl rfl <| gl_noU rfl rfl rfl <| gl_noU rfl rfl rfl <| gl_noU rfl rfl rfl <| gl_noU rfl rfl rfl <| gl_no rfl rfl rfl <| gl_op <| op_rd rfl (rd_pick_t rfl rfl) <| gl_op <| op_rd rfl (rd_assign rfl) <| gl_nil <| gx_then <| gc_ret ?_
    refine gx_ret1 (.inl rfl) Tryz.results46 rfl [] (by decide) ?_
    refine ⟨congrArg Value.bool (Eq.symm ?_), rfl⟩
    unfold tk1B
    (rw [Bool.eq_iff_iff]; simp; omega)
  refine gl_op <| op_rd rfl (rd_move rfl) <| gl_yes rfl rfl <| op_rd rfl (rd_fieldAddr rfl (fa_58_4 _)) <| gl_yes rfl rfl (op_rd rfl (rd_load Tryz.underlying3 rfl rfl (by exact ld_blk 0 rfl rfl)) ?_)
  refine gl_yes rfl rfl (op_rd rfl (rd_eql rfl rfl) (gk_dec (fun h13 => ?_) (fun h13 => ?_)))
  · refine gl_yes rfl rfl <| op_rd rfl (rd_move rfl) <| gl_yes rfl rfl <| op_rd rfl (rd_move rfl) <| gl_yes rfl rfl (op_rd rfl (rd_eql rfl rfl) (gk_dec (fun h16 => ?_) (fun h16 => ?_)))
    · refine gl_yes rfl rfl <| op_rd rfl (rd_pick_t rfl rfl) <| gl_op <| op_rd rfl (rd_pick_f rfl rfl) <| gl_op <| op_rd rfl (rd_move rfl) <| gl_no rfl rfl rfl <| gl_no rfl rfl rfl <| gl_no rfl rfl rfl <| gl_no rfl rfl rfl <| gl_noU rfl rfl rfl <| gl_noU rfl rfl rfl <| gl_noU rfl rfl rfl <| gl_noU rfl rfl rfl <| gl_noU rfl rfl rfl <| gl_no rfl rfl rfl <| gl_op <| op_rd rfl (rd_pick_t rfl rfl) <| gl_op <| op_rd rfl (rd_assign rfl) <| gl_nil <| gx_then <| gc_ret <| gx_ret1 (.inl rfl) Tryz.results46 rfl [] (by decide) ?_
      refine ⟨congrArg Value.bool (Eq.symm ?_), rfl⟩
      unfold tk1B
      (rw [Bool.eq_iff_iff]; simp; omega)
    refine gl_yes rfl rfl <| op_rd rfl (rd_pick_t rfl rfl) <| gl_op <| op_rd rfl (rd_pick_f rfl rfl) <| gl_op <| op_rd rfl (rd_move rfl) <| gl_yes rfl rfl <| op_rd rfl (rd_fieldAddr rfl (fa_58_4 _)) <| gl_yes rfl rfl (op_rd rfl (rd_load Tryz.underlying3 rfl rfl (by exact ld_blk 0 rfl rfl)) ?_)
    refine gl_yes rfl rfl (op_rd rfl (rd_eql rfl rfl) (gk_dec (fun h22 => ?_) (fun h22 => ?_)))
    · refine gl_yes rfl rfl <| op_rd rfl (rd_move rfl) <| gl_yes rfl rfl <| op_rd rfl (rd_move rfl) <| gl_yes rfl rfl <| op_rd rfl (rd_move rfl) <| gl_yes rfl rfl <| op_rd rfl (rd_lenSlice Tryz.underlying29 rfl) <| gl_yes rfl rfl (op_rd rfl (rd_sub rfl rfl (by omega) (by omega)) ?_)
      refine gl_yes rfl rfl <| op_rd rfl (rd_eql rfl rfl) <| gl_yes rfl rfl <| op_rd rfl (rd_pick_t rfl rfl) <| gl_op <| op_rd rfl (rd_pick_f rfl rfl) <| gl_op <| op_rd rfl (rd_assign rfl) <| gl_nil <| gx_then <| gc_ret <| gx_ret1 (.inl rfl) Tryz.results46 rfl [] (by decide) ?_
      refine ⟨congrArg Value.bool (Eq.symm ?_), rfl⟩
      unfold tk1B
      (rw [Bool.eq_iff_iff]; simp; omega)
    refine gl_yes rfl rfl <| op_rd rfl (rd_move rfl) <| gl_no rfl rfl rfl <| gl_no rfl rfl rfl <| gl_no rfl rfl rfl <| gl_no rfl rfl rfl <| gl_no rfl rfl rfl <| gl_yes rfl rfl <| op_rd rfl (rd_pick_f rfl rfl) <| gl_op <| op_rd rfl (rd_pick_f rfl rfl) <| gl_op <| op_rd rfl (rd_assign rfl) <| gl_nil <| gx_then <| gc_ret <| gx_ret1 (.inl rfl) Tryz.results46 rfl [] (by decide) ?_
    refine ⟨congrArg Value.bool (Eq.symm ?_), rfl⟩
    unfold tk1B
    (rw [Bool.eq_iff_iff]; simp; omega)
  refine gl_yes rfl rfl <| op_rd rfl (rd_move rfl) <| gl_no rfl rfl rfl <| gl_no rfl rfl rfl <| gl_yes rfl rfl <| op_rd rfl (rd_pick_f rfl rfl) <| gl_op <| op_rd rfl (rd_pick_f rfl rfl) <| gl_op <| op_rd rfl (rd_move rfl) <| gl_yes rfl rfl <| op_rd rfl (rd_fieldAddr rfl (fa_58_4 _)) <| gl_yes rfl rfl (op_rd rfl (rd_load Tryz.underlying3 rfl rfl (by exact ld_blk 0 rfl rfl)) ?_)
  refine gl_yes rfl rfl (op_rd rfl (rd_eql rfl rfl) (gk_dec (fun h22 => ?_) (fun h22 => ?_)))
  · refine gl_yes rfl rfl <| op_rd rfl (rd_move rfl) <| gl_yes rfl rfl <| op_rd rfl (rd_move rfl) <| gl_yes rfl rfl <| op_rd rfl (rd_move rfl) <| gl_yes rfl rfl <| op_rd rfl (rd_lenSlice Tryz.underlying29 rfl) <| gl_yes rfl rfl (op_rd rfl (rd_sub rfl rfl (by omega) (by omega)) ?_)
    refine gl_yes rfl rfl <| op_rd rfl (rd_eql rfl rfl) <| gl_yes rfl rfl <| op_rd rfl (rd_pick_t rfl rfl) <| gl_op <| op_rd rfl (rd_pick_f rfl rfl) <| gl_op <| op_rd rfl (rd_assign rfl) <| gl_nil <| gx_then <| gc_ret <| gx_ret1 (.inl rfl) Tryz.results46 rfl [] (by decide) ?_
    refine ⟨congrArg Value.bool (Eq.symm ?_), rfl⟩
    unfold tk1B
    (rw [Bool.eq_iff_iff]; simp; omega)
  refine gl_yes rfl rfl <| op_rd rfl (rd_move rfl) <| gl_no rfl rfl rfl <| gl_no rfl rfl rfl <| gl_no rfl rfl rfl <| gl_no rfl rfl rfl <| gl_no rfl rfl rfl <| gl_yes rfl rfl <| op_rd rfl (rd_pick_f rfl rfl) <| gl_op <| op_rd rfl (rd_pick_f rfl rfl) <| gl_op <| op_rd rfl (rd_assign rfl) <| gl_nil <| gx_then <| gc_ret <| gx_ret1 (.inl rfl) Tryz.results46 rfl [] (by decide) ?_
  refine ⟨congrArg Value.bool (Eq.symm ?_), rfl⟩
  unfold tk1B
  (rw [Bool.eq_iff_iff]; simp; omega)
set_option maxRecDepth 100000 in
set_option maxHeartbeats 1000000 in
theorem with_ok (ch : List Nat) (n : Nat) (a : Option Addr) (cp : Nat) (hl : ch.length ≤ 100000) (w0 : World) (hsl : OldSl w0 [] a ch.length 1 (ch.map natV)) : Sp Tryz.prog 48 [.slice a ch.length cp, natV n] w0 [] (fun v L => ∃ r c, v = .slice (rowA r) (ch.length + 1) c ∧ L = [.row 3 1 r (ch.length + 1) c ((ch ++ [n]).map natV)]) := by
  refine spec_enter Tryz.func48 rfl Tryz.ntmps48 rfl (Own.refl _) ?_
  simp only [argEnv]
  refine gc_seq <| gc_region <| gl_op <| op_rd rfl (rd_assign rfl) <| gl_nil <| gx_then <| gc_seq <| gc_region <| gl_op (op_buildSlice (sz := 1) rfl rfl (fun _ => bs_29_0_) rfl rfl (fun b6 => ?_))
  refine gl_op <| op_rd rfl (rd_move rfl) <| gl_op (op_appendSl 0 hsl Tryz.underlying29 ty_3 rfl (by decide) rfl rfl rfl rfl (nat_one ch) (by omega) (by omega) (fun _ => (by rfl)) (fun r8 c8 => ?_))
  refine gl_op <| op_rd rfl (rd_assign rfl) <| gl_nil <| gx_then <| gc_seq <| gc_region <| gl_op <| op_rd rfl (rd_move rfl) <| gl_op <| op_rd rfl (rd_move rfl) <| gl_op (op_buildSlice (sz := 1) rfl rfl (fun _ => bs_29_1_0 _) rfl rfl (fun b11 => ?_))
  refine gl_op (op_appendRow 1 0 Tryz.underlying29 ty_3 rfl (by decide) rfl rfl rfl rfl rfl (by simp [Value.oneCell']) (by omega) (by omega) (fun _ => (by rfl)) (fun r12 c12 => ?_))
  refine gl_op <| op_rd rfl (rd_assign rfl) <| gl_nil <| gx_then <| gc_ret <| gx_ret1 (.inl rfl) Tryz.results48 rfl [1] (by decide) ?_
  refine ⟨r12, c12, ?_, ?_⟩
  · rw [Nat.zero_add]
  · rw [List.map_append, Nat.zero_add, List.nil_append]; rfl
set_option maxRecDepth 100000 in
set_option maxHeartbeats 1000000 in
theorem addR_ok (s : Org) (d : Dv) (dst key : Int) (dn : Nat) (x : CE) (g5 nd c5 : Nat) (gs : List Nat) (tb : List (List CE)) (TC : List HL) (hdst : dst = dn) (hd : s.ds[dn]? = some d) (hlo : 0 ≤ d.lo) (hhi : d.hi ≤ 127) (hnd : dn < nd) (hnd6 : nd ≤ 1000) (hds : s.ds.length ≤ 1000) (hgl : gs.length = nd) (htb : TbLen nd tb) (hx : CEIn TC x) (hxc : x.ch.length ≤ 100000) (htc : ∀ q, (entR tb q).there = true → CEIn TC (entR tb q) ∧ (entR tb q).ch.length ≤ 100000) (S : List Nat) (w0 : World) (hS : OldSl w0 S s.da s.ds.length 3 (s.ds.flatMap Dv.cells)) (hown : Own w0 S w0 ([R5 g5 nd c5 gs] ++ (TR gs tb ++ TC))) : Sp Tryz.prog 47 [s.val, .slice (rowA (some g5)) nd c5, .int .i64 dst, .int .i64 key, x.val] w0 S (fun v L => v = .tuple #[] ∧ L = [R5 g5 nd c5 gs] ++ (TR gs (addR d.lo d.hi tb dn key x) ++ TC)) := by
  subst hdst
  have hdsl := (List.getElem?_eq_some_iff.1 hd).1
  obtain ⟨gr, hg⟩ := get_some (show dn < gs.length by omega)
  obtain ⟨row, hrow⟩ := get_some (show dn < tb.length by rw [htb.len]; exact hnd)
  have hrl := htb.row row (List.mem_of_getElem? hrow)
  unfold R5 at hown
  refine spec_enter Tryz.func47 rfl Tryz.ntmps47 rfl hown ?_
  simp only [argEnv]
  refine gc_seq <| gc_region <| gl_op (op_box rfl rfl rfl (fun b5 => ?_))
  refine gl_op (op_box rfl rfl rfl (fun b9 => ?_))
  refine gl_nil <| gx_then <| gc_seq <| gc_region <| gl_op <| op_rd rfl (rd_fieldAddr rfl (fa_27_0 _)) <| gl_op (op_rd rfl (rd_load Tryz.underlying22 rfl rfl (by exact ld_blk 1 rfl rfl)) ?_)
  refine gl_op <| op_rd rfl (rd_move rfl) <| gl_op (op_rd rfl (rd_indexOld hS Tryz.underlying22 ty_49 rfl rfl (by omega) (by omega)) ?_)
  refine gl_op (op_rd rfl (rd_loadAgg Tryz.underlying49 rfl ty_49 rfl (cs_slN hS (flat_drop_get Dv.cells 3 (fun _ => rfl) hd)) rfl) ?_)
  refine gl_op (op_alloc ty_49 rfl rfl (fun b10 => ?_))
  refine gl_op (op_storeAgg 0 ty_49 rfl rfl rfl rfl rfl rfl (by rfl) ?_)
  refine gl_nil <| gx_then <| gc_seq <| gc_seq ?_
  simp only [Dv.cells]
  refine gc_region <| gl_op <| op_rd rfl (rd_move rfl) <| gl_op <| op_rd rfl (rd_fieldAddr rfl (fa_49_1 _)) <| gl_op (op_rd rfl (rd_load Tryz.underlying3 rfl rfl (by exact ld_blk 0 rfl rfl)) ?_)
  refine gl_op (op_rd rfl (rd_lss rfl rfl) (gk_dec (fun h20 => ?_) (fun h20 => ?_)))
  · refine gl_op <| op_rd rfl (rd_move rfl) <| gl_no rfl rfl rfl <| gl_no rfl rfl rfl <| gl_no rfl rfl rfl <| gl_no rfl rfl rfl <| gl_op <| op_rd rfl (rd_pick_t rfl rfl) <| gl_nil <| gx_then <| gc_cond_t rfl <| gc_ret <| gx_then_ret <| gx_ret0S (.inl rfl) Tryz.results47 (sub_tail (A := [_]) (B := [_, _, _, _]) (T := (TR gs tb ++ TC)) [3] 4 (by decide) (by decide) rfl rfl) ?_
    refine ⟨rfl, ?_⟩
    rw [addR_out (by omega)]
    rfl
  refine gl_op <| op_rd rfl (rd_move rfl) <| gl_yes rfl rfl <| op_rd rfl (rd_move rfl) <| gl_yes rfl rfl <| op_rd rfl (rd_fieldAddr rfl (fa_49_2 _)) <| gl_yes rfl rfl (op_rd rfl (rd_load Tryz.underlying3 rfl rfl (by exact ld_blk 0 rfl rfl)) ?_)
  refine gl_yes rfl rfl (op_rd rfl (rd_gtr rfl rfl) (gk_dec (fun h25 => ?_) (fun h25 => ?_)))
  · refine gl_op <| op_rd rfl (rd_pick_f rfl rfl) <| gl_nil <| gx_then <| gc_cond_t rfl <| gc_ret <| gx_then_ret <| gx_ret0S (.inl rfl) Tryz.results47 (sub_tail (A := [_]) (B := [_, _, _, _]) (T := (TR gs tb ++ TC)) [3] 4 (by decide) (by decide) rfl rfl) ?_
    refine ⟨rfl, ?_⟩
    rw [addR_out (by omega)]
    rfl
  refine gl_op <| op_rd rfl (rd_pick_f rfl rfl) <| gl_nil <| gx_then <| gc_cond_f rfl <| gc_skip <| gx_then <| gc_seq ?_
  obtain ⟨en, hent0⟩ := get_some (show key.toNat < row.length by rw [hrl]; omega)
  have hent : entR tb (dn, key.toNat) = en := by unfold entR; rw [getD_some hrow, getD_some hent0]
  refine gc_region <| gl_op <| op_rd rfl (rd_move rfl) <| gl_op <| op_rd rfl (rd_move rfl) <| gl_op (op_rd rfl (rd_indexRow1 3 rfl Tryz.underlying78 ty_115 rfl rfl (by omega) (by omega)) ?_)
  refine gl_op <| op_rd rfl (rd_load Tryz.underlying115 rfl rfl (ld_rowN 3 rfl (gsC_get hg))) <| gl_op <| op_rd rfl (rd_move rfl) <| gl_op (op_rd rfl (rd_indexS Tryz.underlying115 ty_114 rfl rfl (by omega) (by omega)) ?_)
  refine gl_op (op_rd rfl (rd_loadAgg Tryz.underlying114 rfl ty_114 rfl (cs_memRow (r := some gr) (List.mem_append_right [_, _, _, _] (List.mem_append_left TC (List.mem_of_getElem? (TR_get hg hrow)))) (flat_drop_get ceC 4 (fun _ => rfl) hent0)) rfl) ?_)
  refine gl_op (op_alloc ty_114 rfl rfl (fun b11 => ?_))
  refine gl_op (op_storeAgg 0 ty_114 rfl rfl rfl rfl rfl rfl (by rfl) ?_)
  refine gl_nil <| gx_then <| gc_seq ?_
  simp only [ceC]
  refine gc_region <| gl_op <| op_rd rfl (rd_fieldAddr rfl (fa_114_0 _)) <| gl_op (op_rd rfl (rd_load Tryz.underlying4 rfl rfl (by exact ld_blk 0 rfl rfl)) ?_)
  refine gk_bool (fun h35 => ?_) (fun h35 => ?_)
  · have hte := htc (dn, key.toNat) (by rw [hent]; exact h35)
    rw [hent] at hte
    refine gl_op <| op_rd rfl (rd_not rfl) <| gl_op <| op_rd rfl (rd_move rfl) <| gl_yes rfl rfl <| op_rd rfl (rd_fieldAddr rfl (fa_114_3 _)) <| gl_yes rfl rfl (op_rd rfl (rd_load Tryz.underlying29 rfl rfl (by exact ld_blk 0 rfl rfl)) ?_)
    refine gl_yes rfl rfl <| op_rd rfl (rd_lenSlice Tryz.underlying29 rfl) <| gl_yes rfl rfl <| op_rd rfl (rd_fieldAddr rfl (fa_114_3 _)) <| gl_yes rfl rfl (op_rd rfl (rd_load Tryz.underlying29 rfl rfl (by exact ld_blk 2 rfl rfl)) ?_)
    refine gl_yes rfl rfl <| op_rd rfl (rd_lenSlice Tryz.underlying29 rfl) <| gl_yes rfl rfl (op_rd rfl (rd_eql rfl rfl) (gk_dec (fun h44 => ?_) (fun h44 => ?_)))
    · refine gl_yes rfl rfl <| op_rd rfl (rd_move rfl) <| gl_yes rfl rfl <| op_rd rfl (rd_fieldAddr rfl (fa_114_3 _)) <| gl_yes rfl rfl (op_rd rfl (rd_load Tryz.underlying29 rfl rfl (by exact ld_blk 2 rfl rfl)) ?_)
      refine gl_yes rfl rfl <| op_rd rfl (rd_fieldAddr rfl (fa_114_3 _)) <| gl_yes rfl rfl (op_rd rfl (rd_load Tryz.underlying29 rfl rfl (by exact ld_blk 0 rfl rfl)) ?_)
      refine gl_yes rfl rfl (op_call rfl (vf := []) (vc := []) rfl rfl Tryz.call74 (fun w1 ho => Less_ok x.ch en.ch _ _ _ _ (by omega) (by omega) w1 (hx.sl ho (fun y hy => List.mem_append_right [_, _, _, _, _] (List.mem_append_right _ hy))) (hte.1.sl ho (fun y hy => List.mem_append_right [_, _, _, _, _] (List.mem_append_right _ hy)))) ?_)
      rintro _ _ ⟨rfl, rfl⟩
      refine gk_bool (fun hls => ?_) (fun hls => ?_)
      · refine gl_yes rfl rfl <| op_rd rfl (rd_pick_t rfl rfl) <| gl_op <| op_rd rfl (rd_pick_f rfl rfl) <| gl_nil <| gx_then <| gc_cond_t rfl ?_
        have hput : (entR tb (dn, key.toNat)).there = false ∨ ((entR tb (dn, key.toNat)).ch.length = x.ch.length ∧ lessB x.ch (entR tb (dn, key.toNat)).ch = true) := by
          rw [hent]; exact .inr ⟨by omega, hls⟩
        refine gc_drawP [0, 1, 2, 3, 4] false 7 rfl <| ga_first 0 (bm 8 1) rfl rfl rfl rfl (by kernel_rfl) (by kernel_rfl) ⟨[0, 1, 2, 3, 4], by decide, rfl⟩ (qt_rd (rd_move rfl)) ?_
        refine ga_first 1 (bm 8 3) rfl rfl rfl rfl (by kernel_rfl) (by kernel_rfl) ⟨[0, 1, 2, 3, 4], by decide, rfl⟩ (qt_rd (rd_move rfl)) ?_
        refine ga_first 2 (bm 8 7) rfl rfl rfl rfl (by kernel_rfl) (by kernel_rfl) ⟨[0, 1, 2, 3, 4], by decide, rfl⟩ (qt_rd (rd_indexRow1 4 rfl Tryz.underlying78 ty_115 rfl rfl (by omega) (by omega))) ?_
        refine ga_first 3 (bm 8 15) rfl rfl rfl rfl (by kernel_rfl) (by kernel_rfl) ⟨[0, 1, 2, 3, 4], by decide, rfl⟩ (qt_rd (rd_load Tryz.underlying115 rfl rfl (ld_rowN 4 rfl (gsC_get hg)))) ?_
        refine ga_first 4 (bm 8 31) rfl rfl rfl rfl (by kernel_rfl) (by kernel_rfl) ⟨[0, 1, 2, 3, 4], by decide, rfl⟩ (qt_rd (rd_move rfl)) ?_
        refine ga_first 5 (bm 8 63) rfl rfl rfl rfl (by kernel_rfl) (by kernel_rfl) ⟨[0, 1, 2, 3, 4], by decide, rfl⟩ (qt_rd (rd_loadAgg Tryz.underlying114 rfl ty_114 rfl (by exact cs_blk 2 (off := 0) (k := 4) rfl rfl) rfl)) ?_
        refine ga_first 6 (bm 8 127) rfl rfl rfl rfl (by kernel_rfl) (by kernel_rfl) ⟨[0, 1, 2, 3, 4], by decide, rfl⟩ (qt_rd (rd_indexS Tryz.underlying115 ty_114 rfl rfl (by omega) (by omega))) ?_
        refine ga_only 7 (bm 8 255) rfl rfl (by kernel_rfl) (by kernel_rfl) (.inr ⟨[0, 1, 2, 3, 4], by decide, rfl⟩) (op_storeTail [_, _, _, _, _] (TR gs tb ++ TC) dn (r := some gr) rfl ty_114 rfl rfl rfl rfl (by rw [List.getElem?_append_left (by have := (List.getElem?_eq_some_iff.1 (TR_get hg hrow)).1; exact this)]; exact TR_get hg hrow) (by rw [flat_len ceC 4 (fun _ => rfl), hrl]; omega) (putAt_flat ceC 4 (fun _ => rfl) row key.toNat x (by rw [hrl]; omega)) (T' := TR gs (tb.set dn (row.set key.toNat x)) ++ TC) (by rw [List.set_append_left _ _ (by have := (List.getElem?_eq_some_iff.1 (TR_get hg hrow)).1; exact this)]; exact congrArg (· ++ TC) (TR_set (row := row.set key.toNat x) hg)) ?_)
        refine ga_end (by kernel_rfl) (.inl (by kernel_rfl)) ?_
        refine gx_ret0S (.inr rfl) Tryz.results47 (sub_tail (A := [_]) (B := [_, _, _, _, _]) (T := (TR gs (tb.set dn (row.set key.toNat x)) ++ TC)) [4] 5 (by decide) (by decide) rfl rfl) ?_
        refine ⟨rfl, ?_⟩
        have he : addR d.lo d.hi tb dn key x = tb.set dn (row.set key.toNat x) := by unfold addR; rw [if_neg (by omega), if_pos hput]; exact flat_setR hrow x
        rw [he]
        rfl
      refine gl_yes rfl rfl <| op_rd rfl (rd_pick_t rfl rfl) <| gl_op <| op_rd rfl (rd_pick_f rfl rfl) <| gl_nil <| gx_then <| gc_cond_f rfl <| gc_skip <| gx_ret0S (.inr rfl) Tryz.results47 (sub_tail (A := [_]) (B := [_, _, _, _, _]) (T := (TR gs tb ++ TC)) [4] 5 (by decide) (by decide) rfl rfl) ?_
      refine ⟨rfl, ?_⟩
      have hput : ¬ ((entR tb (dn, key.toNat)).there = false ∨ ((entR tb (dn, key.toNat)).ch.length = x.ch.length ∧ lessB x.ch (entR tb (dn, key.toNat)).ch = true)) := by
        rw [hent]
        rintro (h | ⟨h1, h2⟩)
        · rw [h35] at h; cases h
        · (rw [hls] at h2; cases h2)
      have he : addR d.lo d.hi tb dn key x = tb := by unfold addR; rw [if_neg (by omega), if_neg hput]
      rw [he]
      rfl
    refine gl_yes rfl rfl <| op_rd rfl (rd_move rfl) <| gl_no rfl rfl rfl <| gl_no rfl rfl rfl <| gl_no rfl rfl rfl <| gl_no rfl rfl rfl <| gl_no rfl rfl rfl <| gl_yes rfl rfl <| op_rd rfl (rd_pick_f rfl rfl) <| gl_op <| op_rd rfl (rd_pick_f rfl rfl) <| gl_nil <| gx_then <| gc_cond_f rfl <| gc_skip <| gx_ret0S (.inr rfl) Tryz.results47 (sub_tail (A := [_]) (B := [_, _, _, _, _]) (T := (TR gs tb ++ TC)) [4] 5 (by decide) (by decide) rfl rfl) ?_
    refine ⟨rfl, ?_⟩
    have hput : ¬ ((entR tb (dn, key.toNat)).there = false ∨ ((entR tb (dn, key.toNat)).ch.length = x.ch.length ∧ lessB x.ch (entR tb (dn, key.toNat)).ch = true)) := by
      rw [hent]
      rintro (h | ⟨h1, h2⟩)
      · rw [h35] at h; cases h
      · omega
    have he : addR d.lo d.hi tb dn key x = tb := by unfold addR; rw [if_neg (by omega), if_neg hput]
    rw [he]
    rfl
  refine gl_op <| op_rd rfl (rd_not rfl) <| gl_op <| op_rd rfl (rd_move rfl) <| gl_no rfl rfl rfl <| gl_no rfl rfl rfl <| gl_no rfl rfl rfl <| gl_no rfl rfl rfl <| gl_no rfl rfl rfl <| gl_no rfl rfl rfl <| gl_no rfl rfl rfl <| gl_no rfl rfl rfl <| gl_noU rfl rfl rfl <| gl_noU rfl rfl rfl <| gl_noU rfl rfl rfl <| gl_noU rfl rfl rfl <| gl_noU rfl rfl rfl <| gl_no rfl rfl rfl <| gl_op <| op_rd rfl (rd_pick_t rfl rfl) <| gl_nil <| gx_then <| gc_cond_t rfl ?_
  have hput : (entR tb (dn, key.toNat)).there = false ∨ ((entR tb (dn, key.toNat)).ch.length = x.ch.length ∧ lessB x.ch (entR tb (dn, key.toNat)).ch = true) := by
    rw [hent]; exact .inl h35
  refine gc_drawP [0, 1, 2, 3, 4] false 7 rfl <| ga_first 0 (bm 8 1) rfl rfl rfl rfl (by kernel_rfl) (by kernel_rfl) ⟨[0, 1, 2, 3, 4], by decide, rfl⟩ (qt_rd (rd_move rfl)) ?_
  refine ga_first 1 (bm 8 3) rfl rfl rfl rfl (by kernel_rfl) (by kernel_rfl) ⟨[0, 1, 2, 3, 4], by decide, rfl⟩ (qt_rd (rd_move rfl)) ?_
  refine ga_first 2 (bm 8 7) rfl rfl rfl rfl (by kernel_rfl) (by kernel_rfl) ⟨[0, 1, 2, 3, 4], by decide, rfl⟩ (qt_rd (rd_indexRow1 4 rfl Tryz.underlying78 ty_115 rfl rfl (by omega) (by omega))) ?_
  refine ga_first 3 (bm 8 15) rfl rfl rfl rfl (by kernel_rfl) (by kernel_rfl) ⟨[0, 1, 2, 3, 4], by decide, rfl⟩ (qt_rd (rd_load Tryz.underlying115 rfl rfl (ld_rowN 4 rfl (gsC_get hg)))) ?_
  refine ga_first 4 (bm 8 31) rfl rfl rfl rfl (by kernel_rfl) (by kernel_rfl) ⟨[0, 1, 2, 3, 4], by decide, rfl⟩ (qt_rd (rd_move rfl)) ?_
  refine ga_first 5 (bm 8 63) rfl rfl rfl rfl (by kernel_rfl) (by kernel_rfl) ⟨[0, 1, 2, 3, 4], by decide, rfl⟩ (qt_rd (rd_loadAgg Tryz.underlying114 rfl ty_114 rfl (by exact cs_blk 2 (off := 0) (k := 4) rfl rfl) rfl)) ?_
  refine ga_first 6 (bm 8 127) rfl rfl rfl rfl (by kernel_rfl) (by kernel_rfl) ⟨[0, 1, 2, 3, 4], by decide, rfl⟩ (qt_rd (rd_indexS Tryz.underlying115 ty_114 rfl rfl (by omega) (by omega))) ?_
  refine ga_only 7 (bm 8 255) rfl rfl (by kernel_rfl) (by kernel_rfl) (.inr ⟨[0, 1, 2, 3, 4], by decide, rfl⟩) (op_storeTail [_, _, _, _, _] (TR gs tb ++ TC) dn (r := some gr) rfl ty_114 rfl rfl rfl rfl (by rw [List.getElem?_append_left (by have := (List.getElem?_eq_some_iff.1 (TR_get hg hrow)).1; exact this)]; exact TR_get hg hrow) (by rw [flat_len ceC 4 (fun _ => rfl), hrl]; omega) (putAt_flat ceC 4 (fun _ => rfl) row key.toNat x (by rw [hrl]; omega)) (T' := TR gs (tb.set dn (row.set key.toNat x)) ++ TC) (by rw [List.set_append_left _ _ (by have := (List.getElem?_eq_some_iff.1 (TR_get hg hrow)).1; exact this)]; exact congrArg (· ++ TC) (TR_set (row := row.set key.toNat x) hg)) ?_)
  refine ga_end (by kernel_rfl) (.inl (by kernel_rfl)) ?_
  refine gx_ret0S (.inr rfl) Tryz.results47 (sub_tail (A := [_]) (B := [_, _, _, _, _]) (T := (TR gs (tb.set dn (row.set key.toNat x)) ++ TC)) [4] 5 (by decide) (by decide) rfl rfl) ?_
  refine ⟨rfl, ?_⟩
  have he : addR d.lo d.hi tb dn key x = tb.set dn (row.set key.toNat x) := by unfold addR; rw [if_neg (by omega), if_pos hput]; exact flat_setR hrow x
  rw [he]
  rfl
end Go.Proofs.YtbjijbbkfgcleaaGreatDoor
