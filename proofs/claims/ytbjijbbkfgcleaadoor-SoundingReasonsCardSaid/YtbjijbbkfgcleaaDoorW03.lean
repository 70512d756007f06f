import Derived.Test.YtbjijbbkfgcleaaDoorW02
import Derived.Test.YtbjijbbkfgcleaaDoorW01
import Derived.Test.YtbjijbbkfgcleaaDoorW00
/- A part of the proof: walks of the program. -/
set_option autoImplicit false
set_option linter.unusedSimpArgs false
set_option linter.unusedVariables false
set_option linter.unnecessarySimpa false
namespace Go.Proofs.YtbjijbbkfgcleaaDoor
open Go.Gv
open Go.RowKit
open Go.Sn
open Sx
namespace Sx
theorem stTw_yes {l : List St} {i k : Nat} (h : k < i) (h1 : (l.getD k default).div = (l.getD i default).div) (h2 : (l.getD k default).name = (l.getD i default).name) : stTwice l i = true := by
  unfold stTwice; rw [List.any_eq_true]; exact ⟨k, List.mem_range.2 h, by rw [decide_eq_true h1, decide_eq_true h2]; rfl⟩
theorem stTw_no {l : List St} {i : Nat} (h : ∀ k, k < i → ¬ ((l.getD k default).div = (l.getD i default).div ∧ (l.getD k default).name = (l.getD i default).name)) : stTwice l i = false := by
  unfold stTwice; rw [List.any_eq_false]; intro k hk; have := h k (List.mem_range.1 hk); simpa using this
end Sx
open Sx
set_option maxRecDepth 100000 in
set_option maxHeartbeats 1000000 in
theorem rstop_ok (s : Org) (hle : OrgLe s) (w0 : World) (hS : OrgIn s w0 []) (i : Nat) (hi : i < s.ss.length) : Sp Tryd.prog 70 [s.val, natV i] w0 [] (RV (.int .i64 (stErr s.ds.length s.ss i))) := by
  obtain ⟨x, hx⟩ := get_some hi
  have hxd := getD_some (d := default) hx
  have hxm := List.mem_of_getElem? hx
  have hln := hle.t
  have hpl := hle.p x hxm
  have hdl := hle.d
  refine spec_enter Tryd.func70 rfl Tryd.ntmps70 rfl (Own.refl _) ?_
  simp only [argEnv]
  refine gc_seq <| gc_region <| gl_op (op_box rfl rfl rfl (fun b2 => ?_))
  refine gl_op <| op_rd rfl (rd_assign rfl) <| gl_nil <| gx_then <| gc_seq <| gc_region <| gl_op <| op_rd rfl (rd_fieldAddr rfl (fa_27_2 _)) <| gl_op (op_rd rfl (rd_load Tryd.underlying24 rfl rfl (by exact ld_blk 0 rfl rfl)) ?_)
  refine gl_op <| op_rd rfl (rd_move rfl) <| gl_op (op_rd rfl (rd_indexOld hS.t Tryd.underlying24 ty_57 rfl rfl (by omega) (by omega)) ?_)
  refine gl_op (op_rd rfl (rd_loadAgg Tryd.underlying57 rfl ty_57 rfl (cs_slN hS.t (flat_drop_get St.cells 5 (fun _ => rfl) hx)) rfl) ?_)
  refine gl_op (op_alloc ty_57 rfl rfl (fun b5 => ?_))
  refine gl_op (op_storeAgg 0 ty_57 rfl rfl rfl rfl rfl rfl (by rfl) ?_)
  refine gl_nil <| gx_then <| gc_seq <| gc_seq <| gc_region <| gl_op <| op_rd rfl (rd_fieldAddr rfl (fa_57_0 _)) <| gl_op (op_rd rfl (rd_load Tryd.underlying9 rfl rfl (by exact ld_blk 0 rfl rfl)) ?_)
  refine gl_op (op_call rfl (vf := []) (vc := []) rfl rfl Tryd.call85 (fun w1 ho => rName_ok x.name (hle.tn x hxm) w1) ?_)
  rintro _ _ ⟨rfl, rfl⟩
  refine gk_bool (fun hn => ?_) (fun hn => ?_)
  · refine gl_op <| op_rd rfl (rd_not rfl) <| gl_nil <| gx_then <| gc_cond_f rfl <| gc_skip <| gx_then <| gc_seq <| gc_seq <| gc_region <| gl_op <| op_rd rfl (rd_fieldAddr rfl (fa_57_1 _)) <| gl_op (op_rd rfl (rd_load Tryd.underlying3 rfl rfl (by exact ld_blk 0 rfl rfl)) ?_)
    refine gl_op <| op_rd rfl (rd_fieldAddr rfl (fa_27_0 _)) <| gl_op (op_rd rfl (rd_load Tryd.underlying22 rfl rfl (by exact ld_blk 1 rfl rfl)) ?_)
    refine gl_op <| op_rd rfl (rd_lenSlice Tryd.underlying22 rfl) <| gl_op (op_call rfl (vf := []) (vc := []) rfl rfl Tryd.call88 (fun w1 ho => index_ok _ _ w1) ?_)
    rintro _ _ ⟨rfl, rfl⟩
    refine gk_bool (fun hix => ?_) (fun hix => ?_)
    · refine gl_op <| op_rd rfl (rd_not rfl) <| gl_nil <| gx_then <| gc_cond_f rfl <| gc_skip <| gx_then <| gc_seq <| gc_seq <| gc_region <| gl_op <| op_rd rfl (rd_assign rfl) <| gl_nil <| gx_then <| gc_block <| gc_loopF (ι := Nat) [(1, _), (2, _), (5, _)] [_, _] (fun k => k ≤ i ∧ ∀ q, q < k → ¬ ((s.ss.getD q default).div = (s.ss.getD i default).div ∧ (s.ss.getD q default).name = (s.ss.getD i default).name)) (fun k Fr0 => ((6, natV k) :: Fr0)) (fun k Fr0 => Fr0) (fun k => i - k) 0 (⟨Nat.zero_le _, fun q hq => absurd hq (Nat.not_lt_zero q)⟩) ⟨rfl, rfl, rfl, rfl, trivial⟩ ⟨[0, 1], by decide, rfl⟩ ?_
      rintro k ⟨hk, hall⟩
      refine gc_seq <| gc_seq <| gc_region <| gl_op <| op_rd rfl (rd_move rfl) <| gl_op <| op_rd rfl (rd_move rfl) <| gl_op (op_rd rfl (rd_lss rfl rfl) (gk_dec (fun h25 => ?_) (fun h25 => ?_)))
      · obtain ⟨y, hy⟩ := get_some (show k < s.ss.length by omega)
        have hyd := getD_some (d := default) hy
        refine gl_nil <| gx_then <| gc_cond_t rfl <| gc_skip <| gx_then <| gc_seq <| gc_block <| gc_seq <| gc_drawP [0, 1] true 19 rfl <| ga_first 0 (bm 20 1) rfl rfl rfl rfl (by kernel_rfl) (by kernel_rfl) ⟨[0, 1], by decide, rfl⟩ (qt_rd (rd_fieldAddr rfl (fa_27_2 _))) ?_
        refine ga_first 1 (bm 20 3) rfl rfl rfl rfl (by kernel_rfl) (by kernel_rfl) ⟨[0, 1], by decide, rfl⟩ (qt_rd (rd_load Tryd.underlying24 rfl rfl (by exact ld_blk 1 rfl rfl))) ?_
        refine ga_first 2 (bm 20 7) rfl rfl rfl rfl (by kernel_rfl) (by kernel_rfl) ⟨[0, 1], by decide, rfl⟩ (qt_rd (rd_move rfl)) ?_
        refine ga_first 3 (bm 20 15) rfl rfl rfl rfl (by kernel_rfl) (by kernel_rfl) ⟨[0, 1], by decide, rfl⟩ (qt_rd (rd_indexOld hS.t Tryd.underlying24 ty_57 rfl rfl (by omega) (by omega))) ?_
        refine ga_first 4 (bm 20 31) rfl rfl rfl rfl (by kernel_rfl) (by kernel_rfl) ⟨[0, 1], by decide, rfl⟩ (qt_rd (rd_fieldAddr rfl (fa_57_1 _))) ?_
        refine ga_first 5 (bm 20 63) rfl rfl rfl rfl (by kernel_rfl) (by kernel_rfl) ⟨[0, 1], by decide, rfl⟩ (qt_rd (rd_load Tryd.underlying3 rfl rfl (ld_slf hS.t (get_flat St.cells 5 (fun _ => rfl) hy (j := 1) (by decide) rfl)))) ?_
        refine ga_first 6 (bm 20 127) rfl rfl rfl rfl (by kernel_rfl) (by kernel_rfl) ⟨[0, 1], by decide, rfl⟩ (qt_rd (rd_fieldAddr rfl (fa_57_1 _))) ?_
        refine ga_first 7 (bm 20 255) rfl rfl rfl rfl (by kernel_rfl) (by kernel_rfl) ⟨[0, 1], by decide, rfl⟩ (qt_rd (rd_load Tryd.underlying3 rfl rfl (by exact ld_blk 0 rfl rfl))) ?_
        refine ga_first 8 (bm 20 511) rfl rfl rfl rfl (by kernel_rfl) (by kernel_rfl) ⟨[0, 1], by decide, rfl⟩ (qt_rd (rd_eql rfl rfl)) (gk_dec (fun h36 => ?_) (fun h36 => ?_))
        · refine ga_first 9 (bm 20 1023) rfl rfl rfl rfl (by kernel_rfl) (by kernel_rfl) ⟨[0, 1], by decide, rfl⟩ (qt_rd (rd_move rfl)) ?_
          refine ga_firstY 10 (bm 20 2047) rfl rfl rfl rfl rfl rfl (by kernel_rfl) (by kernel_rfl) ⟨[0, 1], by decide, rfl⟩ (qt_rd (rd_fieldAddr rfl (fa_27_2 _))) ?_
          refine ga_firstY 11 (bm 20 4095) rfl rfl rfl rfl rfl rfl (by kernel_rfl) (by kernel_rfl) ⟨[0, 1], by decide, rfl⟩ (qt_rd (rd_load Tryd.underlying24 rfl rfl (by exact ld_blk 1 rfl rfl))) ?_
          refine ga_firstY 12 (bm 20 8191) rfl rfl rfl rfl rfl rfl (by kernel_rfl) (by kernel_rfl) ⟨[0, 1], by decide, rfl⟩ (qt_rd (rd_move rfl)) ?_
          refine ga_firstY 13 (bm 20 16383) rfl rfl rfl rfl rfl rfl (by kernel_rfl) (by kernel_rfl) ⟨[0, 1], by decide, rfl⟩ (qt_rd (rd_indexOld hS.t Tryd.underlying24 ty_57 rfl rfl (by omega) (by omega))) ?_
          refine ga_firstY 14 (bm 20 32767) rfl rfl rfl rfl rfl rfl (by kernel_rfl) (by kernel_rfl) ⟨[0, 1], by decide, rfl⟩ (qt_rd (rd_fieldAddr rfl (fa_57_0 _))) ?_
          refine ga_firstY 15 (bm 20 65535) rfl rfl rfl rfl rfl rfl (by kernel_rfl) (by kernel_rfl) ⟨[0, 1], by decide, rfl⟩ (qt_rd (rd_load Tryd.underlying9 rfl rfl (ld_slf hS.t (get_flat St.cells 5 (fun _ => rfl) hy (j := 0) (by decide) rfl)))) ?_
          refine ga_firstY 16 (bm 20 131071) rfl rfl rfl rfl rfl rfl (by kernel_rfl) (by kernel_rfl) ⟨[0, 1], by decide, rfl⟩ (qt_rd (rd_fieldAddr rfl (fa_57_0 _))) ?_
          refine ga_firstY 17 (bm 20 262143) rfl rfl rfl rfl rfl rfl (by kernel_rfl) (by kernel_rfl) ⟨[0, 1], by decide, rfl⟩ (qt_rd (rd_load Tryd.underlying9 rfl rfl (by exact ld_blk 0 rfl rfl))) ?_
          refine ga_firstY 18 (bm 20 524287) rfl rfl rfl rfl rfl rfl (by kernel_rfl) (by kernel_rfl) ⟨[0, 1], by decide, rfl⟩ (qt_rd (rd_eqlStrD Tryd.underlying9 (by kernel_rfl) rfl rfl)) ?_
          refine ga_first 19 (bm 20 1048575) rfl rfl rfl rfl (by kernel_rfl) (by kernel_rfl) ⟨[0, 1], by decide, rfl⟩ (qt_rd (rd_pick_t rfl rfl)) ?_
          refine ga_end (by kernel_rfl) (.inr ⟨[0, 1], by decide, rfl⟩) ?_
          refine gx_then <| gc_cond rfl (fun hq => ?_) (fun hq => ?_)
          · refine gc_seq <| gc_region <| gl_op <| op_rd rfl (rd_assign rfl) <| gl_nil <| gx_then <| gc_ret <| gx_block_ret <| gx_then_ret <| gx_then_ret <| gx_block_ret <| gx_then_ret <| gx_ret1 (.inl rfl) Tryd.results70 rfl [] (by decide) ?_
            refine ⟨congrArg (Value.int .i64) (Eq.symm ?_), rfl⟩
            unfold stErr
            rw [hxd]
            simp only
            rw [if_neg (by rw [hn]; decide)]
            rw [if_neg (by rw [hix]; decide)]
            rw [if_pos (stTw_yes (k := k) (by omega) (by rw [hyd, hxd]; omega) (by rw [hyd, hxd]; simpa using hq))]
          refine gc_skip <| gx_block <| gx_then <| gc_region <| gl_op <| op_rd rfl (rd_move rfl) <| gl_op (op_rd rfl (by exact rd_addN (b := 1) rfl rfl (by omega)) ?_)
          refine gl_op <| op_rd rfl (rd_assign rfl) <| gl_nil <| gx_then ?_
          exact gx_cut (k + 1) ⟨⟨by omega, fun q hqq => by
            rcases Nat.lt_or_eq_of_le (Nat.le_of_lt_succ hqq) with h | rfl
            · exact hall q h
            · rw [hyd, hxd]; rintro ⟨e1, e2⟩; rw [decide_eq_true e2] at hq; cases hq⟩, by omega⟩ ⟨rfl, rfl, rfl, rfl, trivial⟩ ⟨[0, 1], by decide, rfl⟩
        refine ga_first 9 (bm 20 1023) rfl rfl rfl rfl (by kernel_rfl) (by kernel_rfl) ⟨[0, 1], by decide, rfl⟩ (qt_rd (rd_move rfl)) ?_
        refine ga_firstN 10 (bm 20 2047) rfl rfl rfl rfl rfl rfl (by kernel_rfl) (by kernel_rfl) ⟨[0, 1], by decide, rfl⟩ ?_
        refine ga_firstN 11 (bm 20 4095) rfl rfl rfl rfl rfl rfl (by kernel_rfl) (by kernel_rfl) ⟨[0, 1], by decide, rfl⟩ ?_
        refine ga_firstN 12 (bm 20 8191) rfl rfl rfl rfl rfl rfl (by kernel_rfl) (by kernel_rfl) ⟨[0, 1], by decide, rfl⟩ ?_
        refine ga_firstN 13 (bm 20 16383) rfl rfl rfl rfl rfl rfl (by kernel_rfl) (by kernel_rfl) ⟨[0, 1], by decide, rfl⟩ ?_
        refine ga_firstN 14 (bm 20 32767) rfl rfl rfl rfl rfl rfl (by kernel_rfl) (by kernel_rfl) ⟨[0, 1], by decide, rfl⟩ ?_
        refine ga_firstN 15 (bm 20 65535) rfl rfl rfl rfl rfl rfl (by kernel_rfl) (by kernel_rfl) ⟨[0, 1], by decide, rfl⟩ ?_
        refine ga_firstN 16 (bm 20 131071) rfl rfl rfl rfl rfl rfl (by kernel_rfl) (by kernel_rfl) ⟨[0, 1], by decide, rfl⟩ ?_
        refine ga_firstN 17 (bm 20 262143) rfl rfl rfl rfl rfl rfl (by kernel_rfl) (by kernel_rfl) ⟨[0, 1], by decide, rfl⟩ ?_
        refine ga_firstN 18 (bm 20 524287) rfl rfl rfl rfl rfl rfl (by kernel_rfl) (by kernel_rfl) ⟨[0, 1], by decide, rfl⟩ ?_
        refine ga_first 19 (bm 20 1048575) rfl rfl rfl rfl (by kernel_rfl) (by kernel_rfl) ⟨[0, 1], by decide, rfl⟩ (qt_rd (rd_pick_f rfl rfl)) ?_
        refine ga_end (by kernel_rfl) (.inr ⟨[0, 1], by decide, rfl⟩) ?_
        refine gx_then <| gc_cond_f rfl <| gc_skip <| gx_block <| gx_then <| gc_region <| gl_op <| op_rd rfl (rd_move rfl) <| gl_op (op_rd rfl (by exact rd_addN (b := 1) rfl rfl (by omega)) ?_)
        refine gl_op <| op_rd rfl (rd_assign rfl) <| gl_nil <| gx_then ?_
        exact gx_cut (k + 1) ⟨⟨by omega, fun q hqq => by
          rcases Nat.lt_or_eq_of_le (Nat.le_of_lt_succ hqq) with h | rfl
          · exact hall q h
          · rw [hyd, hxd]; rintro ⟨e1, e2⟩; omega⟩, by omega⟩ ⟨rfl, rfl, rfl, rfl, trivial⟩ ⟨[0, 1], by decide, rfl⟩
      refine gl_nil <| gx_then <| gc_cond_f rfl <| gc_exit <| gx_then_exit <| gx_then_exit <| gx_block_exit <| gx_then <| gc_seq <| gc_seq <| gc_region <| gl_op <| op_rd rfl (rd_fieldAddr rfl (fa_57_2 _)) <| gl_op (op_rd rfl (rd_loadAgg Tryd.underlying54 rfl ty_54 rfl (by exact cs_blk 0 (off := 2) (k := 2) rfl rfl) rfl) ?_)
      refine gl_op (op_call rfl (vf := []) (vc := []) rfl rfl Tryd.call87 (fun w1 ho => rValid_ok x.num x.den w1) ?_)
      rintro _ _ ⟨rfl, rfl⟩
      refine gk_bool (fun hv => ?_) (fun hv => ?_)
      · refine gl_op <| op_rd rfl (rd_not rfl) <| gl_op <| op_rd rfl (rd_move rfl) <| gl_yes rfl rfl <| op_rd rfl (rd_fieldAddr rfl (fa_57_3 _)) <| gl_yes rfl rfl (op_rd rfl (rd_load Tryd.underlying55 rfl rfl (by exact ld_blk 0 rfl rfl)) ?_)
        refine gl_yes rfl rfl <| op_rd rfl (rd_lenSlice Tryd.underlying55 rfl) <| gl_yes rfl rfl (op_rd rfl (rd_eql rfl rfl) (gk_dec (fun h56 => ?_) (fun h56 => ?_)))
        · refine gl_op <| op_rd rfl (rd_pick_f rfl rfl) <| gl_nil <| gx_then <| gc_cond_t rfl <| gc_seq <| gc_region <| gl_op <| op_rd rfl (rd_assign rfl) <| gl_nil <| gx_then <| gc_ret <| gx_then_ret <| gx_ret1 (.inl rfl) Tryd.results70 rfl [] (by decide) ?_
          refine ⟨congrArg (Value.int .i64) (Eq.symm ?_), rfl⟩
          unfold stErr
          rw [hxd]
          simp only
          rw [if_neg (by rw [hn]; decide)]
          rw [if_neg (by rw [hix]; decide)]
          rw [if_neg (by rw [stTw_no (fun q hq => hall q (by omega))]; decide)]
          rw [if_pos (by rw [hv, decide_eq_true (show x.ps.length = 0 by omega)]; rfl)]
        refine gl_op <| op_rd rfl (rd_pick_f rfl rfl) <| gl_nil <| gx_then <| gc_cond_f rfl <| gc_skip <| gx_then <| gc_seq <| gc_seq <| gc_region <| gl_op <| op_rd rfl (rd_fieldAddr rfl (fa_57_3 _)) <| gl_op (op_rd rfl (rd_load Tryd.underlying55 rfl rfl (by exact ld_blk 0 rfl rfl)) ?_)
        refine gl_op <| op_rd rfl (rd_lenSlice Tryd.underlying55 rfl) <| gl_op (op_rd rfl (rd_gtr rfl rfl) (gk_dec (fun h61 => ?_) (fun h61 => ?_)))
        · refine gl_nil <| gx_then <| gc_cond_t rfl <| gc_seq <| gc_region <| gl_op <| op_rd rfl (rd_assign rfl) <| gl_nil <| gx_then <| gc_ret <| gx_then_ret <| gx_ret1 (.inl rfl) Tryd.results70 rfl [] (by decide) ?_
          refine ⟨congrArg (Value.int .i64) (Eq.symm ?_), rfl⟩
          unfold stErr
          rw [hxd]
          simp only
          rw [if_neg (by rw [hn]; decide)]
          rw [if_neg (by rw [hix]; decide)]
          rw [if_neg (by rw [stTw_no (fun q hq => hall q (by omega))]; decide)]
          rw [if_neg (by rw [hv, decide_eq_false (show ¬ x.ps.length = 0 by omega)]; decide)]
          rw [if_pos (decide_eq_true (by omega))]
        refine gl_nil <| gx_then <| gc_cond_f rfl <| gc_skip <| gx_then <| gc_seq <| gc_region <| gl_op <| op_rd rfl (rd_assign rfl) <| gl_nil <| gx_then <| gc_ret <| gx_ret1 (.inl rfl) Tryd.results70 rfl [] (by decide) ?_
        refine ⟨congrArg (Value.int .i64) (Eq.symm ?_), rfl⟩
        unfold stErr
        rw [hxd]
        simp only
        rw [if_neg (by rw [hn]; decide)]
        rw [if_neg (by rw [hix]; decide)]
        rw [if_neg (by rw [stTw_no (fun q hq => hall q (by omega))]; decide)]
        rw [if_neg (by rw [hv, decide_eq_false (show ¬ x.ps.length = 0 by omega)]; decide)]
        rw [if_neg (by rw [decide_eq_false (show ¬ 12 < x.ps.length by omega)]; decide)]
      refine gl_op <| op_rd rfl (rd_not rfl) <| gl_op <| op_rd rfl (rd_move rfl) <| gl_no rfl rfl rfl <| gl_no rfl rfl rfl <| gl_no rfl rfl rfl <| gl_no rfl rfl rfl <| gl_op <| op_rd rfl (rd_pick_t rfl rfl) <| gl_nil <| gx_then <| gc_cond_t rfl <| gc_seq <| gc_region <| gl_op <| op_rd rfl (rd_assign rfl) <| gl_nil <| gx_then <| gc_ret <| gx_then_ret <| gx_ret1 (.inl rfl) Tryd.results70 rfl [] (by decide) ?_
      refine ⟨congrArg (Value.int .i64) (Eq.symm ?_), rfl⟩
      unfold stErr
      rw [hxd]
      simp only
      rw [if_neg (by rw [hn]; decide)]
      rw [if_neg (by rw [hix]; decide)]
      rw [if_neg (by rw [stTw_no (fun q hq => hall q (by omega))]; decide)]
      rw [if_pos (by rw [hv]; rfl)]
    refine gl_op <| op_rd rfl (rd_not rfl) <| gl_nil <| gx_then <| gc_cond_t rfl <| gc_seq <| gc_region <| gl_op <| op_rd rfl (rd_assign rfl) <| gl_nil <| gx_then <| gc_ret <| gx_then_ret <| gx_ret1 (.inl rfl) Tryd.results70 rfl [] (by decide) ?_
    refine ⟨congrArg (Value.int .i64) (Eq.symm ?_), rfl⟩
    unfold stErr
    rw [hxd]
    simp only
    rw [if_neg (by rw [hn]; decide)]
    rw [if_pos hix]
  refine gl_op <| op_rd rfl (rd_not rfl) <| gl_nil <| gx_then <| gc_cond_t rfl <| gc_seq <| gc_region <| gl_op <| op_rd rfl (rd_assign rfl) <| gl_nil <| gx_then <| gc_ret <| gx_then_ret <| gx_ret1 (.inl rfl) Tryd.results70 rfl [] (by decide) ?_
  refine ⟨congrArg (Value.int .i64) (Eq.symm ?_), rfl⟩
  unfold stErr
  rw [hxd]
  simp only
  rw [if_pos hn]
set_option maxRecDepth 100000 in
set_option maxHeartbeats 1000000 in
theorem rpart_ok (s : Org) (hle : OrgLe s) (w0 : World) (hS : OrgIn s w0 []) (x : St) (p : Pt) (d : Dv) (hg : PGood s x d) : Sp Tryd.prog 71 [s.val, x.val, p.val] w0 [] (RV (.int .i64 (ptErr s.rs d p))) := by
  obtain ⟨hrl, hd0, hd1, hrk, hxd0, hdx⟩ := hg
  have hdl : x.div.toNat < s.ds.length := (List.getElem?_eq_some_iff.1 hdx).1
  have hln := hle.r
  have hdn := hle.d
  refine spec_enter Tryd.func71 rfl Tryd.ntmps71 rfl (Own.refl _) ?_
  simp only [argEnv]
  refine gc_seq <| gc_region <| gl_op (op_box rfl rfl rfl (fun b3 => ?_))
  refine gl_op (op_box rfl rfl rfl (fun b4 => ?_))
  refine gl_op (op_box rfl rfl rfl (fun b5 => ?_))
  refine gl_op <| op_rd rfl (rd_assign rfl) <| gl_nil <| gx_then <| gc_seq <| gc_seq <| gc_region <| gl_op <| op_rd rfl (rd_fieldAddr rfl (fa_107_0 _)) <| gl_op (op_rd rfl (rd_load Tryd.underlying3 rfl rfl (by exact ld_blk 0 rfl rfl)) ?_)
  refine gl_op <| op_rd rfl (rd_fieldAddr rfl (fa_27_1 _)) <| gl_op (op_rd rfl (rd_load Tryd.underlying23 rfl rfl (by exact ld_blk 2 rfl rfl)) ?_)
  refine gl_op <| op_rd rfl (rd_lenSlice Tryd.underlying23 rfl) <| gl_op (op_call rfl (vf := []) (vc := []) rfl rfl Tryd.call88 (fun w1 ho => index_ok _ _ w1) ?_)
  rintro _ _ ⟨rfl, rfl⟩
  refine gk_bool (fun hix => ?_) (fun hix => ?_)
  · obtain ⟨hx0, hx1⟩ : 0 ≤ p.rank ∧ p.rank < s.rs.length := by unfold idxB at hix; simpa using hix
    obtain ⟨r, hr⟩ := get_some (show p.rank.toNat < s.rs.length by omega)
    have hrd := getD_some (d := default) hr
    have hrr := hrk r (List.mem_of_getElem? hr)
    refine gl_op <| op_rd rfl (rd_not rfl) <| gl_nil <| gx_then <| gc_cond_f rfl <| gc_skip <| gx_then <| gc_seq <| gc_region <| gl_op <| op_rd rfl (rd_fieldAddr rfl (fa_27_0 _)) <| gl_op (op_rd rfl (rd_load Tryd.underlying22 rfl rfl (by exact ld_blk 2 rfl rfl)) ?_)
    refine gl_op <| op_rd rfl (rd_fieldAddr rfl (fa_57_1 _)) <| gl_op (op_rd rfl (rd_load Tryd.underlying3 rfl rfl (by exact ld_blk 1 rfl rfl)) ?_)
    refine gl_op (op_rd rfl (rd_indexOld hS.d Tryd.underlying22 ty_65 rfl rfl (by omega) (by omega)) ?_)
    refine gl_op (op_rd rfl (rd_loadAgg Tryd.underlying65 rfl ty_65 rfl (cs_sl hS.d (flat_drop_get Dv.cells 3 (fun _ => rfl) hdx)) rfl) ?_)
    refine gl_op (op_alloc ty_65 rfl rfl (fun b7 => ?_))
    refine gl_op (op_storeAgg 0 ty_65 rfl rfl rfl rfl rfl rfl (by rfl) ?_)
    refine gl_nil <| gx_then <| gc_seq <| gc_seq <| gc_region <| gl_op <| op_rd rfl (rd_fieldAddr rfl (fa_107_2 _)) <| gl_op (op_rd rfl (rd_load Tryd.underlying3 rfl rfl (by exact ld_blk 1 rfl rfl)) ?_)
    refine gl_op <| op_rd rfl (rd_fieldAddr rfl (fa_65_1 _)) <| gl_op (op_rd rfl (rd_load Tryd.underlying3 rfl rfl (by exact ld_blk 0 rfl rfl)) ?_)
    refine gl_op (op_rd rfl (rd_lss rfl rfl) (gk_dec (fun h26 => ?_) (fun h26 => ?_)))
    · refine gl_op <| op_rd rfl (rd_move rfl) <| gl_no rfl rfl rfl <| gl_no rfl rfl rfl <| gl_no rfl rfl rfl <| gl_no rfl rfl rfl <| gl_no rfl rfl rfl <| gl_op <| op_rd rfl (rd_pick_t rfl rfl) <| gl_op <| op_rd rfl (rd_move rfl) <| gl_no rfl rfl rfl <| gl_no rfl rfl rfl <| gl_no rfl rfl rfl <| gl_no rfl rfl rfl <| gl_no rfl rfl rfl <| gl_op <| op_rd rfl (rd_pick_t rfl rfl) <| gl_op <| op_rd rfl (rd_move rfl) <| gl_no rfl rfl rfl <| gl_no rfl rfl rfl <| gl_no rfl rfl rfl <| gl_op <| op_rd rfl (rd_pick_t rfl rfl) <| gl_op <| op_rd rfl (rd_move rfl) <| gl_no rfl rfl rfl <| gl_no rfl rfl rfl <| gl_no rfl rfl rfl <| gl_op <| op_rd rfl (rd_pick_t rfl rfl) <| gl_nil ?_
      refine gx_then <| gc_cond_t rfl <| gc_seq <| gc_region <| gl_op <| op_rd rfl (rd_assign rfl) <| gl_nil <| gx_then <| gc_ret <| gx_then_ret <| gx_ret1 (.inl rfl) Tryd.results71 rfl [] (by decide) ?_
      refine ⟨congrArg (Value.int .i64) (Eq.symm ?_), rfl⟩
      unfold ptErr
      rw [if_neg (by rw [hix]; decide)]
      rw [if_pos]
      unfold ptRange
      try simp only [withinB] at *
      simp only [Bool.not_eq_true', Bool.not_eq_false', Bool.and_eq_false_iff, Bool.and_eq_true, decide_eq_true_eq, decide_eq_false_iff_not] at *
      omega
    refine gl_op <| op_rd rfl (rd_move rfl) <| gl_yes rfl rfl <| op_rd rfl (rd_fieldAddr rfl (fa_107_3 _)) <| gl_yes rfl rfl (op_rd rfl (rd_load Tryd.underlying3 rfl rfl (by exact ld_blk 1 rfl rfl)) ?_)
    refine gl_yes rfl rfl <| op_rd rfl (rd_fieldAddr rfl (fa_65_2 _)) <| gl_yes rfl rfl (op_rd rfl (rd_load Tryd.underlying3 rfl rfl (by exact ld_blk 0 rfl rfl)) ?_)
    refine gl_yes rfl rfl (op_rd rfl (rd_gtr rfl rfl) (gk_dec (fun h32 => ?_) (fun h32 => ?_)))
    · refine gl_op <| op_rd rfl (rd_pick_f rfl rfl) <| gl_op <| op_rd rfl (rd_move rfl) <| gl_no rfl rfl rfl <| gl_no rfl rfl rfl <| gl_no rfl rfl rfl <| gl_no rfl rfl rfl <| gl_no rfl rfl rfl <| gl_op <| op_rd rfl (rd_pick_t rfl rfl) <| gl_op <| op_rd rfl (rd_move rfl) <| gl_no rfl rfl rfl <| gl_no rfl rfl rfl <| gl_no rfl rfl rfl <| gl_op <| op_rd rfl (rd_pick_t rfl rfl) <| gl_op <| op_rd rfl (rd_move rfl) <| gl_no rfl rfl rfl <| gl_no rfl rfl rfl <| gl_no rfl rfl rfl <| gl_op <| op_rd rfl (rd_pick_t rfl rfl) <| gl_nil <| gx_then <| gc_cond_t rfl <| gc_seq <| gc_region <| gl_op <| op_rd rfl (rd_assign rfl) <| gl_nil ?_
      refine gx_then <| gc_ret <| gx_then_ret <| gx_ret1 (.inl rfl) Tryd.results71 rfl [] (by decide) ?_
      refine ⟨congrArg (Value.int .i64) (Eq.symm ?_), rfl⟩
      unfold ptErr
      rw [if_neg (by rw [hix]; decide)]
      rw [if_pos]
      unfold ptRange
      try simp only [withinB] at *
      simp only [Bool.not_eq_true', Bool.not_eq_false', Bool.and_eq_false_iff, Bool.and_eq_true, decide_eq_true_eq, decide_eq_false_iff_not] at *
      omega
    refine gl_op <| op_rd rfl (rd_pick_f rfl rfl) <| gl_op <| op_rd rfl (rd_move rfl) <| gl_yes rfl rfl <| op_rd rfl (rd_fieldAddr rfl (fa_107_2 _)) <| gl_yes rfl rfl (op_rd rfl (rd_load Tryd.underlying3 rfl rfl (by exact ld_blk 1 rfl rfl)) ?_)
    refine gl_yes rfl rfl <| op_rd rfl (rd_fieldAddr rfl (fa_107_3 _)) <| gl_yes rfl rfl (op_rd rfl (rd_load Tryd.underlying3 rfl rfl (by exact ld_blk 1 rfl rfl)) ?_)
    refine gl_yes rfl rfl (op_rd rfl (rd_gtr rfl rfl) (gk_dec (fun h39 => ?_) (fun h39 => ?_)))
    · refine gl_op <| op_rd rfl (rd_pick_f rfl rfl) <| gl_op <| op_rd rfl (rd_move rfl) <| gl_no rfl rfl rfl <| gl_no rfl rfl rfl <| gl_no rfl rfl rfl <| gl_op <| op_rd rfl (rd_pick_t rfl rfl) <| gl_op <| op_rd rfl (rd_move rfl) <| gl_no rfl rfl rfl <| gl_no rfl rfl rfl <| gl_no rfl rfl rfl <| gl_op <| op_rd rfl (rd_pick_t rfl rfl) <| gl_nil <| gx_then <| gc_cond_t rfl <| gc_seq <| gc_region <| gl_op <| op_rd rfl (rd_assign rfl) <| gl_nil <| gx_then <| gc_ret <| gx_then_ret <| gx_ret1 (.inl rfl) Tryd.results71 rfl [] (by decide) ?_
      refine ⟨congrArg (Value.int .i64) (Eq.symm ?_), rfl⟩
      unfold ptErr
      rw [if_neg (by rw [hix]; decide)]
      rw [if_pos]
      unfold ptRange
      try simp only [withinB] at *
      simp only [Bool.not_eq_true', Bool.not_eq_false', Bool.and_eq_false_iff, Bool.and_eq_true, decide_eq_true_eq, decide_eq_false_iff_not] at *
      omega
    refine gl_op <| op_rd rfl (rd_pick_f rfl rfl) <| gl_op <| op_rd rfl (rd_move rfl) <| gl_yes rfl rfl <| op_rd rfl (rd_fieldAddr rfl (fa_107_1 _)) <| gl_yes rfl rfl (op_rd rfl (rd_load Tryd.underlying3 rfl rfl (by exact ld_blk 1 rfl rfl)) ?_)
    refine gl_yes rfl rfl (op_rd rfl (rd_lss rfl rfl) (gk_dec (fun h44 => ?_) (fun h44 => ?_)))
    · refine gl_op <| op_rd rfl (rd_pick_f rfl rfl) <| gl_op <| op_rd rfl (rd_move rfl) <| gl_no rfl rfl rfl <| gl_no rfl rfl rfl <| gl_no rfl rfl rfl <| gl_op <| op_rd rfl (rd_pick_t rfl rfl) <| gl_nil <| gx_then <| gc_cond_t rfl <| gc_seq <| gc_region <| gl_op <| op_rd rfl (rd_assign rfl) <| gl_nil <| gx_then <| gc_ret <| gx_then_ret <| gx_ret1 (.inl rfl) Tryd.results71 rfl [] (by decide) ?_
      refine ⟨congrArg (Value.int .i64) (Eq.symm ?_), rfl⟩
      unfold ptErr
      rw [if_neg (by rw [hix]; decide)]
      rw [if_pos]
      unfold ptRange
      try simp only [withinB] at *
      simp only [Bool.not_eq_true', Bool.not_eq_false', Bool.and_eq_false_iff, Bool.and_eq_true, decide_eq_true_eq, decide_eq_false_iff_not] at *
      omega
    refine gl_op <| op_rd rfl (rd_pick_f rfl rfl) <| gl_op <| op_rd rfl (rd_move rfl) <| gl_yes rfl rfl <| op_rd rfl (rd_fieldAddr rfl (fa_107_1 _)) <| gl_yes rfl rfl (op_rd rfl (rd_load Tryd.underlying3 rfl rfl (by exact ld_blk 1 rfl rfl)) ?_)
    refine gl_yes rfl rfl (op_rd rfl (rd_gtr rfl rfl) (gk_dec (fun h49 => ?_) (fun h49 => ?_)))
    · refine gl_op <| op_rd rfl (rd_pick_f rfl rfl) <| gl_nil <| gx_then <| gc_cond_t rfl <| gc_seq <| gc_region <| gl_op <| op_rd rfl (rd_assign rfl) <| gl_nil <| gx_then <| gc_ret <| gx_then_ret <| gx_ret1 (.inl rfl) Tryd.results71 rfl [] (by decide) ?_
      refine ⟨congrArg (Value.int .i64) (Eq.symm ?_), rfl⟩
      unfold ptErr
      rw [if_neg (by rw [hix]; decide)]
      rw [if_pos]
      unfold ptRange
      try simp only [withinB] at *
      simp only [Bool.not_eq_true', Bool.not_eq_false', Bool.and_eq_false_iff, Bool.and_eq_true, decide_eq_true_eq, decide_eq_false_iff_not] at *
      omega
    refine gl_op <| op_rd rfl (rd_pick_f rfl rfl) <| gl_nil <| gx_then <| gc_cond_f rfl <| gc_skip <| gx_then <| gc_seq <| gc_seq ?_
    have hrg : ptRange d p = true := by
      unfold ptRange
      simp only [Bool.and_eq_true, decide_eq_true_eq]
      omega
    refine gc_region <| gl_op <| op_rd rfl (rd_fieldAddr rfl (fa_107_2 _)) <| gl_op (op_rd rfl (rd_load Tryd.underlying3 rfl rfl (by exact ld_blk 1 rfl rfl)) ?_)
    refine gl_op <| op_rd rfl (rd_assign rfl) <| gl_nil <| gx_then <| gc_block <| gc_loopF (ι := Nat) [(3, _), (5, _)] [_, _, _, _] (fun j => p.lo + (j : Int) ≤ p.hi + 1 ∧ ∀ q : Nat, q < j → (decide (r.low ≤ p.lo + (q : Int) + p.shift) && decide (p.lo + (q : Int) + p.shift < r.low + r.count)) = true) (fun j Fr0 => ((8, .int .i64 (p.lo + (j : Int))) :: Fr0)) (fun j Fr0 => Fr0) (fun j => (p.hi + 1 - p.lo).toNat - j) 0 (⟨by omega, fun q hq => absurd hq (Nat.not_lt_zero q)⟩) ⟨by simp; rfl, rfl, rfl, trivial⟩ ⟨[0, 1, 2, 3], by decide, rfl⟩ ?_
    rintro j ⟨hj, hall⟩
    refine gc_seq <| gc_seq <| gc_region <| gl_op <| op_rd rfl (rd_move rfl) <| gl_op <| op_rd rfl (rd_fieldAddr rfl (fa_107_3 _)) <| gl_op (op_rd rfl (rd_load Tryd.underlying3 rfl rfl (by exact ld_blk 1 rfl rfl)) ?_)
    refine gl_op (op_rd rfl (rd_leq rfl rfl) (gk_dec (fun h56 => ?_) (fun h56 => ?_)))
    · refine gl_nil <| gx_then <| gc_cond_t rfl <| gc_skip <| gx_then <| gc_seq <| gc_block <| gc_seq <| gc_drawP [0, 1, 2, 3] true 11 rfl <| ga_first 0 (bm 12 1) rfl rfl rfl rfl (by kernel_rfl) (by kernel_rfl) ⟨[0, 1, 2, 3], by decide, rfl⟩ (qt_rd (rd_fieldAddr rfl (fa_27_1 _))) ?_
      refine ga_first 1 (bm 12 3) rfl rfl rfl rfl (by kernel_rfl) (by kernel_rfl) ⟨[0, 1, 2, 3], by decide, rfl⟩ (qt_rd (rd_load Tryd.underlying23 rfl rfl (by exact ld_blk 3 rfl rfl))) ?_
      refine ga_first 2 (bm 12 7) rfl rfl rfl rfl (by kernel_rfl) (by kernel_rfl) ⟨[0, 1, 2, 3], by decide, rfl⟩ (qt_rd (rd_fieldAddr rfl (fa_107_0 _))) ?_
      refine ga_first 3 (bm 12 15) rfl rfl rfl rfl (by kernel_rfl) (by kernel_rfl) ⟨[0, 1, 2, 3], by decide, rfl⟩ (qt_rd (rd_load Tryd.underlying3 rfl rfl (by exact ld_blk 1 rfl rfl))) ?_
      refine ga_first 4 (bm 12 31) rfl rfl rfl rfl (by kernel_rfl) (by kernel_rfl) ⟨[0, 1, 2, 3], by decide, rfl⟩ (qt_rd (rd_indexOld hS.r Tryd.underlying23 ty_81 rfl rfl (by omega) (by omega))) ?_
      refine ga_first 5 (bm 12 63) rfl rfl rfl rfl (by kernel_rfl) (by kernel_rfl) ⟨[0, 1, 2, 3], by decide, rfl⟩ (qt_rd (rd_loadAgg Tryd.underlying81 rfl ty_81 rfl (cs_sl hS.r (flat_drop_get Rk.cells 6 (fun _ => rfl) hr)) rfl)) ?_
      refine ga_first 6 (bm 12 127) rfl rfl rfl rfl (by kernel_rfl) (by kernel_rfl) ⟨[0, 1, 2, 3], by decide, rfl⟩ (qt_rd (rd_move rfl)) ?_
      refine ga_first 7 (bm 12 255) rfl rfl rfl rfl (by kernel_rfl) (by kernel_rfl) ⟨[0, 1, 2, 3], by decide, rfl⟩ (qt_rd (rd_fieldAddr rfl (fa_107_1 _))) ?_
      refine ga_first 8 (bm 12 511) rfl rfl rfl rfl (by kernel_rfl) (by kernel_rfl) ⟨[0, 1, 2, 3], by decide, rfl⟩ (qt_rd (rd_load Tryd.underlying3 rfl rfl (by exact ld_blk 1 rfl rfl))) ?_
      refine ga_first 9 (bm 12 1023) rfl rfl rfl rfl (by kernel_rfl) (by kernel_rfl) ⟨[0, 1, 2, 3], by decide, rfl⟩ (qt_rd (rd_add rfl rfl (by omega) (by omega))) ?_
      simp only [Rk.cells]
      refine ga_first 10 (bm 12 2047) rfl rfl rfl rfl (by kernel_rfl) (by kernel_rfl) ⟨[0, 1, 2, 3], by decide, rfl⟩ (qt_call (vf := []) (vc := []) rfl rfl Tryd.call89 (fun w1 ho => has_ok r _ (by omega) (by omega) (by omega) (by omega) w1) (by rintro _ _ ⟨h, _⟩; exact h)) ?_
      refine gk_bool (fun hh => ?_) (fun hh => ?_)
      · refine ga_first 11 (bm 12 4095) rfl rfl rfl rfl (by kernel_rfl) (by kernel_rfl) ⟨[0, 1, 2, 3], by decide, rfl⟩ (qt_rd (rd_not rfl)) ?_
        refine ga_end (by kernel_rfl) (.inr ⟨[0, 1, 2, 3], by decide, rfl⟩) ?_
        refine gx_then <| gc_cond_f rfl <| gc_skip <| gx_block <| gx_then <| gc_region <| gl_op <| op_rd rfl (rd_move rfl) <| gl_op (op_rd rfl (rd_add rfl rfl (by omega) (by omega)) ?_)
        refine gl_op <| op_rd rfl (rd_assign rfl) <| gl_nil <| gx_then ?_
        exact gx_cut (j + 1) ⟨⟨by omega, fun q hqq => by
          rcases Nat.lt_or_eq_of_le (Nat.le_of_lt_succ hqq) with h | rfl
          · exact hall q h
          · exact hh⟩, by omega⟩ ⟨(congrArg (fun z => some (Value.int .i64 z)) (show p.lo + (j : Int) + 1 = p.lo + ((j + 1 : Nat) : Int) by omega)), rfl, rfl, trivial⟩ ⟨[0, 1, 2, 3], by decide, rfl⟩
      refine ga_first 11 (bm 12 4095) rfl rfl rfl rfl (by kernel_rfl) (by kernel_rfl) ⟨[0, 1, 2, 3], by decide, rfl⟩ (qt_rd (rd_not rfl)) ?_
      refine ga_end (by kernel_rfl) (.inr ⟨[0, 1, 2, 3], by decide, rfl⟩) ?_
      refine gx_then <| gc_cond_t rfl <| gc_seq <| gc_region <| gl_op <| op_rd rfl (rd_assign rfl) <| gl_nil <| gx_then <| gc_ret <| gx_block_ret <| gx_then_ret <| gx_then_ret <| gx_block_ret <| gx_then_ret <| gx_ret1 (.inl rfl) Tryd.results71 rfl [] (by decide) ?_
      refine ⟨congrArg (Value.int .i64) (Eq.symm ?_), rfl⟩
      unfold ptErr
      rw [if_neg (by rw [hix]; decide)]
      rw [if_neg (by rw [hrg]; decide), hrd]
      rw [if_pos]
      unfold ptHas
      simp only [Bool.and_eq_false_iff, decide_eq_false_iff_not] at hh ⊢
      omega
    refine gl_nil <| gx_then <| gc_cond_f rfl <| gc_exit <| gx_then_exit <| gx_then_exit <| gx_block_exit <| gx_then <| gc_seq <| gc_region <| gl_op <| op_rd rfl (rd_assign rfl) <| gl_nil <| gx_then <| gc_ret <| gx_ret1 (.inl rfl) Tryd.results71 rfl [] (by decide) ?_
    refine ⟨congrArg (Value.int .i64) (Eq.symm ?_), rfl⟩
    unfold ptErr
    rw [if_neg (by rw [hix]; decide)]
    rw [if_neg (by rw [hrg]; decide), hrd]
    rw [if_neg]
    rw [Bool.not_eq_false]
    unfold ptHas
    have h1 := hall 0 (by omega)
    have h2 := hall (p.hi - p.lo).toNat (by omega)
    simp only [Bool.and_eq_true, decide_eq_true_eq] at h1 h2 ⊢
    omega
  refine gl_op <| op_rd rfl (rd_not rfl) <| gl_nil <| gx_then <| gc_cond_t rfl <| gc_seq <| gc_region <| gl_op <| op_rd rfl (rd_assign rfl) <| gl_nil <| gx_then <| gc_ret <| gx_then_ret <| gx_ret1 (.inl rfl) Tryd.results71 rfl [] (by decide) ?_
  refine ⟨congrArg (Value.int .i64) (Eq.symm ?_), rfl⟩
  unfold ptErr
  rw [if_pos hix]
end Go.Proofs.YtbjijbbkfgcleaaDoor
namespace Go.Proofs.YtbjijbbkfgcleaaDoor
open Go.Gv
open Go.RowKit
open Go.Sn
open Sx
set_option maxRecDepth 100000 in
set_option maxHeartbeats 1000000 in
theorem rCheck_ok (s : Org) (hle : OrgLe s) (w0 : World) (hS : OrgIn s w0 []) : Sp Tryd.prog 37 [s.val] w0 [] (RV (.tuple #[(checkP s).1.val, .int .i64 (checkP s).2])) := by
  refine spec_enter Tryd.func37 rfl Tryd.ntmps37 rfl (Own.refl _) ?_
  simp only [argEnv]
  refine gc_seq <| gc_region <| gl_op (op_box rfl rfl rfl (fun b1 => ?_))
  refine gl_op (op_alloc ty_98 rfl rfl (fun b2 => ?_))
  refine gl_op <| op_rd rfl (rd_assign rfl) <| gl_nil <| gx_then <| gc_seq <| gc_seq <| gc_region <| gl_op <| op_rd rfl (rd_fieldAddr rfl (fa_27_0 _)) <| gl_op (op_rd rfl (rd_load Tryd.underlying22 rfl rfl (by exact ld_blk 1 rfl rfl)) ?_)
  refine gl_op <| op_rd rfl (rd_lenSlice Tryd.underlying22 rfl) <| gl_op (op_rd rfl (rd_gtr rfl rfl) (gk_dec (fun h17 => ?_) (fun h17 => ?_)))
  · refine gl_op <| op_rd rfl (rd_move rfl) <| gl_no rfl rfl rfl <| gl_no rfl rfl rfl <| gl_no rfl rfl rfl <| gl_no rfl rfl rfl <| gl_op <| op_rd rfl (rd_pick_t rfl rfl) <| gl_op <| op_rd rfl (rd_move rfl) <| gl_no rfl rfl rfl <| gl_no rfl rfl rfl <| gl_no rfl rfl rfl <| gl_no rfl rfl rfl <| gl_op <| op_rd rfl (rd_pick_t rfl rfl) <| gl_op <| op_rd rfl (rd_move rfl) <| gl_no rfl rfl rfl <| gl_no rfl rfl rfl <| gl_no rfl rfl rfl <| gl_no rfl rfl rfl <| gl_op <| op_rd rfl (rd_pick_t rfl rfl) <| gl_nil <| gx_then <| gc_cond_t rfl <| gc_seq <| gc_region <| gl_op (op_rd rfl (rd_build rfl (fun _ => bd_98_)) ?_)
    refine gl_op (op_storeAgg 0 ty_98 rfl rfl rfl rfl rfl rfl (by rfl) ?_)
    refine gl_op <| op_rd rfl (rd_assign rfl) <| gl_nil <| gx_then <| gc_ret <| gx_then_ret <| gx_retV2 (.inl rfl) Tryd.results37 (rv_agg Tryd.underlying98 rfl ty_98 rfl (by rfl) (cs_blk 0 (off := 0) (k := 3) rfl rfl)) (rv_tmp rfl) [] (by decide) ?_
    refine ⟨?_, rfl⟩
    have he : checkP s = (⟨0, 0, 0⟩, 3) := by
      unfold checkP
      rw [if_pos (by unfold longB; simp; omega)]
    rw [he]
    rfl
  refine gl_op <| op_rd rfl (rd_move rfl) <| gl_yes rfl rfl <| op_rd rfl (rd_fieldAddr rfl (fa_27_1 _)) <| gl_yes rfl rfl (op_rd rfl (rd_load Tryd.underlying23 rfl rfl (by exact ld_blk 1 rfl rfl)) ?_)
  refine gl_yes rfl rfl <| op_rd rfl (rd_lenSlice Tryd.underlying23 rfl) <| gl_yes rfl rfl (op_rd rfl (rd_gtr rfl rfl) (gk_dec (fun h22 => ?_) (fun h22 => ?_)))
  · refine gl_op <| op_rd rfl (rd_pick_f rfl rfl) <| gl_op <| op_rd rfl (rd_move rfl) <| gl_no rfl rfl rfl <| gl_no rfl rfl rfl <| gl_no rfl rfl rfl <| gl_no rfl rfl rfl <| gl_op <| op_rd rfl (rd_pick_t rfl rfl) <| gl_op <| op_rd rfl (rd_move rfl) <| gl_no rfl rfl rfl <| gl_no rfl rfl rfl <| gl_no rfl rfl rfl <| gl_no rfl rfl rfl <| gl_op <| op_rd rfl (rd_pick_t rfl rfl) <| gl_nil <| gx_then <| gc_cond_t rfl <| gc_seq <| gc_region <| gl_op (op_rd rfl (rd_build rfl (fun _ => bd_98_)) ?_)
    refine gl_op (op_storeAgg 0 ty_98 rfl rfl rfl rfl rfl rfl (by rfl) ?_)
    refine gl_op <| op_rd rfl (rd_assign rfl) <| gl_nil <| gx_then <| gc_ret <| gx_then_ret <| gx_retV2 (.inl rfl) Tryd.results37 (rv_agg Tryd.underlying98 rfl ty_98 rfl (by rfl) (cs_blk 0 (off := 0) (k := 3) rfl rfl)) (rv_tmp rfl) [] (by decide) ?_
    refine ⟨?_, rfl⟩
    have he : checkP s = (⟨0, 0, 0⟩, 3) := by
      unfold checkP
      rw [if_pos (by unfold longB; simp; omega)]
    rw [he]
    rfl
  refine gl_op <| op_rd rfl (rd_pick_f rfl rfl) <| gl_op <| op_rd rfl (rd_move rfl) <| gl_yes rfl rfl <| op_rd rfl (rd_fieldAddr rfl (fa_27_2 _)) <| gl_yes rfl rfl (op_rd rfl (rd_load Tryd.underlying24 rfl rfl (by exact ld_blk 1 rfl rfl)) ?_)
  refine gl_yes rfl rfl <| op_rd rfl (rd_lenSlice Tryd.underlying24 rfl) <| gl_yes rfl rfl (op_rd rfl (rd_gtr rfl rfl) (gk_dec (fun h28 => ?_) (fun h28 => ?_)))
  · refine gl_op <| op_rd rfl (rd_pick_f rfl rfl) <| gl_op <| op_rd rfl (rd_move rfl) <| gl_no rfl rfl rfl <| gl_no rfl rfl rfl <| gl_no rfl rfl rfl <| gl_no rfl rfl rfl <| gl_op <| op_rd rfl (rd_pick_t rfl rfl) <| gl_nil <| gx_then <| gc_cond_t rfl <| gc_seq <| gc_region <| gl_op (op_rd rfl (rd_build rfl (fun _ => bd_98_)) ?_)
    refine gl_op (op_storeAgg 0 ty_98 rfl rfl rfl rfl rfl rfl (by rfl) ?_)
    refine gl_op <| op_rd rfl (rd_assign rfl) <| gl_nil <| gx_then <| gc_ret <| gx_then_ret <| gx_retV2 (.inl rfl) Tryd.results37 (rv_agg Tryd.underlying98 rfl ty_98 rfl (by rfl) (cs_blk 0 (off := 0) (k := 3) rfl rfl)) (rv_tmp rfl) [] (by decide) ?_
    refine ⟨?_, rfl⟩
    have he : checkP s = (⟨0, 0, 0⟩, 3) := by
      unfold checkP
      rw [if_pos (by unfold longB; simp; omega)]
    rw [he]
    rfl
  refine gl_op <| op_rd rfl (rd_pick_f rfl rfl) <| gl_op <| op_rd rfl (rd_move rfl) <| gl_yes rfl rfl <| op_rd rfl (rd_fieldAddr rfl (fa_27_3 _)) <| gl_yes rfl rfl (op_rd rfl (rd_load Tryd.underlying25 rfl rfl (by exact ld_blk 1 rfl rfl)) ?_)
  refine gl_yes rfl rfl <| op_rd rfl (rd_lenSlice Tryd.underlying25 rfl) <| gl_yes rfl rfl (op_rd rfl (rd_gtr rfl rfl) (gk_dec (fun h34 => ?_) (fun h34 => ?_)))
  · refine gl_op <| op_rd rfl (rd_pick_f rfl rfl) <| gl_nil <| gx_then <| gc_cond_t rfl <| gc_seq <| gc_region <| gl_op (op_rd rfl (rd_build rfl (fun _ => bd_98_)) ?_)
    refine gl_op (op_storeAgg 0 ty_98 rfl rfl rfl rfl rfl rfl (by rfl) ?_)
    refine gl_op <| op_rd rfl (rd_assign rfl) <| gl_nil <| gx_then <| gc_ret <| gx_then_ret <| gx_retV2 (.inl rfl) Tryd.results37 (rv_agg Tryd.underlying98 rfl ty_98 rfl (by rfl) (cs_blk 0 (off := 0) (k := 3) rfl rfl)) (rv_tmp rfl) [] (by decide) ?_
    refine ⟨?_, rfl⟩
    have he : checkP s = (⟨0, 0, 0⟩, 3) := by
      unfold checkP
      rw [if_pos (by unfold longB; simp; omega)]
    rw [he]
    rfl
  refine gl_op <| op_rd rfl (rd_pick_f rfl rfl) <| gl_nil <| gx_then <| gc_cond_f rfl <| gc_skip <| gx_then <| gc_seq <| gc_seq ?_
  have hlong : longB s = false := by
    unfold longB; simp; omega
  have hln : s.ds.length ≤ 6 ∧ s.rs.length ≤ 40 ∧ s.ss.length ≤ 80 ∧ s.cs.length ≤ 24 := by omega
  refine gc_region <| gl_op <| op_rd rfl (rd_assign rfl) <| gl_nil <| gx_then <| gc_block <| gc_loopF (ι := Nat) [(1, _), (2, _)] [_, _] (fun k => k ≤ s.ds.length ∧ ∀ q, q < k → dvErr s.ds q = 0) (fun k Fr0 => ((4, natV k) :: Fr0)) (fun k Fr0 => Fr0) (fun k => s.ds.length - k) 0 (⟨Nat.zero_le _, fun q hq => absurd hq (Nat.not_lt_zero q)⟩) ⟨rfl, rfl, rfl, trivial⟩ ⟨[0, 1], by decide, rfl⟩ ?_
  rintro k ⟨hkk, hall⟩
  refine gc_seq <| gc_seq <| gc_region <| gl_op <| op_rd rfl (rd_move rfl) <| gl_op <| op_rd rfl (rd_fieldAddr rfl (fa_27_0 _)) <| gl_op (op_rd rfl (rd_load Tryd.underlying22 rfl rfl (by exact ld_blk 1 rfl rfl)) ?_)
  refine gl_op <| op_rd rfl (rd_lenSlice Tryd.underlying22 rfl) <| gl_op (op_rd rfl (rd_lss rfl rfl) (gk_dec (fun h41 => ?_) (fun h41 => ?_)))
  · refine gl_nil <| gx_then <| gc_cond_t rfl <| gc_skip <| gx_then <| gc_seq <| gc_block <| gc_seq <| gc_region <| gl_op (op_rd rfl (rd_loadAgg Tryd.underlying27 rfl ty_27 rfl (by exact cs_blk 1 (off := 0) (k := 4) rfl rfl) rfl) ?_)
    refine gl_op <| op_rd rfl (rd_move rfl) <| gl_op (op_call rfl (vf := []) (vc := []) rfl rfl Tryd.call68 (fun w1 ho => rdivision_ok s hle w1 (hS.at ho) k (by omega)) ?_)
    rintro _ _ ⟨rfl, rfl⟩
    refine gl_op <| op_rd rfl (rd_assign rfl) <| gl_nil <| gx_then <| gc_seq <| gc_region <| gl_op <| op_rd rfl (rd_move rfl) <| gl_op (op_rd rfl (rd_neq rfl rfl) (gk_dec (fun h48 => ?_) (fun h48 => ?_)))
    · refine gl_nil <| gx_then <| gc_cond_t rfl <| gc_seq <| gc_region <| gl_op <| op_rd rfl (rd_move rfl) <| gl_op (op_rd rfl (rd_build rfl (fun _ => bd_98_0_1 _ _)) ?_)
      refine gl_op <| op_rd rfl (rd_move rfl) <| gl_op (op_storeAgg 0 ty_98 rfl rfl rfl rfl rfl rfl (by rfl) ?_)
      refine gl_op <| op_rd rfl (rd_assign rfl) <| gl_nil <| gx_then <| gc_ret <| gx_block_ret <| gx_then_ret <| gx_then_ret <| gx_block_ret <| gx_then_ret <| gx_retV2 (.inl rfl) Tryd.results37 (rv_agg Tryd.underlying98 rfl ty_98 rfl (by rfl) (cs_blk 0 (off := 0) (k := 3) rfl rfl)) (rv_tmp rfl) [] (by decide) ?_
      refine ⟨?_, rfl⟩
      have hX : firstO (fun i => errO (dvErr s.ds i)) s.ds.length 0 = some (k, 0, dvErr s.ds k) := firstO_stop _ _ _ 0 k (Nat.zero_le _) (by omega) (fun j _ hj => by show errO _ = none; unfold errO; rw [if_pos (hall j hj)]) (by show errO _ = _; unfold errO; rw [if_neg (by omega)])
      have he : checkP s = (⟨1, k, 0⟩, dvErr s.ds k) := by
        unfold checkP
        rw [if_neg (by rw [hlong]; decide), hX]
      rw [he]
      rfl
    refine gl_nil <| gx_then <| gc_cond_f rfl <| gc_skip <| gx_block <| gx_then <| gc_region <| gl_op <| op_rd rfl (rd_move rfl) <| gl_op (op_rd rfl (by exact rd_addN (b := 1) rfl rfl (by omega)) ?_)
    refine gl_op <| op_rd rfl (rd_assign rfl) <| gl_nil <| gx_then ?_
    exact gx_cut (k + 1) ⟨⟨by omega, fun q hq => by
      rcases Nat.lt_or_eq_of_le (Nat.le_of_lt_succ hq) with h | rfl
      · exact hall q h
      · omega⟩, by omega⟩ ⟨rfl, rfl, rfl, trivial⟩ ⟨[0, 1], by decide, rfl⟩
  refine gl_nil <| gx_then <| gc_cond_f rfl <| gc_exit <| gx_then_exit <| gx_then_exit <| gx_block_exit <| gx_then <| gc_seq <| gc_seq ?_
  have hD : firstO (fun i => errO (dvErr s.ds i)) s.ds.length 0 = none := firstO_none _ _ 0 (fun j _ hj => by show errO _ = none; unfold errO; rw [if_pos (hall j (by omega))])
  refine gc_region <| gl_op <| op_rd rfl (rd_assign rfl) <| gl_nil <| gx_then <| gc_block <| gc_loopF (ι := Nat) [(1, _), (2, _)] [_, _] (fun k1 => k1 ≤ s.rs.length ∧ ∀ q, q < k1 → rkErr s.rs q = 0) (fun k1 Fr0 => ((6, natV k1) :: Fr0)) (fun k1 Fr0 => Fr0) (fun k1 => s.rs.length - k1) 0 (⟨Nat.zero_le _, fun q hq => absurd hq (Nat.not_lt_zero q)⟩) ⟨rfl, rfl, rfl, trivial⟩ ⟨[0, 1], by decide, rfl⟩ ?_
  rintro k1 ⟨hkk1, hall1⟩
  refine gc_seq <| gc_seq <| gc_region <| gl_op <| op_rd rfl (rd_move rfl) <| gl_op <| op_rd rfl (rd_fieldAddr rfl (fa_27_1 _)) <| gl_op (op_rd rfl (rd_load Tryd.underlying23 rfl rfl (by exact ld_blk 1 rfl rfl)) ?_)
  refine gl_op <| op_rd rfl (rd_lenSlice Tryd.underlying23 rfl) <| gl_op (op_rd rfl (rd_lss rfl rfl) (gk_dec (fun h56 => ?_) (fun h56 => ?_)))
  · refine gl_nil <| gx_then <| gc_cond_t rfl <| gc_skip <| gx_then <| gc_seq <| gc_block <| gc_seq <| gc_region <| gl_op (op_rd rfl (rd_loadAgg Tryd.underlying27 rfl ty_27 rfl (by exact cs_blk 1 (off := 0) (k := 4) rfl rfl) rfl) ?_)
    refine gl_op <| op_rd rfl (rd_move rfl) <| gl_op (op_call rfl (vf := []) (vc := []) rfl rfl Tryd.call69 (fun w1 ho => rrank_ok s hle w1 (hS.at ho) k1 (by omega)) ?_)
    rintro _ _ ⟨rfl, rfl⟩
    refine gl_op <| op_rd rfl (rd_assign rfl) <| gl_nil <| gx_then <| gc_seq <| gc_region <| gl_op <| op_rd rfl (rd_move rfl) <| gl_op (op_rd rfl (rd_neq rfl rfl) (gk_dec (fun h63 => ?_) (fun h63 => ?_)))
    · refine gl_nil <| gx_then <| gc_cond_t rfl <| gc_seq <| gc_region <| gl_op <| op_rd rfl (rd_move rfl) <| gl_op (op_rd rfl (rd_build rfl (fun _ => bd_98_0_1 _ _)) ?_)
      refine gl_op <| op_rd rfl (rd_move rfl) <| gl_op (op_storeAgg 0 ty_98 rfl rfl rfl rfl rfl rfl (by rfl) ?_)
      refine gl_op <| op_rd rfl (rd_assign rfl) <| gl_nil <| gx_then <| gc_ret <| gx_block_ret <| gx_then_ret <| gx_then_ret <| gx_block_ret <| gx_then_ret <| gx_retV2 (.inl rfl) Tryd.results37 (rv_agg Tryd.underlying98 rfl ty_98 rfl (by rfl) (cs_blk 0 (off := 0) (k := 3) rfl rfl)) (rv_tmp rfl) [] (by decide) ?_
      refine ⟨?_, rfl⟩
      have hX : firstO (fun i => errO (rkErr s.rs i)) s.rs.length 0 = some (k1, 0, rkErr s.rs k1) := firstO_stop _ _ _ 0 k1 (Nat.zero_le _) (by omega) (fun j _ hj => by show errO _ = none; unfold errO; rw [if_pos (hall1 j hj)]) (by show errO _ = _; unfold errO; rw [if_neg (by omega)])
      have he : checkP s = (⟨2, k1, 0⟩, rkErr s.rs k1) := by
        unfold checkP
        rw [if_neg (by rw [hlong]; decide), hD]
        simp only
        rw [hX]
      rw [he]
      rfl
    refine gl_nil <| gx_then <| gc_cond_f rfl <| gc_skip <| gx_block <| gx_then <| gc_region <| gl_op <| op_rd rfl (rd_move rfl) <| gl_op (op_rd rfl (by exact rd_addN (b := 1) rfl rfl (by omega)) ?_)
    refine gl_op <| op_rd rfl (rd_assign rfl) <| gl_nil <| gx_then ?_
    exact gx_cut (k1 + 1) ⟨⟨by omega, fun q hq => by
      rcases Nat.lt_or_eq_of_le (Nat.le_of_lt_succ hq) with h | rfl
      · exact hall1 q h
      · omega⟩, by omega⟩ ⟨rfl, rfl, rfl, trivial⟩ ⟨[0, 1], by decide, rfl⟩
  refine gl_nil <| gx_then <| gc_cond_f rfl <| gc_exit <| gx_then_exit <| gx_then_exit <| gx_block_exit <| gx_then <| gc_seq <| gc_seq ?_
  have hR : firstO (fun i => errO (rkErr s.rs i)) s.rs.length 0 = none := firstO_none _ _ 0 (fun j _ hj => by show errO _ = none; unfold errO; rw [if_pos (hall1 j (by omega))])
  refine gc_region <| gl_op <| op_rd rfl (rd_assign rfl) <| gl_nil <| gx_then <| gc_block <| gc_loopF (ι := Nat) [(1, _), (2, _)] [_, _] (fun k2 => k2 ≤ s.ss.length ∧ ∀ q, q < k2 → stO s q = none) (fun k2 Fr0 => ((8, natV k2) :: Fr0)) (fun k2 Fr0 => Fr0) (fun k2 => s.ss.length - k2) 0 (⟨Nat.zero_le _, fun q hq => absurd hq (Nat.not_lt_zero q)⟩) ⟨rfl, rfl, rfl, trivial⟩ ⟨[0, 1], by decide, rfl⟩ ?_
  rintro k2 ⟨hkk2, hall2⟩
  refine gc_seq <| gc_seq <| gc_region <| gl_op <| op_rd rfl (rd_move rfl) <| gl_op <| op_rd rfl (rd_fieldAddr rfl (fa_27_2 _)) <| gl_op (op_rd rfl (rd_load Tryd.underlying24 rfl rfl (by exact ld_blk 1 rfl rfl)) ?_)
  refine gl_op <| op_rd rfl (rd_lenSlice Tryd.underlying24 rfl) <| gl_op (op_rd rfl (rd_lss rfl rfl) (gk_dec (fun h71 => ?_) (fun h71 => ?_)))
  · obtain ⟨x, hx⟩ := get_some (show k2 < s.ss.length by omega)
    have hxd := getD_some (d := default) hx
    have hxm := List.mem_of_getElem? hx
    have hpl := hle.p x hxm
    refine gl_nil <| gx_then <| gc_cond_t rfl <| gc_skip <| gx_then <| gc_seq <| gc_block <| gc_seq <| gc_region <| gl_op (op_rd rfl (rd_loadAgg Tryd.underlying27 rfl ty_27 rfl (by exact cs_blk 1 (off := 0) (k := 4) rfl rfl) rfl) ?_)
    refine gl_op <| op_rd rfl (rd_move rfl) <| gl_op (op_call rfl (vf := []) (vc := []) rfl rfl Tryd.call70 (fun w1 ho => rstop_ok s hle w1 (hS.at ho) k2 (by omega)) ?_)
    rintro _ _ ⟨rfl, rfl⟩
    refine gl_op <| op_rd rfl (rd_assign rfl) <| gl_nil <| gx_then <| gc_seq <| gc_seq <| gc_region <| gl_op <| op_rd rfl (rd_move rfl) <| gl_op (op_rd rfl (rd_neq rfl rfl) (gk_dec (fun h78 => ?_) (fun h78 => ?_)))
    · refine gl_nil <| gx_then <| gc_cond_t rfl <| gc_seq <| gc_region <| gl_op <| op_rd rfl (rd_move rfl) <| gl_op (op_rd rfl (rd_build rfl (fun _ => bd_98_0_1 _ _)) ?_)
      refine gl_op <| op_rd rfl (rd_move rfl) <| gl_op (op_storeAgg 0 ty_98 rfl rfl rfl rfl rfl rfl (by rfl) ?_)
      refine gl_op <| op_rd rfl (rd_assign rfl) <| gl_nil <| gx_then <| gc_ret <| gx_then_ret <| gx_block_ret <| gx_then_ret <| gx_then_ret <| gx_block_ret <| gx_then_ret <| gx_retV2 (.inl rfl) Tryd.results37 (rv_agg Tryd.underlying98 rfl ty_98 rfl (by rfl) (cs_blk 0 (off := 0) (k := 3) rfl rfl)) (rv_tmp rfl) [] (by decide) ?_
      refine ⟨?_, rfl⟩
      have hst : stO s k2 = some (0, stErr s.ds.length s.ss k2) := by unfold stO; rw [if_pos (by omega)]
      have hX : firstO (stO s) s.ss.length 0 = some (k2, 0, stErr s.ds.length s.ss k2) := firstO_stop _ _ _ 0 k2 (Nat.zero_le _) (by omega) (fun j _ hj => hall2 j hj) (hst)
      have he : checkP s = (⟨3, k2, 0⟩, stErr s.ds.length s.ss k2) := by
        unfold checkP
        rw [if_neg (by rw [hlong]; decide), hD]
        simp only
        rw [hR]
        simp only
        rw [hX]
      rw [he]
      rfl
    refine gl_nil <| gx_then <| gc_cond_f rfl <| gc_skip <| gx_then <| gc_seq ?_
    have he0 : stErr s.ds.length s.ss k2 = 0 := by omega
    have hix := stErr_idx he0
    rw [hxd] at hix
    obtain ⟨d, hdx⟩ := get_some (show x.div.toNat < s.ds.length by omega)
    have hdd := getD_some (d := default) hdx
    have hg : PGood s x d := by
      have h3 := dvBad_no (dvErr_ok (hall x.div.toNat (by omega)))
      rw [hdd] at h3
      refine ⟨hln.2.1, by omega, by omega, fun r hr => ?_, hix.1, hdx⟩
      obtain ⟨q, hq, hqr⟩ := getD_of_mem default hr
      have h5 := rkBad_no (rkErr_ok (hall1 q (by omega)))
      rw [hqr] at h5
      omega
    refine gc_region <| gl_op <| op_rd rfl (rd_assign rfl) <| gl_nil <| gx_then <| gc_block <| gc_loopF (ι := Nat) [(1, _), (2, _), (8, _)] [_, _] (fun k3 => k3 ≤ x.ps.length ∧ ∀ q, q < k3 → ptErr s.rs d (x.ps.getD q default) = 0) (fun k3 Fr0 => ((10, natV k3) :: Fr0)) (fun k3 Fr0 => Fr0) (fun k3 => x.ps.length - k3) 0 (⟨Nat.zero_le _, fun q hq => absurd hq (Nat.not_lt_zero q)⟩) ⟨rfl, rfl, rfl, rfl, trivial⟩ ⟨[0, 1], by decide, rfl⟩ ?_
    rintro k3 ⟨hkk3, hall3⟩
    refine gc_seq <| gc_seq <| gc_region <| gl_op <| op_rd rfl (rd_move rfl) <| gl_op <| op_rd rfl (rd_fieldAddr rfl (fa_27_2 _)) <| gl_op (op_rd rfl (rd_load Tryd.underlying24 rfl rfl (by exact ld_blk 1 rfl rfl)) ?_)
    refine gl_op <| op_rd rfl (rd_move rfl) <| gl_op (op_rd rfl (rd_indexOld hS.t Tryd.underlying24 ty_57 rfl rfl (by omega) (by omega)) ?_)
    refine gl_op <| op_rd rfl (rd_fieldAddr rfl (fa_57_3 _)) <| gl_op (op_rd rfl (rd_load Tryd.underlying55 rfl rfl (ld_slf hS.t (get_flat St.cells 5 (fun _ => rfl) hx (j := 4) (by decide) rfl))) ?_)
    refine gl_op <| op_rd rfl (rd_lenSlice Tryd.underlying55 rfl) <| gl_op (op_rd rfl (rd_lss rfl rfl) (gk_dec (fun h90 => ?_) (fun h90 => ?_)))
    · obtain ⟨p, hp⟩ := get_some (show k3 < x.ps.length by omega)
      have hpd := getD_some (d := default) hp
      refine gl_nil <| gx_then <| gc_cond_t rfl <| gc_skip <| gx_then <| gc_seq <| gc_block <| gc_seq <| gc_drawP [0, 1] true 16 rfl <| ga_first 0 (bm 17 1) rfl rfl rfl rfl (by kernel_rfl) (by kernel_rfl) ⟨[0, 1], by decide, rfl⟩ (qt_rd (rd_loadAgg Tryd.underlying27 rfl ty_27 rfl (by exact cs_blk 1 (off := 0) (k := 4) rfl rfl) rfl)) ?_
      refine ga_first 1 (bm 17 3) rfl rfl rfl rfl (by kernel_rfl) (by kernel_rfl) ⟨[0, 1], by decide, rfl⟩ (qt_rd (rd_fieldAddr rfl (fa_27_2 _))) ?_
      refine ga_first 2 (bm 17 7) rfl rfl rfl rfl (by kernel_rfl) (by kernel_rfl) ⟨[0, 1], by decide, rfl⟩ (qt_rd (rd_load Tryd.underlying24 rfl rfl (by exact ld_blk 1 rfl rfl))) ?_
      refine ga_first 3 (bm 17 15) rfl rfl rfl rfl (by kernel_rfl) (by kernel_rfl) ⟨[0, 1], by decide, rfl⟩ (qt_rd (rd_move rfl)) ?_
      refine ga_first 4 (bm 17 31) rfl rfl rfl rfl (by kernel_rfl) (by kernel_rfl) ⟨[0, 1], by decide, rfl⟩ (qt_rd (rd_indexOld hS.t Tryd.underlying24 ty_57 rfl rfl (by omega) (by omega))) ?_
      refine ga_first 5 (bm 17 63) rfl rfl rfl rfl (by kernel_rfl) (by kernel_rfl) ⟨[0, 1], by decide, rfl⟩ (qt_rd (rd_loadAgg Tryd.underlying57 rfl ty_57 rfl (cs_slN hS.t (flat_drop_get St.cells 5 (fun _ => rfl) hx)) rfl)) ?_
      refine ga_first 6 (bm 17 127) rfl rfl rfl rfl (by kernel_rfl) (by kernel_rfl) ⟨[0, 1], by decide, rfl⟩ (qt_rd (rd_fieldAddr rfl (fa_27_2 _))) ?_
      refine ga_first 7 (bm 17 255) rfl rfl rfl rfl (by kernel_rfl) (by kernel_rfl) ⟨[0, 1], by decide, rfl⟩ (qt_rd (rd_load Tryd.underlying24 rfl rfl (by exact ld_blk 1 rfl rfl))) ?_
      refine ga_first 8 (bm 17 511) rfl rfl rfl rfl (by kernel_rfl) (by kernel_rfl) ⟨[0, 1], by decide, rfl⟩ (qt_rd (rd_move rfl)) ?_
      refine ga_first 9 (bm 17 1023) rfl rfl rfl rfl (by kernel_rfl) (by kernel_rfl) ⟨[0, 1], by decide, rfl⟩ (qt_rd (rd_indexOld hS.t Tryd.underlying24 ty_57 rfl rfl (by omega) (by omega))) ?_
      refine ga_first 10 (bm 17 2047) rfl rfl rfl rfl (by kernel_rfl) (by kernel_rfl) ⟨[0, 1], by decide, rfl⟩ (qt_rd (rd_fieldAddr rfl (fa_57_3 _))) ?_
      refine ga_first 11 (bm 17 4095) rfl rfl rfl rfl (by kernel_rfl) (by kernel_rfl) ⟨[0, 1], by decide, rfl⟩ (qt_rd (rd_load Tryd.underlying55 rfl rfl (ld_slf hS.t (get_flat St.cells 5 (fun _ => rfl) hx (j := 4) (by decide) rfl)))) ?_
      refine ga_first 12 (bm 17 8191) rfl rfl rfl rfl (by kernel_rfl) (by kernel_rfl) ⟨[0, 1], by decide, rfl⟩ (qt_rd (rd_move rfl)) ?_
      refine ga_first 13 (bm 17 16383) rfl rfl rfl rfl (by kernel_rfl) (by kernel_rfl) ⟨[0, 1], by decide, rfl⟩ (qt_rd (rd_indexOld (hS.p x hxm) Tryd.underlying55 ty_107 rfl rfl (by omega) (by omega))) ?_
      refine ga_first 14 (bm 17 32767) rfl rfl rfl rfl (by kernel_rfl) (by kernel_rfl) ⟨[0, 1], by decide, rfl⟩ (qt_rd (rd_loadAgg Tryd.underlying107 rfl ty_107 rfl (cs_slN (hS.p x hxm) (flat_drop_get Pt.cells 4 (fun _ => rfl) hp)) rfl)) ?_
      simp only [St.cells, Pt.cells]
      refine ga_first 15 (bm 17 65535) rfl rfl rfl rfl (by kernel_rfl) (by kernel_rfl) ⟨[0, 1], by decide, rfl⟩ (qt_call (vf := []) (vc := []) rfl rfl Tryd.call71 (fun w1 ho => rpart_ok s hle w1 (hS.at ho) x p d hg) (by rintro _ _ ⟨h, _⟩; exact h)) ?_
      refine ga_first 16 (bm 17 131071) rfl rfl rfl rfl (by kernel_rfl) (by kernel_rfl) ⟨[0, 1], by decide, rfl⟩ (qt_rd (rd_assign rfl)) ?_
      refine ga_end (by kernel_rfl) (.inr ⟨[0, 1], by decide, rfl⟩) ?_
      refine gx_then <| gc_seq <| gc_region <| gl_op <| op_rd rfl (rd_move rfl) <| gl_op (op_rd rfl (rd_neq rfl rfl) (gk_dec (fun h110 => ?_) (fun h110 => ?_)))
      · refine gl_nil <| gx_then <| gc_cond_t rfl <| gc_seq <| gc_region <| gl_op <| op_rd rfl (rd_move rfl) <| gl_op <| op_rd rfl (rd_move rfl) <| gl_op (op_rd rfl (by exact rd_addN (b := 1) rfl rfl (by omega)) ?_)
        refine gl_op (op_rd rfl (rd_build rfl (fun _ => bd_98_0_1_2 _ _ _)) ?_)
        refine gl_op <| op_rd rfl (rd_move rfl) <| gl_op (op_storeAgg 0 ty_98 rfl rfl rfl rfl rfl rfl (by rfl) ?_)
        refine gl_op <| op_rd rfl (rd_assign rfl) <| gl_nil <| gx_then <| gc_ret <| gx_block_ret <| gx_then_ret <| gx_then_ret <| gx_block_ret <| gx_block_ret <| gx_then_ret <| gx_then_ret <| gx_block_ret <| gx_then_ret <| gx_retV2 (.inl rfl) Tryd.results37 (rv_agg Tryd.underlying98 rfl ty_98 rfl (by rfl) (cs_blk 0 (off := 0) (k := 3) rfl rfl)) (rv_tmp rfl) [] (by decide) ?_
        refine ⟨?_, rfl⟩
        have hst : stO s k2 = some (k3 + 1, ptErr s.rs d p) := by
          unfold stO
          rw [if_neg (by omega), hxd, hdd, firstO_stop _ (ptErr s.rs d p) _ 0 k3 (Nat.zero_le _) (by omega) (fun j _ hj => by show (if ptErr s.rs d (x.ps.getD j default) = 0 then none else some _) = none; rw [if_pos (hall3 j (by omega))]) (by show (if ptErr s.rs d (x.ps.getD k3 default) = 0 then none else some _) = _; rw [hpd, if_neg (by omega)])]
        have hX : firstO (stO s) s.ss.length 0 = some (k2, k3 + 1, ptErr s.rs d p) := firstO_stop _ _ _ 0 k2 (Nat.zero_le _) (by omega) (fun j _ hj => hall2 j hj) (hst)
        have he : checkP s = (⟨3, k2, k3 + 1⟩, ptErr s.rs d p) := by
          unfold checkP
          rw [if_neg (by rw [hlong]; decide), hD]
          simp only
          rw [hR]
          simp only
          rw [hX]
        rw [he]
        rfl
      refine gl_nil <| gx_then <| gc_cond_f rfl <| gc_skip <| gx_block <| gx_then <| gc_region <| gl_op <| op_rd rfl (rd_move rfl) <| gl_op (op_rd rfl (by exact rd_addN (b := 1) rfl rfl (by omega)) ?_)
      refine gl_op <| op_rd rfl (rd_assign rfl) <| gl_nil <| gx_then ?_
      exact gx_cut (k3 + 1) ⟨⟨by omega, fun q hq => by
        rcases Nat.lt_or_eq_of_le (Nat.le_of_lt_succ hq) with h | rfl
        · exact hall3 q h
        · rw [hpd]; omega⟩, by omega⟩ ⟨rfl, rfl, rfl, rfl, trivial⟩ ⟨[0, 1], by decide, rfl⟩
    refine gl_nil <| gx_then <| gc_cond_f rfl <| gc_exit <| gx_then_exit <| gx_then_exit <| gx_block_exit <| gx_block <| gx_then ?_
    have hst : stO s k2 = none := by
      unfold stO
      rw [if_neg (by omega), hxd, hdd, firstO_none _ _ 0 (fun j _ hj => by show (if ptErr s.rs d (x.ps.getD j default) = 0 then none else some _) = none; rw [if_pos (hall3 j (by omega))])]
    refine gc_region <| gl_op <| op_rd rfl (rd_move rfl) <| gl_op (op_rd rfl (by exact rd_addN (b := 1) rfl rfl (by omega)) ?_)
    refine gl_op <| op_rd rfl (rd_assign rfl) <| gl_nil <| gx_then ?_
    exact gx_cut (k2 + 1) ⟨⟨by omega, fun q hq => by
      rcases Nat.lt_or_eq_of_le (Nat.le_of_lt_succ hq) with h | rfl
      · exact hall2 q h
      · exact hst⟩, by omega⟩ ⟨rfl, rfl, rfl, trivial⟩ ⟨[0, 1], by decide, rfl⟩
  refine gl_nil <| gx_then <| gc_cond_f rfl <| gc_exit <| gx_then_exit <| gx_then_exit <| gx_block_exit <| gx_then <| gc_seq <| gc_seq ?_
  have hT : firstO (stO s) s.ss.length 0 = none := firstO_none _ _ 0 (fun j _ hj => hall2 j (by omega))
  refine gc_region <| gl_op <| op_rd rfl (rd_assign rfl) <| gl_nil <| gx_then <| gc_block <| gc_loopF (ι := Nat) [(1, _), (2, _)] [_, _] (fun k4 => k4 ≤ s.cs.length ∧ ∀ q, q < k4 → cpErr s.ds.length s.cs q = 0) (fun k4 Fr0 => ((12, natV k4) :: Fr0)) (fun k4 Fr0 => Fr0) (fun k4 => s.cs.length - k4) 0 (⟨Nat.zero_le _, fun q hq => absurd hq (Nat.not_lt_zero q)⟩) ⟨rfl, rfl, rfl, trivial⟩ ⟨[0, 1], by decide, rfl⟩ ?_
  rintro k4 ⟨hkk4, hall4⟩
  refine gc_seq <| gc_seq <| gc_region <| gl_op <| op_rd rfl (rd_move rfl) <| gl_op <| op_rd rfl (rd_fieldAddr rfl (fa_27_3 _)) <| gl_op (op_rd rfl (rd_load Tryd.underlying25 rfl rfl (by exact ld_blk 1 rfl rfl)) ?_)
  refine gl_op <| op_rd rfl (rd_lenSlice Tryd.underlying25 rfl) <| gl_op (op_rd rfl (rd_lss rfl rfl) (gk_dec (fun h120 => ?_) (fun h120 => ?_)))
  · refine gl_nil <| gx_then <| gc_cond_t rfl <| gc_skip <| gx_then <| gc_seq <| gc_block <| gc_seq <| gc_region <| gl_op (op_rd rfl (rd_loadAgg Tryd.underlying27 rfl ty_27 rfl (by exact cs_blk 1 (off := 0) (k := 4) rfl rfl) rfl) ?_)
    refine gl_op <| op_rd rfl (rd_move rfl) <| gl_op (op_call rfl (vf := []) (vc := []) rfl rfl Tryd.call72 (fun w1 ho => rcoupler_ok s hle w1 (hS.at ho) k4 (by omega)) ?_)
    rintro _ _ ⟨rfl, rfl⟩
    refine gl_op <| op_rd rfl (rd_assign rfl) <| gl_nil <| gx_then <| gc_seq <| gc_region <| gl_op <| op_rd rfl (rd_move rfl) <| gl_op (op_rd rfl (rd_neq rfl rfl) (gk_dec (fun h127 => ?_) (fun h127 => ?_)))
    · refine gl_nil <| gx_then <| gc_cond_t rfl <| gc_seq <| gc_region <| gl_op <| op_rd rfl (rd_move rfl) <| gl_op (op_rd rfl (rd_build rfl (fun _ => bd_98_0_1 _ _)) ?_)
      refine gl_op <| op_rd rfl (rd_move rfl) <| gl_op (op_storeAgg 0 ty_98 rfl rfl rfl rfl rfl rfl (by rfl) ?_)
      refine gl_op <| op_rd rfl (rd_assign rfl) <| gl_nil <| gx_then <| gc_ret <| gx_block_ret <| gx_then_ret <| gx_then_ret <| gx_block_ret <| gx_then_ret <| gx_retV2 (.inl rfl) Tryd.results37 (rv_agg Tryd.underlying98 rfl ty_98 rfl (by rfl) (cs_blk 0 (off := 0) (k := 3) rfl rfl)) (rv_tmp rfl) [] (by decide) ?_
      refine ⟨?_, rfl⟩
      have hX : firstO (fun i => errO (cpErr s.ds.length s.cs i)) s.cs.length 0 = some (k4, 0, cpErr s.ds.length s.cs k4) := firstO_stop _ _ _ 0 k4 (Nat.zero_le _) (by omega) (fun j _ hj => by show errO _ = none; unfold errO; rw [if_pos (hall4 j hj)]) (by show errO _ = _; unfold errO; rw [if_neg (by omega)])
      have he : checkP s = (⟨4, k4, 0⟩, cpErr s.ds.length s.cs k4) := by
        unfold checkP
        rw [if_neg (by rw [hlong]; decide), hD]
        simp only
        rw [hR]
        simp only
        rw [hT]
        simp only
        rw [hX]
      rw [he]
      rfl
    refine gl_nil <| gx_then <| gc_cond_f rfl <| gc_skip <| gx_block <| gx_then <| gc_region <| gl_op <| op_rd rfl (rd_move rfl) <| gl_op (op_rd rfl (by exact rd_addN (b := 1) rfl rfl (by omega)) ?_)
    refine gl_op <| op_rd rfl (rd_assign rfl) <| gl_nil <| gx_then ?_
    exact gx_cut (k4 + 1) ⟨⟨by omega, fun q hq => by
      rcases Nat.lt_or_eq_of_le (Nat.le_of_lt_succ hq) with h | rfl
      · exact hall4 q h
      · omega⟩, by omega⟩ ⟨rfl, rfl, rfl, trivial⟩ ⟨[0, 1], by decide, rfl⟩
  refine gl_nil <| gx_then <| gc_cond_f rfl <| gc_exit <| gx_then_exit <| gx_then_exit <| gx_block_exit <| gx_then <| gc_seq <| gc_region <| gl_op (op_rd rfl (rd_build rfl (fun _ => bd_98_)) ?_)
  refine gl_op (op_storeAgg 0 ty_98 rfl rfl rfl rfl rfl rfl (by rfl) ?_)
  refine gl_op <| op_rd rfl (rd_assign rfl) <| gl_nil <| gx_then <| gc_ret <| gx_retV2 (.inl rfl) Tryd.results37 (rv_agg Tryd.underlying98 rfl ty_98 rfl (by rfl) (cs_blk 0 (off := 0) (k := 3) rfl rfl)) (rv_tmp rfl) [] (by decide) ?_
  refine ⟨?_, rfl⟩
  have hX : firstO (fun i => errO (cpErr s.ds.length s.cs i)) s.cs.length 0 = none := firstO_none _ _ 0 (fun j _ hj => by show errO _ = none; unfold errO; rw [if_pos (hall4 j (by omega))])
  have he : checkP s = (⟨0, 0, 0⟩, 0) := by
    unfold checkP
    rw [if_neg (by rw [hlong]; decide), hD]
    simp only
    rw [hR]
    simp only
    rw [hT]
    simp only
    rw [hX]
  rw [he]
  rfl
end Go.Proofs.YtbjijbbkfgcleaaDoor
namespace Go.Proofs.YtbjijbbkfgcleaaDoor
open Go.Gv
open Go.RowKit
open Go.Sn
open Sx
namespace Sx
theorem get_z {zs : List Int} {k : Nat} {z : Int} (h : zs[k]? = some z) : (zs.map intV)[k]? = some (intV z) := by rw [List.getElem?_map, h]; rfl
theorem riseAt_bad {l : List Int} {lo hi bad z : Int} {k : Nat} (hz : l[k]? = some z) (h : z < lo ∨ hi < z) : riseAt l lo hi bad k = bad := by
  unfold riseAt; rw [getD_some hz, if_pos h]
theorem riseAt_twice {l : List Int} {lo hi bad z y : Int} {k : Nat} (hz : l[k]? = some z) (hy : l[k - 1]? = some y) (h1 : lo ≤ z) (h2 : z ≤ hi) (hk : 0 < k) (h : z ≤ y) : riseAt l lo hi bad k = 8 := by
  unfold riseAt; rw [getD_some hz, getD_some hy, if_neg (by omega), if_pos ⟨hk, h⟩]
theorem riseAt_ok {l : List Int} {lo hi bad z : Int} {k : Nat} (hz : l[k]? = some z) (h1 : lo ≤ z) (h2 : z ≤ hi) (h : 0 < k → l.getD (k - 1) 0 < z) : riseAt l lo hi bad k = 0 := by
  unfold riseAt; rw [getD_some hz, if_neg (by omega), if_neg (by rintro ⟨h3, h4⟩; have := h h3; omega)]
theorem get_row {rs : List KR} {k : Nat} {r : KR} (h : rs[k]? = some r) : (rs.map KR.cell)[k]? = some r.cell := by rw [List.getElem?_map, h]; rfl
end Sx
open Sx
set_option maxRecDepth 100000 in
set_option maxHeartbeats 1000000 in
theorem rising_ok (l : List Int) (a : Option Addr) (cp : Nat) (lo hi bad : Int) (hl : l.length ≤ 140737488355328) (hbad : bad ≠ 0) (w0 : World) (hsl : OldSl w0 [] a l.length 1 (l.map intV)) : Sp Tryd.prog 36 [.slice a l.length cp, .int .i64 lo, .int .i64 hi, .int .i64 bad] w0 [] (RV (.int .i64 (riseP l lo hi bad))) := by
  refine spec_enter Tryd.func36 rfl Tryd.ntmps36 rfl (Own.refl _) ?_
  simp only [argEnv]
  refine gc_seq <| gc_region <| gl_op <| op_rd rfl (rd_assign rfl) <| gl_nil <| gx_then <| gc_seq <| gc_seq <| gc_region <| gl_op <| op_rd rfl (rd_move rfl) <| gl_op <| op_rd rfl (rd_lenSlice Tryd.underlying29 rfl) <| gl_op <| op_rd rfl (rd_move rfl) <| gl_nil <| gx_then <| gc_block <| gc_loopF (ι := Nat) [(0, _), (1, _), (2, _), (3, _), (11, _), (12, _)] [] (fun k => k ≤ l.length ∧ ∀ j, j < k → riseAt l lo hi bad j = 0) (fun k Fr0 => ((13, natV k) :: Fr0)) (fun k Fr0 => Fr0) (fun k => l.length - k) 0 (⟨Nat.zero_le _, fun j h => absurd h (Nat.not_lt_zero j)⟩) ⟨rfl, rfl, rfl, rfl, rfl, rfl, rfl, trivial⟩ ⟨[], by decide, rfl⟩ ?_
  rintro k ⟨hk, hall⟩
  refine gc_seq <| gc_region <| gl_op (op_rd rfl (rd_lss rfl rfl) (gk_dec (fun h14 => ?_) (fun h14 => ?_)))
  · obtain ⟨z, hz⟩ := get_some (show k < l.length by omega)
    refine gl_nil <| gx_then <| gc_seq <| gc_cond_t rfl <| gc_skip <| gx_then <| gc_seq <| gc_block <| gc_seq <| gc_region <| gl_op <| op_rd rfl (rd_move rfl) <| gl_op (op_rd rfl (rd_indexOld1 hsl Tryd.underlying29 ty_3 rfl rfl (by omega) (by omega)) ?_)
    refine gl_op <| op_rd rfl (rd_load Tryd.underlying3 rfl rfl (ld_slN hsl (get_z hz))) <| gl_op <| op_rd rfl (rd_assign rfl) <| gl_op <| op_rd rfl (rd_assign rfl) <| gl_nil <| gx_then <| gc_block <| gc_seq <| gc_region <| gl_op <| op_rd rfl (rd_move rfl) <| gl_op <| op_rd rfl (rd_move rfl) <| gl_op (op_rd rfl (rd_lss rfl rfl) (gk_dec (fun h21 => ?_) (fun h21 => ?_)))
    · refine gl_op <| op_rd rfl (rd_move rfl) <| gl_no rfl rfl rfl <| gl_no rfl rfl rfl <| gl_no rfl rfl rfl <| gl_op <| op_rd rfl (rd_pick_t rfl rfl) <| gl_op <| op_rd rfl (rd_assign rfl) <| gl_nil <| gx_then <| gc_cond_t rfl <| gc_seq <| gc_region <| gl_op <| op_rd rfl (rd_move rfl) <| gl_op <| op_rd rfl (rd_assign rfl) <| gl_nil <| gx_then <| gc_ret <| gx_block_ret <| gx_block_ret <| gx_then_ret <| gx_then_ret <| gx_block_ret <| gx_then_ret <| gx_ret1 (.inl rfl) Tryd.results36 rfl [] (by decide) ?_
      refine ⟨congrArg (Value.int .i64) (Eq.symm ?_), rfl⟩
      have he : riseAt l lo hi bad k = bad := riseAt_bad hz (by omega)
      exact (riseP_stop (by omega) hall (by rw [he]; exact hbad)).trans he
    refine gl_op <| op_rd rfl (rd_move rfl) <| gl_yes rfl rfl <| op_rd rfl (rd_move rfl) <| gl_yes rfl rfl <| op_rd rfl (rd_move rfl) <| gl_yes rfl rfl (op_rd rfl (rd_gtr rfl rfl) (gk_dec (fun h25 => ?_) (fun h25 => ?_)))
    · refine gl_op <| op_rd rfl (rd_pick_f rfl rfl) <| gl_op <| op_rd rfl (rd_assign rfl) <| gl_nil <| gx_then <| gc_cond_t rfl <| gc_seq <| gc_region <| gl_op <| op_rd rfl (rd_move rfl) <| gl_op <| op_rd rfl (rd_assign rfl) <| gl_nil <| gx_then <| gc_ret <| gx_block_ret <| gx_block_ret <| gx_then_ret <| gx_then_ret <| gx_block_ret <| gx_then_ret <| gx_ret1 (.inl rfl) Tryd.results36 rfl [] (by decide) ?_
      refine ⟨congrArg (Value.int .i64) (Eq.symm ?_), rfl⟩
      have he : riseAt l lo hi bad k = bad := riseAt_bad hz (by omega)
      exact (riseP_stop (by omega) hall (by rw [he]; exact hbad)).trans he
    refine gl_op <| op_rd rfl (rd_pick_f rfl rfl) <| gl_op <| op_rd rfl (rd_assign rfl) <| gl_nil <| gx_then <| gc_cond_f rfl <| gc_seq <| gc_region <| gl_op <| op_rd rfl (rd_move rfl) <| gl_op (op_rd rfl (rd_gtr rfl rfl) (gk_dec (fun h30 => ?_) (fun h30 => ?_)))
    · obtain ⟨y, hy⟩ := get_some (show k - 1 < l.length by omega)
      refine gl_op <| op_rd rfl (rd_move rfl) <| gl_yes rfl rfl <| op_rd rfl (rd_move rfl) <| gl_yes rfl rfl <| op_rd rfl (rd_move rfl) <| gl_yes rfl rfl <| op_rd rfl (rd_move rfl) <| gl_yes rfl rfl (op_rd rfl (by exact rd_subN (b := 1) rfl rfl (by omega) (by omega)) ?_)
      refine gl_yes rfl rfl (op_rd rfl (rd_indexOld1 hsl Tryd.underlying29 ty_3 rfl rfl (by omega) (by omega)) ?_)
      refine gl_yes rfl rfl <| op_rd rfl (rd_load Tryd.underlying3 rfl rfl (ld_slN hsl (get_z hy))) <| gl_yes rfl rfl (op_rd rfl (rd_leq rfl rfl) (gk_dec (fun h38 => ?_) (fun h38 => ?_)))
      · refine gl_op <| op_rd rfl (rd_pick_t rfl rfl) <| gl_op <| op_rd rfl (rd_assign rfl) <| gl_nil <| gx_then <| gc_cond_t rfl <| gc_seq <| gc_region <| gl_op <| op_rd rfl (rd_assign rfl) <| gl_nil <| gx_then <| gc_ret <| gx_block_ret <| gx_block_ret <| gx_then_ret <| gx_then_ret <| gx_block_ret <| gx_then_ret <| gx_ret1 (.inl rfl) Tryd.results36 rfl [] (by decide) ?_
        refine ⟨congrArg (Value.int .i64) (Eq.symm ?_), rfl⟩
        have he : riseAt l lo hi bad k = 8 := riseAt_twice hz hy (by omega) (by omega) (by omega) (by omega)
        exact (riseP_stop (by omega) hall (by rw [he]; decide)).trans he
      refine gl_op <| op_rd rfl (rd_pick_t rfl rfl) <| gl_op <| op_rd rfl (rd_assign rfl) <| gl_nil <| gx_then <| gc_cond_f rfl <| gc_skip <| gx_block <| gx_block <| gx_then <| gc_region <| gl_op (op_rd rfl (by exact rd_addN (b := 1) rfl rfl (by omega)) ?_)
      refine gl_op <| op_rd rfl (rd_move rfl) <| gl_nil <| gx_then ?_
      exact gx_cut (k + 1) ⟨⟨by omega, fun j hj => by
        rcases Nat.lt_or_eq_of_le (Nat.le_of_lt_succ hj) with h | rfl
        · exact hall j h
        · exact riseAt_ok hz (by omega) (by omega) (fun _ => by rw [getD_some hy]; omega)⟩, by omega⟩ ⟨rfl, rfl, rfl, rfl, rfl, rfl, rfl, trivial⟩ ⟨[], by decide, rfl⟩
    refine gl_op <| op_rd rfl (rd_move rfl) <| gl_no rfl rfl rfl <| gl_no rfl rfl rfl <| gl_no rfl rfl rfl <| gl_no rfl rfl rfl <| gl_no rfl rfl rfl <| gl_no rfl rfl rfl <| gl_no rfl rfl rfl <| gl_op <| op_rd rfl (rd_pick_f rfl rfl) <| gl_op <| op_rd rfl (rd_assign rfl) <| gl_nil <| gx_then <| gc_cond_f rfl <| gc_skip <| gx_block <| gx_block <| gx_then <| gc_region <| gl_op (op_rd rfl (by exact rd_addN (b := 1) rfl rfl (by omega)) ?_)
    refine gl_op <| op_rd rfl (rd_move rfl) <| gl_nil <| gx_then ?_
    exact gx_cut (k + 1) ⟨⟨by omega, fun j hj => by
      rcases Nat.lt_or_eq_of_le (Nat.le_of_lt_succ hj) with h | rfl
      · exact hall j h
      · exact riseAt_ok hz (by omega) (by omega) (fun h => by omega)⟩, by omega⟩ ⟨rfl, rfl, rfl, rfl, rfl, rfl, rfl, trivial⟩ ⟨[], by decide, rfl⟩
  refine gl_nil <| gx_then <| gc_seq <| gc_cond_f rfl <| gc_exit <| gx_then_exit <| gx_then_exit <| gx_block_exit <| gx_then <| gc_seq <| gc_region <| gl_op <| op_rd rfl (rd_assign rfl) <| gl_nil <| gx_then <| gc_ret <| gx_ret1 (.inl rfl) Tryd.results36 rfl [] (by decide) ?_
  refine ⟨congrArg (Value.int .i64) (Eq.symm ?_), rfl⟩
  exact riseP_none (fun j hj => hall j (by omega))
set_option maxRecDepth 100000 in
set_option maxHeartbeats 1000000 in
theorem Check_ok (s : Org) (h : Hd) (hle : OrgLe s) (hhe : HdLe h) (w0 : World) (hS : OrgIn s w0 []) (hH : HdIn h w0 []) : Sp Tryd.prog 14 [s.val, h.val] w0 [] (RV (.int .i64 (handErr s h))) := by
  have hds := hle.d
  have hks := hhe.k
  refine spec_enter Tryd.func14 rfl Tryd.ntmps14 rfl (Own.refl _) ?_
  simp only [argEnv]
  refine gc_seq <| gc_region <| gl_op (op_box rfl rfl rfl (fun b2 => ?_))
  refine gl_op (op_box rfl rfl rfl (fun b3 => ?_))
  refine gl_op <| op_rd rfl (rd_assign rfl) <| gl_nil <| gx_then <| gc_seq <| gc_seq <| gc_region <| gl_op (op_rd rfl (rd_loadAgg Tryd.underlying27 rfl ty_27 rfl (by exact cs_blk 1 (off := 0) (k := 4) rfl rfl) rfl) ?_)
  refine gl_op (op_call rfl (vf := []) (vc := []) rfl rfl Tryd.call35 (fun w1 ho => specCheck_ok s hle w1 (hS.at ho)) ?_)
  rintro _ _ ⟨rfl, rfl⟩
  rw [checkC_eq]
  refine gl_op <| op_rd rfl (rd_move rfl) <| gl_op <| op_rd rfl (rd_extract rfl rfl) <| gl_op <| op_rd rfl (rd_extract rfl rfl) <| gl_op (op_alloc ty_98 rfl rfl (fun b5 => ?_))
  refine gl_op (op_storeAgg 0 ty_98 rfl rfl rfl rfl rfl rfl (by rfl) ?_)
  refine gl_op <| op_rd rfl (rd_assign rfl) <| gl_nil <| gx_then <| gc_seq <| gc_region <| gl_op <| op_rd rfl (rd_move rfl) <| gl_op (op_rd rfl (rd_neq rfl rfl) (gk_dec (fun h6 => ?_) (fun h6 => ?_)))
  · refine gl_nil <| gx_then <| gc_cond_t rfl <| gc_seq <| gc_region <| gl_op <| op_rd rfl (rd_move rfl) <| gl_op <| op_rd rfl (rd_assign rfl) <| gl_nil <| gx_then <| gc_ret <| gx_then_ret <| gx_ret1 (.inl rfl) Tryd.results14 rfl [] (by decide) ?_
    refine ⟨congrArg (Value.int .i64) (Eq.symm ?_), rfl⟩
    unfold handErr
    rw [if_pos (by omega)]
  refine gl_nil <| gx_then <| gc_cond_f rfl <| gc_skip <| gx_then <| gc_seq <| gc_seq <| gc_region <| gl_op <| op_rd rfl (rd_fieldAddr rfl (fa_31_0 _)) <| gl_op (op_rd rfl (rd_load Tryd.underlying28 rfl rfl (by exact ld_blk 1 rfl rfl)) ?_)
  refine gl_op <| op_rd rfl (rd_lenSlice Tryd.underlying28 rfl) <| gl_op <| op_rd rfl (rd_fieldAddr rfl (fa_27_0 _)) <| gl_op (op_rd rfl (rd_load Tryd.underlying22 rfl rfl (by exact ld_blk 2 rfl rfl)) ?_)
  refine gl_op <| op_rd rfl (rd_lenSlice Tryd.underlying22 rfl) <| gl_op (op_rd rfl (rd_neq rfl rfl) (gk_dec (fun hlen => ?_) (fun hlen => ?_)))
  · refine gl_nil <| gx_then <| gc_cond_t rfl <| gc_seq <| gc_region <| gl_op <| op_rd rfl (rd_assign rfl) <| gl_nil <| gx_then <| gc_ret <| gx_then_ret <| gx_ret1 (.inl rfl) Tryd.results14 rfl [] (by decide) ?_
    refine ⟨congrArg (Value.int .i64) (Eq.symm ?_), rfl⟩
    unfold handErr
    rw [if_neg (by omega), if_pos (by omega)]
  refine gl_nil <| gx_then <| gc_cond_f rfl <| gc_skip <| gx_then <| gc_seq <| gc_seq <| gc_region <| gl_op <| op_rd rfl (rd_fieldAddr rfl (fa_27_0 _)) <| gl_op (op_rd rfl (rd_load Tryd.underlying22 rfl rfl (by exact ld_blk 2 rfl rfl)) ?_)
  refine gl_op <| op_rd rfl (rd_lenSlice Tryd.underlying22 rfl) <| gl_op <| op_rd rfl (rd_move rfl) <| gl_nil <| gx_then <| gc_block <| gc_loopF (ι := Nat) [(2, _), (3, _), (27, _), (28, _)] [_, _, _] (fun k => k ≤ s.ds.length ∧ ∀ j, j < k → keyErr s h j = 0) (fun k Fr0 => ((29, natV k) :: Fr0)) (fun k Fr0 => Fr0) (fun k => s.ds.length - k) 0 (⟨Nat.zero_le _, fun j h => absurd h (Nat.not_lt_zero j)⟩) ⟨rfl, rfl, rfl, rfl, rfl, trivial⟩ ⟨[0, 1, 2], by decide, rfl⟩ ?_
  rintro k ⟨hk, hall⟩
  refine gc_seq <| gc_region <| gl_op (op_rd rfl (rd_lss rfl rfl) (gk_dec (fun hlt => ?_) (fun hlt => ?_)))
  · obtain ⟨d, hd⟩ := get_some (show k < s.ds.length by omega)
    obtain ⟨r, hr⟩ := get_some (show k < h.ks.length by omega)
    have hrm := List.mem_of_getElem? hr
    have hke : keyErr s h k = riseP r.ks d.lo d.hi 7 := by unfold keyErr; rw [getD_some hr, getD_some hd]
    refine gl_nil <| gx_then <| gc_seq <| gc_cond_t rfl <| gc_skip <| gx_then <| gc_seq <| gc_block <| gc_seq <| gc_region <| gl_op <| op_rd rfl (rd_move rfl) <| gl_op (op_rd rfl (rd_indexOld hS.d Tryd.underlying22 ty_65 rfl rfl (by omega) (by omega)) ?_)
    refine gl_op (op_rd rfl (rd_loadAgg Tryd.underlying65 rfl ty_65 rfl (cs_slN hS.d (flat_drop_get Dv.cells 3 (fun _ => rfl) hd)) rfl) ?_)
    refine gl_op (op_alloc ty_65 rfl rfl (fun b8 => ?_))
    refine gl_op <| op_rd rfl (rd_assign rfl) <| gl_op (op_storeAgg 0 ty_65 rfl rfl rfl rfl rfl rfl (by rfl) ?_)
    refine gl_nil <| gx_then <| gc_seq <| gc_drawP [0, 1, 2, 3] true 10 rfl <| ga_first 0 (bm 11 1) rfl rfl rfl rfl (by kernel_rfl) (by kernel_rfl) ⟨[0, 1, 2, 3], by decide, rfl⟩ (qt_rd (rd_fieldAddr rfl (fa_31_0 _))) ?_
    refine ga_first 1 (bm 11 3) rfl rfl rfl rfl (by kernel_rfl) (by kernel_rfl) ⟨[0, 1, 2, 3], by decide, rfl⟩ (qt_rd (rd_load Tryd.underlying28 rfl rfl (by exact ld_blk 2 rfl rfl))) ?_
    refine ga_first 2 (bm 11 7) rfl rfl rfl rfl (by kernel_rfl) (by kernel_rfl) ⟨[0, 1, 2, 3], by decide, rfl⟩ (qt_rd (rd_move rfl)) ?_
    refine ga_first 3 (bm 11 15) rfl rfl rfl rfl (by kernel_rfl) (by kernel_rfl) ⟨[0, 1, 2, 3], by decide, rfl⟩ (qt_rd (rd_indexOld1 hH.k Tryd.underlying28 ty_29 rfl rfl (by omega) (by omega))) ?_
    refine ga_first 4 (bm 11 31) rfl rfl rfl rfl (by kernel_rfl) (by kernel_rfl) ⟨[0, 1, 2, 3], by decide, rfl⟩ (qt_rd (rd_load Tryd.underlying29 rfl rfl (ld_slN hH.k (get_row hr)))) ?_
    refine ga_first 5 (bm 11 63) rfl rfl rfl rfl (by kernel_rfl) (by kernel_rfl) ⟨[0, 1, 2, 3], by decide, rfl⟩ (qt_rd (rd_fieldAddr rfl (fa_65_1 _))) ?_
    refine ga_first 6 (bm 11 127) rfl rfl rfl rfl (by kernel_rfl) (by kernel_rfl) ⟨[0, 1, 2, 3], by decide, rfl⟩ (qt_rd (rd_load Tryd.underlying3 rfl rfl (by exact ld_blk 0 rfl rfl))) ?_
    refine ga_first 7 (bm 11 255) rfl rfl rfl rfl (by kernel_rfl) (by kernel_rfl) ⟨[0, 1, 2, 3], by decide, rfl⟩ (qt_rd (rd_fieldAddr rfl (fa_65_2 _))) ?_
    refine ga_first 8 (bm 11 511) rfl rfl rfl rfl (by kernel_rfl) (by kernel_rfl) ⟨[0, 1, 2, 3], by decide, rfl⟩ (qt_rd (rd_load Tryd.underlying3 rfl rfl (by exact ld_blk 0 rfl rfl))) ?_
    simp only [KR.cell]
    refine ga_first 9 (bm 11 1023) rfl rfl rfl rfl (by kernel_rfl) (by kernel_rfl) ⟨[0, 1, 2, 3], by decide, rfl⟩ (qt_call (vf := []) (vc := []) rfl rfl Tryd.call36 (fun w1 ho => rising_ok r.ks r.a r.c d.lo d.hi 7 (hhe.r r hrm) (by decide) w1 ((hH.r r hrm).at ho)) (by rintro _ _ ⟨h, _⟩; exact h)) ?_
    refine ga_first 10 (bm 11 2047) rfl rfl rfl rfl (by kernel_rfl) (by kernel_rfl) ⟨[0, 1, 2, 3], by decide, rfl⟩ (qt_rd (rd_assign rfl)) ?_
    refine ga_end (by kernel_rfl) (.inr ⟨[0, 1, 2, 3], by decide, rfl⟩) ?_
    refine gx_then <| gc_seq <| gc_region <| gl_op <| op_rd rfl (rd_move rfl) <| gl_op (op_rd rfl (rd_neq rfl rfl) (gk_dec (fun hk7 => ?_) (fun hk7 => ?_)))
    · refine gl_nil <| gx_then <| gc_cond_t rfl <| gc_seq <| gc_region <| gl_op <| op_rd rfl (rd_move rfl) <| gl_op <| op_rd rfl (rd_assign rfl) <| gl_nil <| gx_then <| gc_ret <| gx_block_ret <| gx_then_ret <| gx_then_ret <| gx_block_ret <| gx_then_ret <| gx_ret1 (.inl rfl) Tryd.results14 rfl [] (by decide) ?_
      refine ⟨congrArg (Value.int .i64) (Eq.symm ?_), rfl⟩
      unfold handErr
      rw [if_neg (by omega), if_neg (by omega), firstO_stop _ (0, riseP r.ks d.lo d.hi 7) _ 0 k (Nat.zero_le _) (by omega) (fun j _ hj => by show errO _ = none; unfold errO; rw [if_pos (hall j hj)]) (by show errO _ = _; unfold errO; rw [hke, if_neg (by omega)])]
    refine gl_nil <| gx_then <| gc_cond_f rfl <| gc_skip <| gx_block <| gx_then <| gc_region <| gl_op (op_rd rfl (by exact rd_addN (b := 1) rfl rfl (by omega)) ?_)
    refine gl_op <| op_rd rfl (rd_move rfl) <| gl_nil <| gx_then ?_
    exact gx_cut (k + 1) ⟨⟨by omega, fun j hj => by
      rcases Nat.lt_or_eq_of_le (Nat.le_of_lt_succ hj) with h | rfl
      · exact hall j h
      · rw [hke]; omega⟩, by omega⟩ ⟨rfl, rfl, rfl, rfl, rfl, trivial⟩ ⟨[1, 2, 3], by decide, rfl⟩
  refine gl_nil <| gx_then <| gc_seq <| gc_cond_f rfl <| gc_exit <| gx_then_exit <| gx_then_exit <| gx_block_exit <| gx_then <| gc_seq <| gc_seq <| gc_region <| gl_op <| op_rd rfl (rd_fieldAddr rfl (fa_31_1 _)) <| gl_op (op_rd rfl (rd_load Tryd.underlying29 rfl rfl (by exact ld_blk 1 rfl rfl)) ?_)
  refine gl_op <| op_rd rfl (rd_fieldAddr rfl (fa_27_2 _)) <| gl_op (op_rd rfl (rd_load Tryd.underlying24 rfl rfl (by exact ld_blk 2 rfl rfl)) ?_)
  refine gl_op <| op_rd rfl (rd_lenSlice Tryd.underlying24 rfl) ?_
  have hle1 := hle.t
  refine gl_op (op_rd rfl (rd_sub rfl rfl (by omega) (by omega)) ?_)
  refine gl_op (op_call rfl (vf := []) (vc := []) rfl rfl Tryd.call36 (fun w1 ho => rising_ok h.ss h.sa h.sc 0 _ 4 hhe.t (by decide) w1 (hH.t.at ho)) ?_)
  rintro _ _ ⟨rfl, rfl⟩
  refine gl_op <| op_rd rfl (rd_assign rfl) <| gl_nil <| gx_then <| gc_seq <| gc_region <| gl_op <| op_rd rfl (rd_move rfl) <| gl_op (op_rd rfl (rd_neq rfl rfl) (gk_dec (fun hst => ?_) (fun hst => ?_)))
  · refine gl_nil <| gx_then <| gc_cond_t rfl <| gc_seq <| gc_region <| gl_op <| op_rd rfl (rd_move rfl) <| gl_op <| op_rd rfl (rd_assign rfl) <| gl_nil <| gx_then <| gc_ret <| gx_then_ret <| gx_ret1 (.inl rfl) Tryd.results14 rfl [] (by decide) ?_
    refine ⟨congrArg (Value.int .i64) (Eq.symm ?_), rfl⟩
    unfold handErr
    rw [if_neg (by omega), if_neg (by omega), firstO_none _ _ 0 (fun j _ hj => by show errO _ = none; unfold errO; rw [if_pos (hall j (by omega))])]
    simp only
    rw [if_pos (by omega)]
  refine gl_nil <| gx_then <| gc_cond_f rfl <| gc_skip <| gx_then <| gc_seq <| gc_region <| gl_op <| op_rd rfl (rd_fieldAddr rfl (fa_31_2 _)) <| gl_op (op_rd rfl (rd_load Tryd.underlying29 rfl rfl (by exact ld_blk 1 rfl rfl)) ?_)
  refine gl_op <| op_rd rfl (rd_fieldAddr rfl (fa_27_3 _)) <| gl_op (op_rd rfl (rd_load Tryd.underlying25 rfl rfl (by exact ld_blk 2 rfl rfl)) ?_)
  refine gl_op <| op_rd rfl (rd_lenSlice Tryd.underlying25 rfl) ?_
  have hle2 := hle.c
  refine gl_op (op_rd rfl (rd_sub rfl rfl (by omega) (by omega)) ?_)
  refine gl_op (op_call rfl (vf := []) (vc := []) rfl rfl Tryd.call36 (fun w1 ho => rising_ok h.cs h.ca h.cc 0 _ 4 hhe.c (by decide) w1 (hH.c.at ho)) ?_)
  rintro _ _ ⟨rfl, rfl⟩
  refine gl_op <| op_rd rfl (rd_assign rfl) <| gl_nil <| gx_then <| gc_ret <| gx_ret1 (.inl rfl) Tryd.results14 rfl [] (by decide) ?_
  refine ⟨congrArg (Value.int .i64) (Eq.symm ?_), rfl⟩
  unfold handErr
  rw [if_neg (by omega), if_neg (by omega), firstO_none _ _ 0 (fun j _ hj => by show errO _ = none; unfold errO; rw [if_pos (hall j (by omega))])]
  simp only
  rw [if_neg (by omega)]
set_option maxRecDepth 100000 in
set_option maxHeartbeats 1000000 in
theorem SameInts_ok (xs ys : List Int) (a b : Option Addr) (ca cb : Nat) (hxl : xs.length ≤ 140737488355328) (w0 : World) (hx : OldSl w0 [] a xs.length 1 (xs.map intV)) (hy : OldSl w0 [] b ys.length 1 (ys.map intV)) : Sp Tryd.prog 16 [.slice a xs.length ca, .slice b ys.length cb] w0 [] (RV (.bool (decide (xs = ys)))) := by
  refine spec_enter Tryd.func16 rfl Tryd.ntmps16 rfl (Own.refl _) ?_
  simp only [argEnv]
  refine gc_seq <| gc_region <| gl_op <| op_rd rfl (rd_assign rfl) <| gl_nil <| gx_then <| gc_seq <| gc_seq <| gc_region <| gl_op <| op_rd rfl (rd_move rfl) <| gl_op <| op_rd rfl (rd_lenSlice Tryd.underlying29 rfl) <| gl_op <| op_rd rfl (rd_move rfl) <| gl_op <| op_rd rfl (rd_lenSlice Tryd.underlying29 rfl) <| gl_op (op_rd rfl (rd_neq rfl rfl) (gk_dec (fun h10 => ?_) (fun h10 => ?_)))
  · refine gl_nil <| gx_then <| gc_cond_t rfl <| gc_seq <| gc_region <| gl_op <| op_rd rfl (rd_assign rfl) <| gl_nil <| gx_then <| gc_ret <| gx_then_ret <| gx_ret1 (.inl rfl) Tryd.results16 rfl [] (by decide) ?_
    refine ⟨congrArg Value.bool (Eq.symm ?_), rfl⟩
    exact decide_eq_false (fun e => by subst e; omega)
  refine gl_nil <| gx_then <| gc_cond_f rfl <| gc_skip <| gx_then <| gc_seq <| gc_seq <| gc_region <| gl_op <| op_rd rfl (rd_assign rfl) <| gl_nil <| gx_then <| gc_block <| gc_loopF (ι := Nat) [(0, _), (1, _)] [] (fun k => k ≤ xs.length ∧ xs.take k = ys.take k) (fun k Fr0 => ((5, natV k) :: Fr0)) (fun k Fr0 => Fr0) (fun k => xs.length - k) 0 (⟨Nat.zero_le _, rfl⟩) ⟨rfl, rfl, rfl, trivial⟩ ⟨[], by decide, rfl⟩ ?_
  rintro k ⟨hk, htk⟩
  refine gc_seq <| gc_seq <| gc_region <| gl_op <| op_rd rfl (rd_move rfl) <| gl_op <| op_rd rfl (rd_move rfl) <| gl_op <| op_rd rfl (rd_lenSlice Tryd.underlying29 rfl) <| gl_op (op_rd rfl (rd_lss rfl rfl) (gk_dec (fun h14 => ?_) (fun h14 => ?_)))
  · obtain ⟨u, hu⟩ := get_some (show k < xs.length by omega)
    obtain ⟨v, hv⟩ := get_some (show k < ys.length by omega)
    refine gl_nil <| gx_then <| gc_cond_t rfl <| gc_skip <| gx_then <| gc_seq <| gc_block <| gc_seq <| gc_drawP [] true 8 rfl <| ga_first 0 (bm 9 1) rfl rfl rfl rfl (by kernel_rfl) (by kernel_rfl) ⟨[], by decide, rfl⟩ (qt_rd (rd_move rfl)) ?_
    refine ga_first 1 (bm 9 3) rfl rfl rfl rfl (by kernel_rfl) (by kernel_rfl) ⟨[], by decide, rfl⟩ (qt_rd (rd_move rfl)) ?_
    refine ga_first 2 (bm 9 7) rfl rfl rfl rfl (by kernel_rfl) (by kernel_rfl) ⟨[], by decide, rfl⟩ (qt_rd (rd_indexOld1 hx Tryd.underlying29 ty_3 rfl rfl (by omega) (by omega))) ?_
    refine ga_first 3 (bm 9 15) rfl rfl rfl rfl (by kernel_rfl) (by kernel_rfl) ⟨[], by decide, rfl⟩ (qt_rd (rd_load Tryd.underlying3 rfl rfl (ld_slN hx (get_z hu)))) ?_
    refine ga_first 4 (bm 9 31) rfl rfl rfl rfl (by kernel_rfl) (by kernel_rfl) ⟨[], by decide, rfl⟩ (qt_rd (rd_move rfl)) ?_
    refine ga_first 5 (bm 9 63) rfl rfl rfl rfl (by kernel_rfl) (by kernel_rfl) ⟨[], by decide, rfl⟩ (qt_rd (rd_move rfl)) ?_
    refine ga_first 6 (bm 9 127) rfl rfl rfl rfl (by kernel_rfl) (by kernel_rfl) ⟨[], by decide, rfl⟩ (qt_rd (rd_indexOld1 hy Tryd.underlying29 ty_3 rfl rfl (by omega) (by omega))) ?_
    refine ga_first 7 (bm 9 255) rfl rfl rfl rfl (by kernel_rfl) (by kernel_rfl) ⟨[], by decide, rfl⟩ (qt_rd (rd_load Tryd.underlying3 rfl rfl (ld_slN hy (get_z hv)))) ?_
    refine ga_first 8 (bm 9 511) rfl rfl rfl rfl (by kernel_rfl) (by kernel_rfl) ⟨[], by decide, rfl⟩ (qt_rd (rd_neq rfl rfl)) (gk_dec (fun h25 => ?_) (fun h25 => ?_))
    · refine ga_end (by kernel_rfl) (.inr ⟨[], by decide, rfl⟩) ?_
      refine gx_then <| gc_cond_t rfl <| gc_seq <| gc_region <| gl_op <| op_rd rfl (rd_assign rfl) <| gl_nil <| gx_then <| gc_ret <| gx_block_ret <| gx_then_ret <| gx_then_ret <| gx_block_ret <| gx_then_ret <| gx_ret1 (.inl rfl) Tryd.results16 rfl [] (by decide) ?_
      refine ⟨congrArg Value.bool (Eq.symm ?_), rfl⟩
      exact decide_eq_false (fun e => by subst e; rw [hu] at hv; cases hv; omega)
    refine ga_end (by kernel_rfl) (.inr ⟨[], by decide, rfl⟩) ?_
    refine gx_then <| gc_cond_f rfl <| gc_skip <| gx_block <| gx_then <| gc_region <| gl_op <| op_rd rfl (rd_move rfl) <| gl_op (op_rd rfl (by exact rd_addN (b := 1) rfl rfl (by omega)) ?_)
    refine gl_op <| op_rd rfl (rd_assign rfl) <| gl_nil <| gx_then ?_
    exact gx_cut (k + 1) ⟨⟨by omega, by rw [take_at hu, take_at hv, htk, show u = v by omega]⟩, by omega⟩ ⟨rfl, rfl, rfl, trivial⟩ ⟨[], by decide, rfl⟩
  refine gl_nil <| gx_then <| gc_cond_f rfl <| gc_exit <| gx_then_exit <| gx_then_exit <| gx_block_exit <| gx_then <| gc_seq <| gc_region <| gl_op <| op_rd rfl (rd_assign rfl) <| gl_nil <| gx_then <| gc_ret <| gx_ret1 (.inl rfl) Tryd.results16 rfl [] (by decide) ?_
  refine ⟨congrArg Value.bool (Eq.symm ?_), rfl⟩
  rw [List.take_of_length_le (by omega), List.take_of_length_le (by omega)] at htk
  exact decide_eq_true htk
end Go.Proofs.YtbjijbbkfgcleaaDoor
namespace Go.Proofs.YtbjijbbkfgcleaaDoor
open Go.Gv
open Go.RowKit
open Go.Sn
open Sx
namespace Sx
def setC (X : Nat) : List Value := [.int .u64 ((loW X : Nat) : Int), .int .u64 ((hiW X : Nat) : Int)]
theorem setC_at (X i : Nat) (hi : i < 2) : (setC X)[i]? = some (.int .u64 ((wordOf X i : Nat) : Int)) := by
  rcases (show i = 0 ∨ i = 1 by omega) with rfl | rfl <;> rfl
theorem setC_set {X n : Nat} (hn : n < 128) : (setC X).set (n / 64) (.int .u64 ((wordOf X (n / 64) ||| 2 ^ (n % 64) : Nat) : Int)) = setC (X ||| 2 ^ n) := by
  by_cases h : n < 64
  · rw [Nat.div_eq_of_lt h, Nat.mod_eq_of_lt h]
    simp [setC, wordOf, lo_or h, hi_or h]
  · rw [show n / 64 = 1 by omega, show n % 64 = n - 64 by omega]
    simp [setC, wordOf, lo_or' (show 64 ≤ n by omega), hi_or' (show 64 ≤ n by omega)]
theorem flat_setOne {α : Type} (f : α → List Value) (m : Nat) (hf : ∀ x, (f x).length = m) {j : Nat} {v : Value} (hj : j < m) : ∀ (zs : List α) (k : Nat) (x x' : α), zs[k]? = some x → (f x).set j v = f x' → (zs.flatMap f).set (k * m + j) v = (zs.set k x').flatMap f
  | [], k, x, x', hx, _ => by simp at hx
  | z :: zs, 0, x, x', hx, h => by
    simp only [List.getElem?_cons_zero, Option.some.injEq] at hx
    subst hx
    rw [Nat.zero_mul, Nat.zero_add, List.set_cons_zero, List.flatMap_cons, List.flatMap_cons, ← h, List.set_append_left _ _ (by rw [hf]; exact hj)]
  | z :: zs, k + 1, x, x', hx, h => by
    have ih := flat_setOne f m hf hj zs k x x' (by simpa using hx) h
    rw [List.set_cons_succ, List.flatMap_cons, List.flatMap_cons, List.set_append_right _ _ (by rw [hf, Nat.add_mul]; omega), ← ih]
    congr 2
    rw [hf, Nat.add_mul]; omega
theorem wordOf_lt {X i : Nat} (hX : X < 2 ^ 128) : wordOf X i < 18446744073709551616 := by
  unfold wordOf; split
  · exact loW_lt X
  · exact hiW_lt hX
/-- Go's table in memory -/
def TabIn (w : World) : Prop := ∀ i, i < 64 → w.cell? ((⟨0, 0, none⟩ : Addr).add i) = some (.int .u8 ((tab64.getD i 0 : Nat) : Int))
theorem TabIn.lt {w : World} (h : TabIn w) : 0 < w.heap.size := cell_lt (h 0 (by decide))
theorem TabIn.at {w0 w : World} {S : List Nat} {l : List HL} (h : TabIn w0) (ho : Own w0 S w l) (hS : 0 ∉ S) : TabIn w := fun i hi => ho.cellOld (h i hi) (by rw [block_add]; exact hS)
theorem pow_mod_lt (n : Nat) : 1 * 2 ^ (n % 64) < 18446744073709551616 := by
  rw [Nat.one_mul]
  exact Nat.pow_lt_pow_right (by decide) (show n % 64 < 64 by omega)
end Sx
open Sx
set_option maxRecDepth 100000 in
set_option maxHeartbeats 1000000 in
theorem add_ok (sets : List Nat) (d n b cap nn : Nat) (hnn : sets.length = nn) (hd : d < sets.length) (hn : n < 128) (hlt : ∀ x ∈ sets, x < 2 ^ 128) (w0 : World) (hown : Own w0 [b] w0 [.row 90 2 (some b) nn cap (sets.flatMap setC)]) : Sp Tryd.prog 48 [.pointer (some ⟨b, d * 2, none⟩), natV n] w0 [b] (fun v L => v = .tuple #[] ∧ L = [.row 90 2 (some b) nn cap ((addSet sets (d, n)).flatMap setC)]) := by
  obtain ⟨X, hX⟩ := get_some hd
  have hXl := hlt X (List.mem_of_getElem? hX)
  refine spec_enter Tryd.func48 rfl Tryd.ntmps48 rfl hown ?_
  simp only [argEnv]
  refine gc_drawP [0] false 12 rfl <| ga_first 0 (bm 13 1) rfl rfl rfl rfl (by kernel_rfl) (by kernel_rfl) ⟨[0], by decide, rfl⟩ (qt_rd (rd_move rfl)) ?_
  refine ga_first 1 (bm 13 3) rfl rfl rfl rfl (by kernel_rfl) (by kernel_rfl) ⟨[0], by decide, rfl⟩ (qt_rd (rd_move rfl)) ?_
  refine ga_first 2 (bm 13 7) rfl rfl rfl rfl (by kernel_rfl) (by kernel_rfl) ⟨[0], by decide, rfl⟩ (qt_rd (by exact rd_quoN (b := 64) rfl rfl (by omega) (by omega))) ?_
  refine ga_first 3 (bm 13 15) rfl rfl rfl rfl (by kernel_rfl) (by kernel_rfl) ⟨[0], by decide, rfl⟩ (qt_rd (rd_nilCheck rfl)) ?_
  refine ga_first 4 (bm 13 31) rfl rfl rfl rfl (by kernel_rfl) (by kernel_rfl) ⟨[0], by decide, rfl⟩ (qt_rd (rd_indexArrN Tryd.underlying90 ty_88 rfl rfl (by omega))) ?_
  refine ga_first 5 (bm 13 63) rfl rfl rfl rfl (by kernel_rfl) (by kernel_rfl) ⟨[0], by decide, rfl⟩ (qt_rd (rd_load Tryd.underlying88 rfl rfl (ld_row 0 (a := some b) rfl (get_flat setC 2 (fun _ => rfl) hX (j := n / 64) (by omega) (setC_at X (n / 64) (by omega)))))) ?_
  refine ga_first 6 (bm 13 127) rfl rfl rfl rfl (by kernel_rfl) (by kernel_rfl) ⟨[0], by decide, rfl⟩ (qt_rd (rd_move rfl)) ?_
  refine ga_first 7 (bm 13 255) rfl rfl rfl rfl (by kernel_rfl) (by kernel_rfl) ⟨[0], by decide, rfl⟩ (qt_rd (by exact rd_remN (b := 64) rfl rfl (by omega))) ?_
  refine ga_first 8 (bm 13 511) rfl rfl rfl rfl (by kernel_rfl) (by kernel_rfl) ⟨[0], by decide, rfl⟩ (qt_rd (rd_shlU (a := 1) (b := n % 64) (c := 2 ^ (n % 64)) rfl rfl (by omega) (pow_mod_lt n) (by rw [Nat.shiftLeft_eq, Nat.one_mul]))) ?_
  refine ga_first 9 (bm 13 1023) rfl rfl rfl rfl (by kernel_rfl) (by kernel_rfl) ⟨[0], by decide, rfl⟩ (qt_rd (rd_orU (a := wordOf X (n / 64)) (b := 2 ^ (n % 64)) rfl rfl (wordOf_lt hXl) (by have := pow_mod_lt n; omega) rfl)) ?_
  refine ga_only 10 (bm 13 2047) rfl rfl (by kernel_rfl) (by kernel_rfl) (.inr ⟨[0], by decide, rfl⟩) (op_rd rfl (rd_nilCheck rfl) ?_)
  refine ga_first 11 (bm 13 4095) rfl rfl rfl rfl (by kernel_rfl) (by kernel_rfl) ⟨[0], by decide, rfl⟩ (qt_rd (rd_indexArrN Tryd.underlying90 ty_88 rfl rfl (by omega))) ?_
  refine ga_only 12 (bm 13 8191) rfl rfl (by kernel_rfl) (by kernel_rfl) (.inr ⟨[0], by decide, rfl⟩) (op_storeRowE 0 ty_88 rfl rfl rfl rfl (by rw [flat_len setC 2 (fun _ => rfl)]; omega) (show (sets.flatMap setC).set (d * 2 + n / 64) _ = (sets.set d (X ||| 2 ^ n)).flatMap setC from flat_setOne setC 2 (fun _ => rfl) (by omega) sets d X _ hX (setC_set hn)) (by rfl) ?_)
  refine ga_end (by kernel_rfl) (.inl (by kernel_rfl)) ?_
  refine gx_ret0 (.inr rfl) Tryd.results48 [0] (by decide) ?_
  refine ⟨rfl, ?_⟩
  unfold addSet
  rw [getD_some hX]
  rfl
set_option maxRecDepth 100000 in
set_option maxHeartbeats 1000000 in
theorem hasSet_ok (X n : Nat) (hX : X < 2 ^ 128) (hn : n < 128) (w0 : World) : Sp Tryd.prog 50 [.agg #[.int .u64 ((loW X : Nat) : Int), .int .u64 ((hiW X : Nat) : Int)], natV n] w0 [] (RV (.bool (X.testBit n))) := by
  refine spec_enter Tryd.func50 rfl Tryd.ntmps50 rfl (Own.refl _) ?_
  simp only [argEnv]
  refine gc_seq <| gc_region <| gl_op (op_box rfl rfl rfl (fun b2 => ?_))
  refine gl_op <| op_rd rfl (rd_assign rfl) <| gl_nil <| gx_then <| gc_seq <| gc_region <| gl_op <| op_rd rfl (rd_move rfl) <| gl_op (op_rd rfl (by exact rd_quoN (b := 64) rfl rfl (by omega) (by omega)) ?_)
  refine gl_op (op_rd rfl (rd_indexArr Tryd.underlying90 ty_88 rfl rfl (by omega) (by omega)) ?_)
  refine gl_op (op_rd rfl (rd_load Tryd.underlying88 rfl rfl (fun w ho => ho.blkCells 0 rfl (n / 64) _ (setC_at X (n / 64) (by omega)))) ?_)
  refine gl_op <| op_rd rfl (rd_move rfl) <| gl_op (op_rd rfl (by exact rd_remN (b := 64) rfl rfl (by omega)) ?_)
  refine gl_op <| op_rd rfl (rd_shrU (a := wordOf X (n / 64)) (b := n % 64) rfl rfl (wordOf_lt hX) rfl) <| gl_op (op_rd rfl (rd_andU (a := wordOf X (n / 64) >>> (n % 64)) (b := 1) rfl rfl (Nat.lt_of_le_of_lt (Nat.shiftRight_le _ _) (wordOf_lt hX)) (by decide) rfl) ?_)
  refine gl_op <| op_rd rfl (rd_eql rfl rfl) <| gl_op <| op_rd rfl (rd_assign rfl) <| gl_nil <| gx_then <| gc_ret <| gx_ret1 (.inl rfl) Tryd.results50 rfl [] (by decide) ?_
  refine ⟨congrArg Value.bool ?_, rfl⟩
  rw [Bool.eq_iff_iff, decide_eq_true_eq, ← has_bit hn]
  omega
set_option maxRecDepth 100000 in
set_option maxHeartbeats 1000000 in
theorem tz_ok (W : Nat) (h0 : 0 < W) (hW : W < 18446744073709551616) (w0 : World) (hT : TabIn w0) : Sp Tryd.prog 74 [.int .u64 (W : Int)] w0 [] (RV (natV (tz 64 W))) := by
  obtain ⟨hb1, hb2, hb3⟩ := tz_bit 64 W h0 (by rw [← p64]; exact hW)
  obtain ⟨k, hk⟩ : ∃ k, tz 64 W = k := ⟨_, rfl⟩
  rw [hk] at hb1 hb2 hb3 ⊢
  clear hk
  obtain ⟨ht1, ht2⟩ := tab64_at ⟨k, hb3⟩
  simp only at ht1 ht2
  obtain ⟨x, hx⟩ : ∃ x, dbIx k = x := ⟨_, rfl⟩
  rw [hx] at ht1 ht2
  refine spec_enter Tryd.func74 rfl Tryd.ntmps74 rfl (Own.refl _) ?_
  simp only [argEnv]
  refine gc_seq <| gc_region <| gl_op <| op_rd rfl (rd_assign rfl) <| gl_nil <| gx_then <| gc_seq <| gc_seq <| gc_region <| gl_op <| op_rd rfl (rd_move rfl) <| gl_op (op_rd rfl (rd_eql rfl rfl) (gk_dec (fun h4 => ?_) (fun h4 => ?_)))
  · exfalso; omega
  refine gl_nil <| gx_then <| gc_cond_f rfl <| gc_skip <| gx_then <| gc_seq <| gc_region <| gl_op <| op_rd rfl (rd_move rfl) <| gl_op <| op_rd rfl (rd_move rfl) <| gl_op <| op_rd rfl (rd_negU rfl h0 hW) <| gl_op (op_rd rfl (rd_andU (a := W) (b := 18446744073709551616 - W) (c := 2 ^ k) rfl rfl hW (by omega) (and_neg h0 hW hb1 hb2)) ?_)
  refine gl_op <| op_rd rfl (rd_mulUw (a := 2 ^ k) (b := 285870213051353865) rfl rfl rfl) <| gl_op (op_rd rfl (rd_shrU (b := 58) (c := x) rfl rfl (Nat.mod_lt _ (by decide)) hx) ?_)
  refine gl_op (op_rd rfl (rd_indexArr (ad := ⟨0, 0, none⟩) Tryd.underlying162 ty_5 rfl rfl (by omega) (by omega)) ?_)
  refine gl_op (op_rd rfl (rd_load Tryd.underlying5 rfl rfl (fun w ho => ho.cellOld (hT _ ht1) (by simp))) ?_)
  refine gl_op (op_rd rfl (rd_conv Tryd.runUnderlying5 Tryd.runUnderlying3 rfl (by simp only [Int.toNat_natCast]; rw [ht2]; exact wrap_i64_nat (by omega) : IntKind.i64.wrap _ = ((k : Nat) : Int))) ?_)
  refine gl_op <| op_rd rfl (rd_assign rfl) <| gl_nil <| gx_then <| gc_ret <| gx_ret1 (.inl rfl) Tryd.results74 rfl [] (by decide) ?_
  exact ⟨rfl, rfl⟩
end Go.Proofs.YtbjijbbkfgcleaaDoor
namespace Go.Proofs.YtbjijbbkfgcleaaDoor
open Go.Gv
open Go.RowKit
open Go.Sn
open Sx
namespace Sx
def restW (X i W : Nat) : List Nat := (bits64 W).map (64 * i + ·) ++ (if i = 0 then (bits64 (hiW X)).map (64 + ·) else [])
def restI (X i : Nat) : List Nat := if i < 2 then restW X i (wordOf X i) else []
theorem restI_zero (X : Nat) : restI X 0 = bitsOf X := by
  unfold restI restW wordOf
  rw [bitsOf_split]
  simp
theorem restW_zero {X i : Nat} (hi : i < 2) : restW X i 0 = restI X (i + 1) := by
  unfold restI restW wordOf
  rw [bits64_zero]
  rcases (show i = 0 ∨ i = 1 by omega) with rfl | rfl
  · simp
  · simp
theorem restW_cons {X i W : Nat} (h0 : 0 < W) (hW : W < 18446744073709551616) : restW X i W = (64 * i + tz 64 W) :: restW X i (W &&& (W - 1)) := by
  unfold restW
  rw [bits64_cons h0 hW]; rfl
theorem restW_len {W : Nat} (h0 : 0 < W) (hW : W < 18446744073709551616) : (bits64 (W &&& (W - 1))).length < (bits64 W).length := by
  rw [bits64_cons h0 hW]; simp
theorem drop_cons {l r : List Nat} {j a : Nat} (h : l.drop j = a :: r) : j < l.length ∧ l.getD j 0 = a ∧ l.drop (j + 1) = r := by
  have hl : j < l.length := by
    rcases Nat.lt_or_ge j l.length with h1 | h1
    · exact h1
    · rw [List.drop_eq_nil_of_le h1] at h; cases h
  obtain ⟨x, hx⟩ := get_some hl
  rw [drop_at hx] at h
  simp only [List.cons.injEq] at h
  exact ⟨hl, by rw [getD_some hx]; exact h.1, h.2⟩
theorem setC_arr (X i : Nat) (hi : i < 2) : (setC X).toArray[i]? = some (.int .u64 ((wordOf X i : Nat) : Int)) := by
  rw [List.getElem?_toArray]; exact setC_at X i hi
theorem drop_end {l : List Nat} {j : Nat} (h : l.drop j = []) (hj : j ≤ l.length) : j = l.length := by
  have := List.length_drop (i := j) (l := l)
  rw [h] at this
  simp at this; omega
end Sx
open Sx
set_option maxRecDepth 100000 in
set_option maxHeartbeats 1000000 in
theorem allIt_ok (X : Nat) (hX : X < 2 ^ 128) (bx lb : Nat) (J Jx : Nat → List HL → Prop) (hG : ∀ i L, J i L → HL.blk bx (setC X) 90 ∈ L) (w1 : World) (L : List HL) (hY : YOk Tryd.prog lb (bitsOf X).length (fun i => [natV ((bitsOf X).getD i 0)]) J Jx w1 (L.filterMap HL.block)) (h0 : J 0 L) (ho : Own w1 (L.filterMap HL.block) w1 L) (hT : TabIn w1) (hg : 0 ∉ L.filterMap HL.block) : Sp Tryd.prog 73 [.func (.yield lb) #[] #[], .pointer (some ⟨bx, 0, none⟩)] w1 (L.filterMap HL.block) (fun _ L2 => J (bitsOf X).length L2 ∨ ∃ i, i < (bitsOf X).length ∧ Jx i L2) := by
  have hbl := bits64_len (wordOf X 0)
  refine spec_enterM Tryd.func73 rfl Tryd.ntmps73 rfl ho ?_
  simp only [argEnv]
  refine rc_seq <| rc_region <| rl_op (by nofun) (op_rd rfl (rd_loadAgg Tryd.underlying90 rfl ty_90 rfl (cs_mem (hG _ _ h0)) rfl) ?_)
  refine rl_op (by nofun) (op_rd rfl (rd_move rfl) ?_)
  refine rl_nil <| gx_then <| rc_block <| rc_loopF (ι := Nat × Nat × List HL) [(0, _), (5, _)] [] (fun q => q.1 ≤ 2 ∧ J q.2.1 q.2.2 ∧ (bitsOf X).drop q.2.1 = restI X q.1 ∧ q.2.1 ≤ (bitsOf X).length) (fun q Fr0 => ((6, natV q.1) :: Fr0)) (fun q Fr0 => (Fr0 ++ q.2.2)) (fun q => 2 - q.1) (0, 0, L) (⟨Nat.zero_le _, h0, (restI_zero X).symm, Nat.zero_le _⟩) ⟨rfl, rfl, rfl, trivial⟩ (sub_tail (A := []) (B := []) (T := L) [] 0 (by decide) (by decide) rfl rfl) ?_
  rintro ⟨i, j, T⟩ ⟨hi2, hJ, hd, hjl⟩
  simp only at hi2 hJ hd hjl ⊢
  refine rc_seq <| rc_region <| rl_op (by nofun) (op_rd rfl (rd_lss rfl rfl) (gk_dec (fun h7 => ?_) (fun h7 => ?_)))
  · refine rl_nil <| gx_then <| rc_seq <| rc_cond_t rfl <| rc_skip <| gx_then <| rc_seq <| rc_block <| rc_seq <| rc_region <| rl_op (by nofun) (op_rd rfl (rd_move rfl) ?_)
    refine rl_op (by nofun) (op_rd rfl (rd_indexArrV Tryd.underlying90 Tryd.underlying88 ty_88 rfl rfl (by omega) (setC_arr X i (by omega))) ?_)
    refine rl_op (by nofun) (op_rd rfl (rd_assign rfl) ?_)
    refine rl_op (by nofun) (op_rd rfl (rd_assign rfl) ?_)
    refine rl_nil <| gx_then <| rc_block <| rc_loopF (ι := Nat × Nat × List HL) [(0, _), (3, _), (5, _), (6, _)] [] (fun q => q.1 < 18446744073709551616 ∧ J q.2.1 q.2.2 ∧ (bitsOf X).drop q.2.1 = restW X i q.1 ∧ q.2.1 ≤ (bitsOf X).length) (fun q Fr0 => ((4, .int .u64 (q.1 : Int)) :: Fr0)) (fun q Fr0 => (Fr0 ++ q.2.2)) (fun q => (bits64 q.1).length) (wordOf X i, j, T) (⟨wordOf_lt hX, hJ, by simp only; rw [hd]; unfold restI; rw [if_pos (by omega)], hjl⟩) ⟨rfl, rfl, rfl, rfl, rfl, trivial⟩ (sub_tail (A := []) (B := []) (T := T) [] 0 (by decide) (by decide) rfl rfl) ?_
    rintro ⟨W, j2, T3⟩ ⟨hW, hJ3, hd3, hjl3⟩
    simp only at hW hJ3 hd3 hjl3 ⊢
    refine rc_seq <| rc_seq <| rc_region <| rl_op (by nofun) (op_rd rfl (rd_move rfl) ?_)
    refine rl_op (by nofun) (op_rd rfl (rd_neq rfl rfl) (gk_dec (fun h11 => ?_) (fun h11 => ?_)))
    · have htz := (tz_bit 64 W (by omega) (by rw [← p64]; exact hW)).2.2
      refine rl_nil <| gx_then <| rc_cond_t rfl <| rc_skip <| gx_then <| rc_seq <| rc_block <| rc_seq <| rc_region <| rl_op (by nofun) (op_rd rfl (rd_move rfl) ?_)
      refine rl_op (by nofun) (op_rd rfl (rd_move rfl) ?_)
      refine rl_op (by nofun) (op_rd rfl (by exact rd_mulN (a := 64) rfl rfl (by omega)) ?_)
      refine rl_op (by nofun) (op_rd rfl (rd_move rfl) ?_)
      refine rl_op (by nofun) (op_call rfl (vf := []) (vc := []) rfl rfl Tryd.call74 (fun w2 how => tz_ok W (by omega) hW w2 (hT.at how hg)) ?_)
      rintro _ _ ⟨rfl, rfl⟩
      refine rl_op (by nofun) (op_rd rfl (by exact rd_addN rfl rfl (by omega)) ?_)
      obtain ⟨hjl2, hjd, hjr⟩ := drop_cons (hd3.trans (restW_cons (X := X) (i := i) (show 0 < W by omega) hW))
      refine rl_opI (op_yield [] T3 hY hjl2 hJ3 rfl rfl rfl (congrArg (fun z => some [natV z]) hjd.symm) (fun T2 hJ2 => ?_) (fun T2 hJ2 => ?_))
      · refine rl_op (by nofun) (op_rd rfl (rd_not rfl) ?_)
        refine rl_nil <| gx_then <| rc_cond_f rfl <| rc_skip <| gx_block <| gx_then <| rc_region <| rl_op (by nofun) (op_rd rfl (rd_move rfl) ?_)
        refine rl_op (by nofun) (op_rd rfl (rd_move rfl) ?_)
        refine rl_op (by nofun) (op_rd rfl (rd_subU (a := W) (b := 1) rfl rfl (by omega) rfl hW) ?_)
        refine rl_op (by nofun) (op_rd rfl (rd_andU (a := W) (b := W - 1) rfl rfl hW (by omega) rfl) ?_)
        refine rl_op (by nofun) (op_rd rfl (rd_assign rfl) ?_)
        refine rl_nil <| gx_then ?_
        exact gx_cut ((W &&& (W - 1), j2 + 1, T2)) ⟨⟨Nat.lt_of_le_of_lt Nat.and_le_left hW, hJ2, hjr, by simp only; omega⟩, restW_len (by omega) hW⟩ ⟨rfl, rfl, rfl, rfl, rfl, trivial⟩ (sub_tail (A := []) (B := []) (T := T2) [] 0 (by decide) (by decide) rfl rfl)
      refine rl_op (by nofun) (op_rd rfl (rd_not rfl) ?_)
      refine rl_nil <| gx_then <| rc_cond_t rfl <| rc_ret <| gx_block_ret <| gx_then_ret <| gx_then_ret <| gx_block_ret <| gx_block_ret <| gx_then_ret <| gx_then_ret <| gx_block_ret <| gx_retM0 [] (.inl rfl) Tryd.results73 (Sub.refl' _) ?_
      exact .inr ⟨j2, hjl2, hJ2⟩
    refine rl_nil <| gx_then <| rc_cond_f rfl <| rc_exit <| gx_then_exit <| gx_then_exit <| gx_block_exit <| gx_block <| gx_then <| rc_region <| rl_op (by nofun) (op_rd rfl (by exact rd_addN (b := 1) rfl rfl (by omega)) ?_)
    refine rl_op (by nofun) (op_rd rfl (rd_move rfl) ?_)
    refine rl_nil <| gx_then ?_
    exact gx_cut ((i + 1, j2, T3)) ⟨⟨by simp only; omega, hJ3, by simp only; rw [hd3, show W = 0 by omega]; exact restW_zero (by omega), hjl3⟩, by simp only; omega⟩ ⟨rfl, rfl, rfl, trivial⟩ (sub_tail (A := []) (B := []) (T := T3) [] 0 (by decide) (by decide) rfl rfl)
  refine rl_nil <| gx_then <| rc_seq <| rc_cond_f rfl <| rc_exit <| gx_then_exit <| gx_then_exit <| gx_block_exit <| gx_retM0 [] (.inr rfl) Tryd.results73 (Sub.refl' _) ?_
  have hj9 : j = (bitsOf X).length := drop_end (hd.trans (by unfold restI; rw [if_neg (by omega)])) hjl
  exact .inl (hj9 ▸ hJ)
end Go.Proofs.YtbjijbbkfgcleaaDoor
namespace Go.Proofs.YtbjijbbkfgcleaaDoor
open Go.Gv
open Go.RowKit
open Go.Sn
open Sx
namespace Sx
theorem take_snocN {l : List Nat} {i : Nat} (h : i < l.length) : (l.take i).map natV ++ [natV (l.getD i 0)] = (l.take (i + 1)).map natV := by
  obtain ⟨x, hx⟩ := get_some h
  rw [take_at hx, getD_some hx, List.map_append]; rfl
end Sx
open Sx
set_option maxRecDepth 100000 in
set_option maxHeartbeats 1000000 in
theorem all_ok (X : Nat) (w0 : World) : Sp Tryd.prog 39 [.agg #[.int .u64 ((loW X : Nat) : Int), .int .u64 ((hiW X : Nat) : Int)]] w0 [] (fun v L => ∃ bx, v = .func (.func 73) #[] #[.pointer (some ⟨bx, 0, none⟩)] ∧ L = [.blk bx (setC X) 90]) := by
  refine spec_enter Tryd.func39 rfl Tryd.ntmps39 rfl (Own.refl _) ?_
  simp only [argEnv]
  refine gc_seq <| gc_region <| gl_op (op_box rfl rfl rfl (fun b1 => ?_))
  refine gl_op <| op_rd rfl (rd_assign rfl) <| gl_nil <| gx_then <| gc_seq <| gc_region <| gl_op <| op_rd rfl (rd_makeFunc (fs := []) (cs := [.tmp 1]) rfl rfl) <| gl_op <| op_rd rfl (rd_assign rfl) <| gl_nil <| gx_then <| gc_ret <| gx_ret1 (.inl rfl) Tryd.results39 rfl [0] (by decide) ?_
  exact ⟨b1, rfl, rfl⟩
set_option maxRecDepth 100000 in
set_option maxHeartbeats 1000000 in
theorem AppendSeq_ok (X : Nat) (hX : X < 2 ^ 128) (bx : Nat) (w0 : World) (hT : TabIn w0) (hbx : 0 ∉ [bx]) (hown : Own w0 [bx] w0 [.blk bx (setC X) 90]) : Sp Tryd.prog 78 [.slice none 0 0, .func (.func 73) #[] #[.pointer (some ⟨bx, 0, none⟩)]] w0 [bx] (fun v L => ∃ r c, v = .slice (rowA r) (bitsOf X).length c ∧ L = [.row 3 1 r (bitsOf X).length c ((bitsOf X).map natV)]) := by
  refine spec_enterM Tryd.func78 rfl Tryd.ntmps78 rfl hown ?_
  simp only [argEnv]
  refine rc_seq <| rc_region <| rl_op (by nofun) (op_box rfl rfl rfl (fun b2 => ?_))
  refine rl_op (by nofun) (op_rd rfl (rd_assign rfl) ?_)
  refine rl_nil <| gx_then <| rc_seq <| rc_seq <| rc_region <| rl_op (by nofun) (op_rd rfl (rd_move rfl) ?_)
  refine rl_nil <| gx_then <| rc_block <| gk_nil 3 1 <| gk_heap [1, 0, 2] (by decide) ?_
  refine gk_env [(0, _), (1, _), (2, _), (4, _), (6, _)] ⟨rfl, rfl, rfl, rfl, rfl, trivial⟩ ?_
  refine rc_rangeF (β := Unit) (N := (bitsOf X).length) (xs := fun i => natV ((bitsOf X).getD i 0)) (gf := 73) (caps := [.pointer (some ⟨bx, 0, none⟩)]) (fun i _ => [(5, natV ((bitsOf X).getD i 0))]) (fun i _ => []) rfl Tryd.call73 rfl (fun i L => ∃ r c, L = [.blk b2 [.slice (rowA r) i c] 29, .row 3 1 r i c (((bitsOf X).take i).map natV), .blk bx (setC X) 90]) (fun _ _ _ => False) (fun L => HL.blk bx (setC X) 90 ∈ L) (fun i L hd h => by
    rcases h with ⟨r, c, rfl⟩ | ⟨c, h⟩
    · exact List.mem_append_right _ (by simp)
    · exact h.elim) (⟨none, 0, rfl⟩) (fun lb J Jx hG w1 L hY hJ hO => allIt_ok X hX bx lb J Jx hG w1 L hY hJ hO.self (hT.at hO hbx) (old_out hO hT.lt hbx)) ?_ ?_ ?_ ?_
  · intro i lb w1 S1 L1 K1 Q1 hk1
    refine rc_region <| rl_op (by nofun) (op_rd rfl (rd_assign rfl) ?_)
    refine rl_nil <| gx_then ?_
    exact gk_env _ (by exact ⟨rfl, rfl, rfl, rfl, rfl, rfl, trivial⟩) (hk1 ())
  · intro i hi L hI lb D rec w1 S1 _ rec9 hO9 hS9
    obtain ⟨r, c, rfl⟩ := hI
    have hbl := bitsOf_len X
    refine rc_block <| rc_region <| rl_op (by nofun) (op_rd rfl (rd_load Tryd.underlying29 rfl rfl (by exact ld_blk 2 rfl rfl)) ?_)
    refine rl_op (by nofun) (op_rd rfl (rd_move rfl) ?_)
    refine rl_op (by nofun) (op_buildSlice (sz := 1) rfl rfl (fun _ => bs_29_1_0 _) rfl rfl (fun b10 => ?_))
    refine rl_op (by nofun) (op_appendRow 4 0 Tryd.underlying29 ty_3 rfl (by decide) rfl rfl rfl rfl rfl (by simp [Value.oneCell']) (by omega) (by omega) (fun _ => (by rfl)) (fun r11 c11 => ?_))
    refine rl_op (by nofun) (op_store 3 ty_29 rfl rfl rfl rfl rfl (by rfl) (by rfl) ?_)
    refine rl_nil <| gx_block ?_
    rw [take_snocN hi]
    exact rp_normal _ (⟨r11, c11, rfl⟩) ⟨[1, 2, 3, 4, 5], by decide, rfl⟩
  · intro D L hI
    obtain ⟨r, c, rfl⟩ := hI
    refine gx_block <| gx_then <| rc_seq <| rc_region <| rl_op (by nofun) (op_rd rfl (rd_load Tryd.underlying29 rfl rfl (by exact ld_blk 1 rfl rfl)) ?_)
    refine rl_op (by nofun) (op_rd rfl (rd_assign rfl) ?_)
    refine rl_nil <| gx_then <| rc_ret <| gx_retM1 [D] (.inl rfl) Tryd.results78 rfl ⟨[0, 2], by decide, rfl⟩ ?_
    exact ⟨r, c, rfl, by rw [List.take_length]; rfl⟩
  · intro D c i L hi hI
    exact hI.elim
set_option maxRecDepth 100000 in
set_option maxHeartbeats 1000000 in
theorem Collect_ok (X : Nat) (hX : X < 2 ^ 128) (bx : Nat) (w0 : World) (hT : TabIn w0) (hbx : 0 ∉ [bx]) (hown : Own w0 [bx] w0 [.blk bx (setC X) 90]) : Sp Tryd.prog 54 [.func (.func 73) #[] #[.pointer (some ⟨bx, 0, none⟩)]] w0 [bx] (fun v L => ∃ r c, v = .slice (rowA r) (bitsOf X).length c ∧ L = [.row 3 1 r (bitsOf X).length c ((bitsOf X).map natV)]) := by
  refine spec_enter Tryd.func54 rfl Tryd.ntmps54 rfl hown ?_
  simp only [argEnv]
  refine gc_seq <| gc_region <| gl_op <| op_rd rfl (rd_assign rfl) <| gl_nil <| gx_then <| gc_seq <| gc_region <| gl_op <| op_rd rfl (rd_move rfl) <| gl_op (op_callM [0] [] rfl (vf := []) (vc := []) rfl rfl Tryd.call78 (by decide) rfl (fun w how hc => AppendSeq_ok X hX bx w (hT.at how hbx) hbx hc) ?_)
  rintro _ _ ⟨r, c, rfl, rfl⟩
  refine gl_op <| op_rd rfl (rd_assign rfl) <| gl_nil <| gx_then <| gc_ret <| gx_ret1 (.inl rfl) Tryd.results54 rfl [0] (by decide) ?_
  exact ⟨r, c, rfl, rfl⟩
set_option maxRecDepth 100000 in
set_option maxHeartbeats 1000000 in
theorem listed_ok (X : Nat) (hX : X < 2 ^ 128) (w0 : World) (hT : TabIn w0) : Sp Tryd.prog 33 [.agg #[.int .u64 ((loW X : Nat) : Int), .int .u64 ((hiW X : Nat) : Int)]] w0 [] (fun v L => ∃ r c, v = .slice (rowA r) (bitsOf X).length c ∧ L = [.row 3 1 r (bitsOf X).length c ((bitsOf X).map natV)]) := by
  refine spec_enter Tryd.func33 rfl Tryd.ntmps33 rfl (Own.refl _) ?_
  simp only [argEnv]
  refine gc_seq <| gc_region <| gl_op (op_box rfl rfl rfl (fun b1 => ?_))
  refine gl_op <| op_rd rfl (rd_assign rfl) <| gl_nil <| gx_then <| gc_seq <| gc_region <| gl_op (op_rd rfl (rd_loadAgg Tryd.underlying90 rfl ty_90 rfl (by exact cs_blk 0 (off := 0) (k := 2) rfl rfl) rfl) ?_)
  refine gl_op (op_call rfl (vf := []) (vc := []) rfl rfl Tryd.call39 (fun w ho => all_ok X w) ?_)
  rintro _ _ ⟨bx, rfl, rfl⟩
  refine gl_op (op_callM [0] [1] rfl (vf := []) (vc := []) rfl rfl Tryd.call54 (by decide) rfl (fun w how hc => Collect_ok X hX bx w (hT.at how (by simp)) (by have h1 := new_ge how 0 rfl rfl; have h2 := hT.lt; intro h3; simp at h3; omega) hc) ?_)
  rintro _ _ ⟨r, c, rfl, rfl⟩
  refine gl_op <| op_rd rfl (rd_assign rfl) <| gl_nil <| gx_then <| gc_ret <| gx_ret1 (.inl rfl) Tryd.results33 rfl [0] (by decide) ?_
  exact ⟨r, c, rfl, rfl⟩
end Go.Proofs.YtbjijbbkfgcleaaDoor
namespace Go.Proofs.YtbjijbbkfgcleaaDoor
open Go.Gv
open Go.RowKit
open Go.Sn
open Sx
namespace Sx
theorem i2_place : I2 Tryd.prog 110 (Tryd.prog.fieldsOf 110)[0]! (Tryd.prog.fieldsOf 110)[1]! .i64 .i64 := ⟨by kernel_rfl, by kernel_rfl, by kernel_rfl, by kernel_rfl, by kernel_rfl, by kernel_rfl, by kernel_rfl, by kernel_rfl⟩
def BS (s : Org) (b : Nat) : HL := .blk b [.slice s.da s.ds.length s.dc, .slice s.ra s.rs.length s.rc, .slice s.sa s.ss.length s.sc, .slice s.ca s.cs.length s.cc] 27
def BA (b b30 : Nat) : HL := .blk b [.pointer (some ⟨b30, 0, none⟩)] 82
def BK (nd b30 k27 c27 m28 : Nat) : HL := .blk b30 [.slice (rowA (some k27)) nd c27, .map (some m28)] 87
def RS (nd k27 c27 : Nat) (sets : List Nat) : HL := .row 90 2 (some k27) nd c27 (sets.flatMap setC)
def OM (m28 : Nat) (tb : List En) : HL := .obj m28 (actO tb)
def RG (r : Option Nat) (c : Nat) (ps : List Pl) : HL := .row 110 2 r ps.length c (ps.flatMap plC)
def ActH (s : Org) (b2 b5 b30 k27 c27 m28 : Nat) (st : AS) : List HL := [BS s b2, BA b5 b30, BK s.ds.length b30 k27 c27 m28, RS s.ds.length k27 c27 st.sets, OM m28 st.tb]
end Sx
open Sx
set_option maxRecDepth 100000 in
set_option maxHeartbeats 1000000 in
theorem taken_ok (c : Cp) (ks : List Nat) (a : Option Addr) (cp : Nat) (hc : ks.length ≤ cp) (hl : ks.length ≤ 128) (w0 : World) : Sp Tryd.prog 51 [c.val, .slice a ks.length cp] w0 [] (fun v L => L = [] ∧ ∃ a2 c2, v = .slice a2 (takenL c ks).length c2 ∧ ∀ w S, OldSl w S a ks.length 1 (ks.map natV) → OldSl w S a2 (takenL c ks).length 1 ((takenL c ks).map natV)) := by
  refine spec_enter Tryd.func51 rfl Tryd.ntmps51 rfl (Own.refl _) ?_
  simp only [argEnv]
  refine gc_seq <| gc_region <| gl_op (op_box rfl rfl rfl (fun b2 => ?_))
  refine gl_op <| op_rd rfl (rd_assign rfl) <| gl_nil <| gx_then <| gc_seq <| gc_block <| gc_seq <| gc_region <| gl_op <| op_rd rfl (rd_move rfl) <| gl_op <| op_rd rfl (rd_lenSlice Tryd.underlying29 rfl) <| gl_op (op_rd rfl (rd_eql rfl rfl) (gk_dec (fun h8 => ?_) (fun h8 => ?_)))
  · refine gl_op <| op_rd rfl (rd_move rfl) <| gl_no rfl rfl rfl <| gl_no rfl rfl rfl <| gl_no rfl rfl rfl <| gl_op <| op_rd rfl (rd_pick_t rfl rfl) <| gl_op <| op_rd rfl (rd_assign rfl) <| gl_nil <| gx_then <| gc_cond_t rfl <| gc_seq <| gc_region <| gl_op <| op_rd rfl (rd_move rfl) <| gl_op <| op_rd rfl (rd_assign rfl) <| gl_nil <| gx_then <| gc_ret <| gx_block_ret <| gx_then_ret <| gx_ret1 (.inl rfl) Tryd.results51 rfl [] (by decide) ?_
    refine ⟨rfl, a, cp, ?_, fun w S h => ?_⟩
    · unfold takenL; rw [if_pos (by omega)]
    · unfold takenL; rw [if_pos (by omega)]; exact h
  refine gl_op <| op_rd rfl (rd_move rfl) <| gl_yes rfl rfl <| op_rd rfl (rd_fieldAddr rfl (fa_67_4 _)) <| gl_yes rfl rfl (op_rd rfl (rd_load Tryd.underlying3 rfl rfl (by exact ld_blk 0 rfl rfl)) ?_)
  refine gl_yes rfl rfl (op_rd rfl (rd_eql rfl rfl) (gk_dec (fun h12 => ?_) (fun h12 => ?_)))
  · refine gl_op <| op_rd rfl (rd_pick_f rfl rfl) <| gl_op <| op_rd rfl (rd_assign rfl) <| gl_nil <| gx_then <| gc_cond_t rfl <| gc_seq <| gc_region <| gl_op <| op_rd rfl (rd_move rfl) <| gl_op <| op_rd rfl (rd_assign rfl) <| gl_nil <| gx_then <| gc_ret <| gx_block_ret <| gx_then_ret <| gx_ret1 (.inl rfl) Tryd.results51 rfl [] (by decide) ?_
    refine ⟨rfl, a, cp, ?_, fun w S h => ?_⟩
    · unfold takenL; rw [if_pos (by omega)]
    · unfold takenL; rw [if_pos (by omega)]; exact h
  refine gl_op <| op_rd rfl (rd_pick_f rfl rfl) <| gl_op <| op_rd rfl (rd_assign rfl) <| gl_nil <| gx_then <| gc_cond_f rfl <| gc_seq <| gc_region <| gl_op <| op_rd rfl (rd_fieldAddr rfl (fa_67_4 _)) <| gl_op (op_rd rfl (rd_load Tryd.underlying3 rfl rfl (by exact ld_blk 0 rfl rfl)) ?_)
  refine gl_op (op_rd rfl (rd_eql rfl rfl) (gk_dec (fun h18 => ?_) (fun h18 => ?_)))
  · refine gl_op <| op_rd rfl (rd_assign rfl) <| gl_nil <| gx_then <| gc_cond_t rfl <| gc_seq <| gc_region <| gl_op <| op_rd rfl (rd_move rfl) <| gl_op (op_rd rfl (rd_sliceHi Tryd.underlying29 ty_3 rfl rfl (by omega) (by omega)) ?_)
    refine gl_op <| op_rd rfl (rd_assign rfl) <| gl_nil <| gx_then <| gc_ret <| gx_block_ret <| gx_then_ret <| gx_ret1 (.inl rfl) Tryd.results51 rfl [] (by decide) ?_
    refine ⟨rfl, a, cp, ?_, fun w S h => ?_⟩
    · unfold takenL; rw [if_neg (by omega), if_pos (by omega), List.length_take, Nat.min_eq_left (by omega)]; rfl
    · unfold takenL; rw [if_neg (by omega), if_pos (by omega), List.length_take, Nat.min_eq_left (by omega), List.map_take]; exact h.take 1 (by omega)
  refine gl_op <| op_rd rfl (rd_assign rfl) <| gl_nil <| gx_then <| gc_cond_f rfl <| gc_skip <| gx_block <| gx_then <| gc_seq <| gc_region <| gl_op <| op_rd rfl (rd_move rfl) <| gl_op <| op_rd rfl (rd_move rfl) <| gl_op <| op_rd rfl (rd_lenSlice Tryd.underlying29 rfl) <| gl_op (op_rd rfl (by exact rd_subN (b := 1) rfl rfl (by omega) (by omega)) ?_)
  refine gl_op (op_rd rfl (rd_sliceLo Tryd.underlying29 ty_3 rfl rfl (by omega) (by omega)) ?_)
  refine gl_op <| op_rd rfl (rd_assign rfl) <| gl_nil <| gx_then <| gc_ret <| gx_ret1 (.inl rfl) Tryd.results51 rfl [] (by decide) ?_
  refine ⟨rfl, subA a cp (ks.length - 1) 1, cp - (ks.length - 1), ?_, fun w S h => ?_⟩
  · unfold takenL; rw [if_neg (by omega), if_neg (by omega), List.length_drop]; rfl
  · unfold takenL; rw [if_neg (by omega), if_neg (by omega), List.length_drop, List.map_drop]
    have := h.drop (ks.length - 1) (by omega) hc
    rwa [Nat.mul_one] at this
set_option maxRecDepth 100000 in
set_option maxHeartbeats 1000000 in
theorem reached_ok (s : Org) (h : HN) (hle : OrgLe s) (hA : (cxN s h).Ok) (i : Nat) (hi : i ∈ (cxN s h).dr) (l : List Pl) (la : Option Addr) (lc : Nat) (hll : l.length ≤ 1000) (hl8 : ∀ p ∈ l, p.2 < 128) (b2 b5 b30 k27 c27 m28 : Nat) (st : AS) (hst : SetOk (cxN s h) st) (w0 : World) (hS : OrgIn s w0 [b2, b5, b30, k27, m28]) (hsl : OldSl w0 [b2, b5, b30, k27, m28] la l.length 2 (l.flatMap plC)) (hown : Own w0 [b2, b5, b30, k27, m28] w0 (ActH s b2 b5 b30 k27 c27 m28 st)) : Sp Tryd.prog 49 [natV i, .slice la l.length lc, .pointer (some ⟨b2, 0, none⟩), .pointer (some ⟨b5, 0, none⟩)] w0 [b2, b5, b30, k27, m28] (fun v L => ∃ r c, v = .slice (rowA r) (reachP (cxN s h) i l st).2.length c ∧ L = ActH s b2 b5 b30 k27 c27 m28 (reachP (cxN s h) i l st).1 ++ [RG r c (reachP (cxN s h) i l st).2]) := by
  obtain ⟨x, hx⟩ := get_some (show i < s.cs.length from hA.drn i hi)
  have hxi : (cxN s h).cp i = x := getD_some hx
  obtain ⟨hd0, hd1⟩ := hA.dst i (hA.drn i hi)
  have hsh := hA.shf i (hA.drn i hi)
  rw [hxi] at hd0 hd1 hsh
  change x.dst < s.ds.length at hd1
  obtain ⟨d, hd⟩ := get_some (show x.dst.toNat < s.ds.length by omega)
  have hdi : (cxN s h).dv x.dst.toNat = d := getD_some hd
  have hrg := hA.rng x.dst.toNat (show x.dst.toNat < s.ds.length by omega)
  rw [hdi] at hrg
  have hcl := hle.c
  have hil : i < s.cs.length := hA.drn i hi
  have hdl := hle.d
  unfold ActH BS BA BK RS OM at hown
  refine spec_enter Tryd.func49 rfl Tryd.ntmps49 rfl hown ?_
  simp only [argEnv]
  refine gc_seq <| gc_region <| gl_op <| op_rd rfl (rd_assign rfl) <| gl_nil <| gx_then <| gc_seq <| gc_region <| gl_op <| op_rd rfl (rd_fieldAddr rfl (fa_27_3 _)) <| gl_op (op_rd rfl (rd_load Tryd.underlying25 rfl rfl (by exact ld_blk 0 rfl rfl)) ?_)
  refine gl_op <| op_rd rfl (rd_move rfl) <| gl_op (op_rd rfl (rd_indexOld hS.c Tryd.underlying25 ty_67 rfl rfl (by omega) (by omega)) ?_)
  refine gl_op (op_rd rfl (rd_loadAgg Tryd.underlying67 rfl ty_67 rfl (cs_slN hS.c (flat_drop_get Cp.cells 6 (fun _ => rfl) hx)) rfl) ?_)
  refine gl_op (op_alloc ty_67 rfl rfl (fun b7 => ?_))
  refine gl_op (op_storeAgg 0 ty_67 rfl rfl rfl rfl rfl rfl (by rfl) ?_)
  refine gl_nil <| gx_then <| gc_seq <| gc_region <| gl_op <| op_rd rfl (rd_fieldAddr rfl (fa_27_0 _)) <| gl_op (op_rd rfl (rd_load Tryd.underlying22 rfl rfl (by exact ld_blk 1 rfl rfl)) ?_)
  refine gl_op <| op_rd rfl (rd_fieldAddr rfl (fa_67_2 _)) <| gl_op (op_rd rfl (rd_load Tryd.underlying3 rfl rfl (by exact ld_blk 0 rfl rfl)) ?_)
  refine gl_op (op_rd rfl (rd_indexOld hS.d Tryd.underlying22 ty_65 rfl rfl (by omega) (by omega)) ?_)
  refine gl_op (op_rd rfl (rd_loadAgg Tryd.underlying65 rfl ty_65 rfl (cs_sl hS.d (flat_drop_get Dv.cells 3 (fun _ => rfl) hd)) rfl) ?_)
  refine gl_op (op_alloc ty_65 rfl rfl (fun b8 => ?_))
  refine gl_op (op_storeAgg 0 ty_65 rfl rfl rfl rfl rfl rfl (by rfl) ?_)
  refine gl_nil <| gx_then <| gc_seq <| gc_seq ?_
  simp only [Cp.cells, Dv.cells]
  refine gc_region <| gl_op <| op_rd rfl (rd_move rfl) <| gl_op <| op_rd rfl (rd_lenSlice Tryd.underlying123 rfl) <| gl_op <| op_rd rfl (rd_move rfl) <| gl_nil <| gx_then <| gc_block <| gk_nil 110 2 <| gc_loopF (ι := Nat × (AS × List Pl) × Option Nat × Nat) [(0, _), (3, _), (7, _), (8, _), (23, _), (24, _)] [_, _, _, _, _] (fun q => q.1 ≤ l.length ∧ q.2.1 = (l.take q.1).foldl (stepR (cxN s h) i) (st, []) ∧ SetOk (cxN s h) q.2.1.1 ∧ q.2.1.2.length ≤ q.1) (fun q Fr0 => ((6, .slice (rowA q.2.2.1) q.2.1.2.length q.2.2.2) :: (25, natV q.1) :: Fr0)) (fun q Fr0 => (.row 90 2 (some k27) s.ds.length c27 (q.2.1.1.sets.flatMap setC) :: .obj m28 (actO q.2.1.1.tb) :: .row 110 2 q.2.2.1 q.2.1.2.length q.2.2.2 (q.2.1.2.flatMap plC) :: Fr0)) (fun q => l.length - q.1) (0, (st, []), none, 0) (⟨Nat.zero_le _, rfl, hst, Nat.le_refl _⟩) ⟨rfl, rfl, rfl, rfl, rfl, rfl, rfl, rfl, trivial⟩ ⟨[6, 7, 0, 1, 2, 3, 4, 5], by decide, rfl⟩ ?_
  rintro ⟨k, ⟨st1, o1⟩, r, c⟩ ⟨hk, hX, hset, hol⟩
  simp only at hk hX hset hol ⊢
  refine gc_seq <| gc_region <| gl_op (op_rd rfl (rd_lss rfl rfl) (gk_dec (fun h26 => ?_) (fun h26 => ?_)))
  · obtain ⟨p, hp⟩ := get_some (show k < l.length by omega)
    have hp8 := hl8 p (List.mem_of_getElem? hp)
    refine gl_nil <| gx_then <| gc_seq <| gc_cond_t rfl <| gc_skip <| gx_then <| gc_seq <| gc_block <| gc_seq <| gc_region <| gl_op (op_rd rfl (by exact rd_indexOld (by assumption) Tryd.underlying123 ty_110 rfl rfl (by omega) (by omega)) ?_)
    refine gl_op (op_rd rfl (rd_loadAgg Tryd.underlying110 rfl ty_110 rfl (cs_slN hsl (flat_drop_get plC 2 (fun _ => rfl) hp)) rfl) ?_)
    refine gl_op (op_alloc ty_110 rfl rfl (fun b10 => ?_))
    refine gl_op (op_storeAgg 0 ty_110 rfl rfl rfl rfl rfl rfl (by rfl) ?_)
    refine gl_nil <| gx_then <| gc_seq ?_
    simp only [plC]
    refine gc_region <| gl_op <| op_rd rfl (rd_fieldAddr rfl (fa_110_1 _)) <| gl_op (op_rd rfl (rd_load Tryd.underlying3 rfl rfl (by exact ld_blk 0 rfl rfl)) ?_)
    refine gl_op <| op_rd rfl (rd_fieldAddr rfl (fa_67_3 _)) <| gl_op (op_rd rfl (rd_load Tryd.underlying3 rfl rfl (by exact ld_blk 5 rfl rfl)) ?_)
    refine gl_op (op_rd rfl (rd_add rfl rfl (by omega) (by omega)) ?_)
    refine gl_op <| op_rd rfl (rd_assign rfl) <| gl_nil <| gx_then <| gc_seq <| gc_drawP [0, 1, 2, 3, 4, 5, 6, 7, 8] true 22 rfl <| ga_first 0 (bm 23 1) rfl rfl rfl rfl (by kernel_rfl) (by kernel_rfl) ⟨[0, 1, 2, 3, 4, 5, 6, 7, 8], by decide, rfl⟩ (qt_rd (rd_move rfl)) ?_
    refine ga_first 1 (bm 23 3) rfl rfl rfl rfl (by kernel_rfl) (by kernel_rfl) ⟨[0, 1, 2, 3, 4, 5, 6, 7, 8], by decide, rfl⟩ (qt_rd (rd_fieldAddr rfl (fa_65_1 _))) ?_
    refine ga_first 2 (bm 23 7) rfl rfl rfl rfl (by kernel_rfl) (by kernel_rfl) ⟨[0, 1, 2, 3, 4, 5, 6, 7, 8], by decide, rfl⟩ (qt_rd (rd_load Tryd.underlying3 rfl rfl (by exact ld_blk 4 rfl rfl))) ?_
    refine ga_first 3 (bm 23 15) rfl rfl rfl rfl (by kernel_rfl) (by kernel_rfl) ⟨[0, 1, 2, 3, 4, 5, 6, 7, 8], by decide, rfl⟩ (qt_rd (rd_geq rfl rfl)) (gk_dec (fun h37 => ?_) (fun h37 => ?_))
    · refine ga_first 4 (bm 23 31) rfl rfl rfl rfl (by kernel_rfl) (by kernel_rfl) ⟨[0, 1, 2, 3, 4, 5, 6, 7, 8], by decide, rfl⟩ (qt_rd (rd_move rfl)) ?_
      refine ga_firstY 5 (bm 23 63) rfl rfl rfl rfl rfl rfl (by kernel_rfl) (by kernel_rfl) ⟨[0, 1, 2, 3, 4, 5, 6, 7, 8], by decide, rfl⟩ (qt_rd (rd_move rfl)) ?_
      refine ga_firstY 6 (bm 23 127) rfl rfl rfl rfl rfl rfl (by kernel_rfl) (by kernel_rfl) ⟨[0, 1, 2, 3, 4, 5, 6, 7, 8], by decide, rfl⟩ (qt_rd (rd_fieldAddr rfl (fa_65_2 _))) ?_
      refine ga_firstY 7 (bm 23 255) rfl rfl rfl rfl rfl rfl (by kernel_rfl) (by kernel_rfl) ⟨[0, 1, 2, 3, 4, 5, 6, 7, 8], by decide, rfl⟩ (qt_rd (rd_load Tryd.underlying3 rfl rfl (by exact ld_blk 4 rfl rfl))) ?_
      refine ga_firstY 8 (bm 23 511) rfl rfl rfl rfl rfl rfl (by kernel_rfl) (by kernel_rfl) ⟨[0, 1, 2, 3, 4, 5, 6, 7, 8], by decide, rfl⟩ (qt_rd (rd_leq rfl rfl)) (gk_dec (fun h42 => ?_) (fun h42 => ?_))
      · obtain ⟨kn, hkn⟩ : ∃ kn : Nat, (p.2 : Int) + x.shift = kn := ⟨((p.2 : Int) + x.shift).toNat, by omega⟩
        rw [hkn] at h37 h42 ⊢
        have htg : (cxN s h).tgt i p = some (x.dst.toNat, kn) := by
          have := stepR_tgt (A := cxN s h) (i := i) (p := p) (kn := kn) (by rw [hxi]; exact hkn) (by rw [hxi, hdi]; omega)
          rwa [hxi] at this
        obtain ⟨X, hX2⟩ := get_some (show x.dst.toNat < st1.sets.length by have := hset.len; change _ = s.ds.length at this; omega)
        have hXl := hset.lt X (List.mem_of_getElem? hX2)
        have hash : hasS st1.sets (x.dst.toNat, kn) = X.testBit kn := by unfold hasS; rw [getD_some hX2]
        have hdn : x.dst = ((x.dst.toNat : Nat) : Int) := by omega
        refine ga_first 9 (bm 23 1023) rfl rfl rfl rfl (by kernel_rfl) (by kernel_rfl) ⟨[0, 1, 2, 3, 4, 5, 6, 7, 8], by decide, rfl⟩ (qt_rd (rd_pick_t rfl rfl)) ?_
        refine ga_first 10 (bm 23 2047) rfl rfl rfl rfl (by kernel_rfl) (by kernel_rfl) ⟨[0, 1, 2, 3, 4, 5, 6, 7, 8], by decide, rfl⟩ (qt_rd (rd_move rfl)) ?_
        refine ga_firstY 11 (bm 23 4095) rfl rfl rfl rfl rfl rfl (by kernel_rfl) (by kernel_rfl) ⟨[0, 1, 2, 3, 4, 5, 6, 7, 8], by decide, rfl⟩ (qt_rd (rd_load Tryd.underlying82 rfl rfl (by exact ld_blk 7 rfl rfl))) ?_
        refine ga_firstY 12 (bm 23 8191) rfl rfl rfl rfl rfl rfl (by kernel_rfl) (by kernel_rfl) ⟨[0, 1, 2, 3, 4, 5, 6, 7, 8], by decide, rfl⟩ (qt_rd (rd_nilCheck rfl)) ?_
        refine ga_firstY 13 (bm 23 16383) rfl rfl rfl rfl rfl rfl (by kernel_rfl) (by kernel_rfl) ⟨[0, 1, 2, 3, 4, 5, 6, 7, 8], by decide, rfl⟩ (qt_rd (rd_fieldAddr rfl (fa_87_0 _))) ?_
        refine ga_firstY 14 (bm 23 32767) rfl rfl rfl rfl rfl rfl (by kernel_rfl) (by kernel_rfl) ⟨[0, 1, 2, 3, 4, 5, 6, 7, 8], by decide, rfl⟩ (qt_rd (rd_load Tryd.underlying84 rfl rfl (by exact ld_blk 8 rfl rfl))) ?_
        refine ga_firstY 15 (bm 23 65535) rfl rfl rfl rfl rfl rfl (by kernel_rfl) (by kernel_rfl) ⟨[0, 1, 2, 3, 4, 5, 6, 7, 8], by decide, rfl⟩ (qt_rd (rd_fieldAddr rfl (fa_67_2 _))) ?_
        refine ga_firstY 16 (bm 23 131071) rfl rfl rfl rfl rfl rfl (by kernel_rfl) (by kernel_rfl) ⟨[0, 1, 2, 3, 4, 5, 6, 7, 8], by decide, rfl⟩ (qt_rd (rd_load Tryd.underlying3 rfl rfl (by exact ld_blk 5 rfl rfl))) ?_
        refine ga_firstY 17 (bm 23 262143) rfl rfl rfl rfl rfl rfl (by kernel_rfl) (by kernel_rfl) ⟨[0, 1, 2, 3, 4, 5, 6, 7, 8], by decide, rfl⟩ (qt_rd (by exact rd_indexRow 1 rfl Tryd.underlying84 ty_90 rfl rfl (by omega) (by omega))) ?_
        refine ga_firstY 18 (bm 23 524287) rfl rfl rfl rfl rfl rfl (by kernel_rfl) (by kernel_rfl) ⟨[0, 1, 2, 3, 4, 5, 6, 7, 8], by decide, rfl⟩ (qt_rd (rd_loadAgg Tryd.underlying90 rfl ty_90 rfl (cs_row 1 (a := some k27) rfl (flat_drop_get setC 2 (fun _ => rfl) hX2)) rfl)) ?_
        refine ga_firstY 19 (bm 23 1048575) rfl rfl rfl rfl rfl rfl (by kernel_rfl) (by kernel_rfl) ⟨[0, 1, 2, 3, 4, 5, 6, 7, 8], by decide, rfl⟩ (qt_rd (rd_move rfl)) ?_
        simp only [setC]
        refine ga_firstY 20 (bm 23 2097151) rfl rfl rfl rfl rfl rfl (by kernel_rfl) (by kernel_rfl) ⟨[0, 1, 2, 3, 4, 5, 6, 7, 8], by decide, rfl⟩ (qt_call (vf := []) (vc := []) rfl rfl Tryd.call50 (fun w1 ho => hasSet_ok X kn hXl (by omega) w1) (by rintro _ _ ⟨h, _⟩; exact h)) ?_
        refine gk_bool (fun hh => ?_) (fun hh => ?_)
        · refine ga_firstY 21 (bm 23 4194303) rfl rfl rfl rfl rfl rfl (by kernel_rfl) (by kernel_rfl) ⟨[0, 1, 2, 3, 4, 5, 6, 7, 8], by decide, rfl⟩ (qt_rd (rd_not rfl)) ?_
          refine ga_first 22 (bm 23 8388607) rfl rfl rfl rfl (by kernel_rfl) (by kernel_rfl) ⟨[0, 1, 2, 3, 4, 5, 6, 7, 8], by decide, rfl⟩ (qt_rd (rd_pick_t rfl rfl)) ?_
          refine ga_end (by kernel_rfl) (.inr ⟨[0, 1, 2, 3, 4, 5, 6, 7, 8], by decide, rfl⟩) ?_
          refine gx_then <| gc_cond_f rfl <| gc_skip <| gx_block <| gx_then <| gc_region <| gl_op (op_rd rfl (by exact rd_addN (b := 1) rfl rfl (by omega)) ?_)
          refine gl_op <| op_rd rfl (rd_move rfl) <| gl_nil <| gx_then ?_
          exact gx_cut ((k + 1, (st1, o1), r, c)) ⟨⟨by simp only; omega, by simp only; rw [fold_take _ _ hp, ← hX, stepR_has htg (by rw [hash]; exact hh)], hset, by simp only; omega⟩, by simp only; omega⟩ ⟨rfl, rfl, rfl, rfl, rfl, rfl, rfl, rfl, trivial⟩ ⟨[1, 2, 3, 4, 5, 6, 7, 8], by decide, rfl⟩
        have hno : tabOf st1.tb (x.dst.toNat, kn) = none := by
          cases h9 : tabOf st1.tb (x.dst.toNat, kn) with
          | none => rfl
          | some v => have := (hset.has (x.dst.toNat, kn) (show x.dst.toNat < s.ds.length by omega)).2 ⟨v, h9⟩; rw [hash, hh] at this; cases this
        refine ga_firstY 21 (bm 23 4194303) rfl rfl rfl rfl rfl rfl (by kernel_rfl) (by kernel_rfl) ⟨[0, 1, 2, 3, 4, 5, 6, 7, 8], by decide, rfl⟩ (qt_rd (rd_not rfl)) ?_
        refine ga_first 22 (bm 23 8388607) rfl rfl rfl rfl (by kernel_rfl) (by kernel_rfl) ⟨[0, 1, 2, 3, 4, 5, 6, 7, 8], by decide, rfl⟩ (qt_rd (rd_pick_t rfl rfl)) ?_
        refine ga_end (by kernel_rfl) (.inr ⟨[0, 1, 2, 3, 4, 5, 6, 7, 8], by decide, rfl⟩) ?_
        refine gx_then <| gc_cond_t rfl <| gc_seq <| gc_drawP [0, 2, 3, 4, 5, 6, 7, 8] true 8 rfl <| ga_first 0 (bm 9 1) rfl rfl rfl rfl (by kernel_rfl) (by kernel_rfl) ⟨[0, 2, 3, 4, 5, 6, 7, 8], by decide, rfl⟩ (qt_rd (rd_load Tryd.underlying82 rfl rfl (by exact ld_blk 6 rfl rfl))) ?_
        refine ga_first 1 (bm 9 3) rfl rfl rfl rfl (by kernel_rfl) (by kernel_rfl) ⟨[0, 2, 3, 4, 5, 6, 7, 8], by decide, rfl⟩ (qt_rd (rd_nilCheck rfl)) ?_
        refine ga_first 2 (bm 9 7) rfl rfl rfl rfl (by kernel_rfl) (by kernel_rfl) ⟨[0, 2, 3, 4, 5, 6, 7, 8], by decide, rfl⟩ (qt_rd (rd_fieldAddr rfl (fa_87_0 _))) ?_
        refine ga_first 3 (bm 9 15) rfl rfl rfl rfl (by kernel_rfl) (by kernel_rfl) ⟨[0, 2, 3, 4, 5, 6, 7, 8], by decide, rfl⟩ (qt_rd (rd_load Tryd.underlying84 rfl rfl (by exact ld_blk 7 rfl rfl))) ?_
        refine ga_first 4 (bm 9 31) rfl rfl rfl rfl (by kernel_rfl) (by kernel_rfl) ⟨[0, 2, 3, 4, 5, 6, 7, 8], by decide, rfl⟩ (qt_rd (rd_fieldAddr rfl (fa_67_2 _))) ?_
        refine ga_first 5 (bm 9 63) rfl rfl rfl rfl (by kernel_rfl) (by kernel_rfl) ⟨[0, 2, 3, 4, 5, 6, 7, 8], by decide, rfl⟩ (qt_rd (rd_load Tryd.underlying3 rfl rfl (by exact ld_blk 4 rfl rfl))) ?_
        refine ga_first 6 (bm 9 127) rfl rfl rfl rfl (by kernel_rfl) (by kernel_rfl) ⟨[0, 2, 3, 4, 5, 6, 7, 8], by decide, rfl⟩ (qt_rd (by exact rd_indexS Tryd.underlying84 ty_90 rfl rfl (by omega) (by omega))) ?_
        refine ga_first 7 (bm 9 255) rfl rfl rfl rfl (by kernel_rfl) (by kernel_rfl) ⟨[0, 2, 3, 4, 5, 6, 7, 8], by decide, rfl⟩ (qt_rd (rd_move rfl)) ?_
        refine ga_only 8 (bm 9 511) rfl rfl (by kernel_rfl) (by kernel_rfl) (.inr ⟨[0, 2, 3, 4, 5, 6, 7, 8], by decide, rfl⟩) (op_callM [1] [0, 2, 3, 4, 5, 6, 7, 8] rfl (vf := []) (vc := []) rfl rfl Tryd.call48 (by decide) rfl (fun w how hc => add_ok st1.sets x.dst.toNat kn k27 c27 s.ds.length hset.len (by have := hset.len; change _ = s.ds.length at this; omega) (by omega) hset.lt w hc) ?_)
        rintro _ _ ⟨rfl, rfl⟩
        refine ga_end (by kernel_rfl) (.inr ⟨[1, 2, 3, 4, 5, 6, 7, 8], by decide, rfl⟩) ?_
        refine gx_then <| gc_seq <| gc_drawP [0, 1, 3, 4, 5, 6, 7, 8] false 11 rfl <| ga_first 0 (bm 12 1) rfl rfl rfl rfl (by kernel_rfl) (by kernel_rfl) ⟨[0, 1, 3, 4, 5, 6, 7, 8], by decide, rfl⟩ (qt_rd (rd_load Tryd.underlying82 rfl rfl (by exact ld_blk 6 rfl rfl))) ?_
        refine ga_first 1 (bm 12 3) rfl rfl rfl rfl (by kernel_rfl) (by kernel_rfl) ⟨[0, 1, 3, 4, 5, 6, 7, 8], by decide, rfl⟩ (qt_rd (rd_nilCheck rfl)) ?_
        refine ga_first 2 (bm 12 7) rfl rfl rfl rfl (by kernel_rfl) (by kernel_rfl) ⟨[0, 1, 3, 4, 5, 6, 7, 8], by decide, rfl⟩ (qt_rd (rd_fieldAddr rfl (fa_87_1 _))) ?_
        refine ga_first 3 (bm 12 15) rfl rfl rfl rfl (by kernel_rfl) (by kernel_rfl) ⟨[0, 1, 3, 4, 5, 6, 7, 8], by decide, rfl⟩ (qt_rd (rd_load Tryd.underlying85 rfl rfl (by exact ld_blk 7 rfl rfl))) ?_
        refine ga_first 4 (bm 12 31) rfl rfl rfl rfl (by kernel_rfl) (by kernel_rfl) ⟨[0, 1, 3, 4, 5, 6, 7, 8], by decide, rfl⟩ (qt_rd (rd_fieldAddr rfl (fa_67_2 _))) ?_
        refine ga_first 5 (bm 12 63) rfl rfl rfl rfl (by kernel_rfl) (by kernel_rfl) ⟨[0, 1, 3, 4, 5, 6, 7, 8], by decide, rfl⟩ (qt_rd (rd_load Tryd.underlying3 rfl rfl (by exact ld_blk 4 rfl rfl))) ?_
        refine ga_first 6 (bm 12 127) rfl rfl rfl rfl (by kernel_rfl) (by kernel_rfl) ⟨[0, 1, 3, 4, 5, 6, 7, 8], by decide, rfl⟩ (qt_rd (rd_move rfl)) ?_
        refine ga_first 7 (bm 12 255) rfl rfl rfl rfl (by kernel_rfl) (by kernel_rfl) ⟨[0, 1, 3, 4, 5, 6, 7, 8], by decide, rfl⟩ (qt_rd (rd_build rfl (fun _ => bd_110_0_1 _ _))) ?_
        refine ga_first 8 (bm 12 511) rfl rfl rfl rfl (by kernel_rfl) (by kernel_rfl) ⟨[0, 1, 3, 4, 5, 6, 7, 8], by decide, rfl⟩ (qt_rd (rd_move rfl)) ?_
        refine ga_first 9 (bm 12 1023) rfl rfl rfl rfl (by kernel_rfl) (by kernel_rfl) ⟨[0, 1, 3, 4, 5, 6, 7, 8], by decide, rfl⟩ (qt_rd (rd_loadAgg Tryd.underlying110 rfl ty_110 rfl (by exact cs_blk 1 (off := 0) (k := 2) rfl rfl) rfl)) ?_
        refine ga_first 10 (bm 12 2047) rfl rfl rfl rfl (by kernel_rfl) (by kernel_rfl) ⟨[0, 1, 3, 4, 5, 6, 7, 8], by decide, rfl⟩ (qt_rd (rd_build rfl (fun _ => bd_122_0_1 _ _ _))) ?_
        refine ga_only 11 (bm 12 4095) rfl rfl (by kernel_rfl) (by kernel_rfl) (.inr ⟨[0, 1, 3, 4, 5, 6, 7, 8], by decide, rfl⟩) (op_mapPutP 2 stpV (v := ((i : Int), p)) Tryd.underlying85 i2_place rfl rfl rfl rfl (by rw [hdn]; exact mpOf_none (q := (x.dst.toNat, kn)) hno) rfl ?_)
        rw [show mapP stpV (mpOf st1.tb 0 ++ [⟨x.dst, (kn : Int), ((i : Int), p), st1.tb.length⟩]) (st1.tb.length + 1) = actO (st1.tb ++ [enOf st1.tb (x.dst.toNat, kn) i p]) by rw [← actO_snoc, (enOf_q _ _ _ _).1, (enOf_q _ _ _ _).2.1, (enOf_q _ _ _ _).2.2, ← hdn]]
        refine ga_end (by kernel_rfl) (.inl (by kernel_rfl)) ?_
        refine gx_then <| gc_region <| gl_op <| op_rd rfl (rd_move rfl) <| gl_op <| op_rd rfl (rd_fieldAddr rfl (fa_67_2 _)) <| gl_op (op_rd rfl (rd_load Tryd.underlying3 rfl rfl (by exact ld_blk 5 rfl rfl)) ?_)
        refine gl_op <| op_rd rfl (rd_move rfl) <| gl_op (op_rd rfl (rd_build rfl (fun _ => bd_110_0_1 _ _)) ?_)
        refine gl_op (op_buildSlice (sz := 2) rfl rfl (fun _ => bs_123_1_0 _ _) rfl rfl (fun b82 => ?_))
        refine gl_op (op_appendRow 4 0 Tryd.underlying123 ty_110 rfl (by decide) rfl rfl rfl rfl rfl (by simp [Value.oneCell']) (by omega) (by omega) (fun _ => (by rfl)) (fun r83 c83 => ?_))
        refine gl_op <| op_rd rfl (rd_assign rfl) <| gl_nil <| gx_block <| gx_then ?_
        rw [show o1.flatMap plC ++ [.int .i64 x.dst, .int .i64 (kn : Int)] = (o1 ++ [(x.dst.toNat, kn)]).flatMap plC by rw [List.flatMap_append]; simp only [List.flatMap_cons, List.flatMap_nil, plC, List.append_nil]; rw [show natV x.dst.toNat = .int .i64 x.dst from congrArg (Value.int .i64) hdn.symm], show o1.length + 1 = (o1 ++ [(x.dst.toNat, kn)]).length by simp]
        refine gc_region <| gl_op (op_rd rfl (by exact rd_addN (b := 1) rfl rfl (by omega)) ?_)
        refine gl_op <| op_rd rfl (rd_move rfl) <| gl_nil <| gx_then ?_
        exact gx_cut ((k + 1, (⟨addSet st1.sets (x.dst.toNat, kn), st1.tb ++ [enOf st1.tb (x.dst.toNat, kn) i p]⟩, o1 ++ [(x.dst.toNat, kn)]), r83, c83)) ⟨⟨by simp only; omega, by simp only; rw [fold_take _ _ hp, ← hX, stepR_new htg (by rw [hash]; exact hh)], hset.put (show x.dst.toNat < s.ds.length by omega) (by simp only; omega) (enOf_q _ _ _ _).1, by simp only [List.length_append, List.length_cons, List.length_nil]; omega⟩, by simp only; omega⟩ ⟨rfl, rfl, rfl, rfl, rfl, rfl, rfl, rfl, trivial⟩ ⟨[1, 3, 4, 5, 6, 7, 8, 9], by decide, rfl⟩
      refine ga_first 9 (bm 23 1023) rfl rfl rfl rfl (by kernel_rfl) (by kernel_rfl) ⟨[0, 1, 2, 3, 4, 5, 6, 7, 8], by decide, rfl⟩ (qt_rd (rd_pick_t rfl rfl)) ?_
      refine ga_first 10 (bm 23 2047) rfl rfl rfl rfl (by kernel_rfl) (by kernel_rfl) ⟨[0, 1, 2, 3, 4, 5, 6, 7, 8], by decide, rfl⟩ (qt_rd (rd_move rfl)) ?_
      refine ga_firstN 11 (bm 23 4095) rfl rfl rfl rfl rfl rfl (by kernel_rfl) (by kernel_rfl) ⟨[0, 1, 2, 3, 4, 5, 6, 7, 8], by decide, rfl⟩ ?_
      refine ga_firstN 12 (bm 23 8191) rfl rfl rfl rfl rfl rfl (by kernel_rfl) (by kernel_rfl) ⟨[0, 1, 2, 3, 4, 5, 6, 7, 8], by decide, rfl⟩ ?_
      refine ga_firstN 13 (bm 23 16383) rfl rfl rfl rfl rfl rfl (by kernel_rfl) (by kernel_rfl) ⟨[0, 1, 2, 3, 4, 5, 6, 7, 8], by decide, rfl⟩ ?_
      refine ga_firstN 14 (bm 23 32767) rfl rfl rfl rfl rfl rfl (by kernel_rfl) (by kernel_rfl) ⟨[0, 1, 2, 3, 4, 5, 6, 7, 8], by decide, rfl⟩ ?_
      refine ga_firstN 15 (bm 23 65535) rfl rfl rfl rfl rfl rfl (by kernel_rfl) (by kernel_rfl) ⟨[0, 1, 2, 3, 4, 5, 6, 7, 8], by decide, rfl⟩ ?_
      refine ga_firstN 16 (bm 23 131071) rfl rfl rfl rfl rfl rfl (by kernel_rfl) (by kernel_rfl) ⟨[0, 1, 2, 3, 4, 5, 6, 7, 8], by decide, rfl⟩ ?_
      refine ga_firstN 17 (bm 23 262143) rfl rfl rfl rfl rfl rfl (by kernel_rfl) (by kernel_rfl) ⟨[0, 1, 2, 3, 4, 5, 6, 7, 8], by decide, rfl⟩ ?_
      refine ga_firstN 18 (bm 23 524287) rfl rfl rfl rfl rfl rfl (by kernel_rfl) (by kernel_rfl) ⟨[0, 1, 2, 3, 4, 5, 6, 7, 8], by decide, rfl⟩ ?_
      refine ga_firstN 19 (bm 23 1048575) rfl rfl rfl rfl rfl rfl (by kernel_rfl) (by kernel_rfl) ⟨[0, 1, 2, 3, 4, 5, 6, 7, 8], by decide, rfl⟩ ?_
      refine ga_firstN 20 (bm 23 2097151) rfl rfl rfl rfl rfl rfl (by kernel_rfl) (by kernel_rfl) ⟨[0, 1, 2, 3, 4, 5, 6, 7, 8], by decide, rfl⟩ ?_
      refine ga_firstN 21 (bm 23 4194303) rfl rfl rfl rfl rfl rfl (by kernel_rfl) (by kernel_rfl) ⟨[0, 1, 2, 3, 4, 5, 6, 7, 8], by decide, rfl⟩ ?_
      refine ga_first 22 (bm 23 8388607) rfl rfl rfl rfl (by kernel_rfl) (by kernel_rfl) ⟨[0, 1, 2, 3, 4, 5, 6, 7, 8], by decide, rfl⟩ (qt_rd (rd_pick_f rfl rfl)) ?_
      refine ga_end (by kernel_rfl) (.inr ⟨[0, 1, 2, 3, 4, 5, 6, 7, 8], by decide, rfl⟩) ?_
      refine gx_then <| gc_cond_f rfl <| gc_skip <| gx_block <| gx_then <| gc_region <| gl_op (op_rd rfl (by exact rd_addN (b := 1) rfl rfl (by omega)) ?_)
      refine gl_op <| op_rd rfl (rd_move rfl) <| gl_nil <| gx_then ?_
      exact gx_cut ((k + 1, (st1, o1), r, c)) ⟨⟨by simp only; omega, by simp only; rw [fold_take _ _ hp, ← hX, stepR_no (by rw [hxi, hdi]; omega)], hset, by simp only; omega⟩, by simp only; omega⟩ ⟨rfl, rfl, rfl, rfl, rfl, rfl, rfl, rfl, trivial⟩ ⟨[1, 2, 3, 4, 5, 6, 7, 8], by decide, rfl⟩
    refine ga_first 4 (bm 23 31) rfl rfl rfl rfl (by kernel_rfl) (by kernel_rfl) ⟨[0, 1, 2, 3, 4, 5, 6, 7, 8], by decide, rfl⟩ (qt_rd (rd_move rfl)) ?_
    refine ga_firstN 5 (bm 23 63) rfl rfl rfl rfl rfl rfl (by kernel_rfl) (by kernel_rfl) ⟨[0, 1, 2, 3, 4, 5, 6, 7, 8], by decide, rfl⟩ ?_
    refine ga_firstN 6 (bm 23 127) rfl rfl rfl rfl rfl rfl (by kernel_rfl) (by kernel_rfl) ⟨[0, 1, 2, 3, 4, 5, 6, 7, 8], by decide, rfl⟩ ?_
    refine ga_firstN 7 (bm 23 255) rfl rfl rfl rfl rfl rfl (by kernel_rfl) (by kernel_rfl) ⟨[0, 1, 2, 3, 4, 5, 6, 7, 8], by decide, rfl⟩ ?_
    refine ga_firstN 8 (bm 23 511) rfl rfl rfl rfl rfl rfl (by kernel_rfl) (by kernel_rfl) ⟨[0, 1, 2, 3, 4, 5, 6, 7, 8], by decide, rfl⟩ ?_
    refine ga_first 9 (bm 23 1023) rfl rfl rfl rfl (by kernel_rfl) (by kernel_rfl) ⟨[0, 1, 2, 3, 4, 5, 6, 7, 8], by decide, rfl⟩ (qt_rd (rd_pick_f rfl rfl)) ?_
    refine ga_first 10 (bm 23 2047) rfl rfl rfl rfl (by kernel_rfl) (by kernel_rfl) ⟨[0, 1, 2, 3, 4, 5, 6, 7, 8], by decide, rfl⟩ (qt_rd (rd_move rfl)) ?_
    refine ga_firstN 11 (bm 23 4095) rfl rfl rfl rfl rfl rfl (by kernel_rfl) (by kernel_rfl) ⟨[0, 1, 2, 3, 4, 5, 6, 7, 8], by decide, rfl⟩ ?_
    refine ga_firstN 12 (bm 23 8191) rfl rfl rfl rfl rfl rfl (by kernel_rfl) (by kernel_rfl) ⟨[0, 1, 2, 3, 4, 5, 6, 7, 8], by decide, rfl⟩ ?_
    refine ga_firstN 13 (bm 23 16383) rfl rfl rfl rfl rfl rfl (by kernel_rfl) (by kernel_rfl) ⟨[0, 1, 2, 3, 4, 5, 6, 7, 8], by decide, rfl⟩ ?_
    refine ga_firstN 14 (bm 23 32767) rfl rfl rfl rfl rfl rfl (by kernel_rfl) (by kernel_rfl) ⟨[0, 1, 2, 3, 4, 5, 6, 7, 8], by decide, rfl⟩ ?_
    refine ga_firstN 15 (bm 23 65535) rfl rfl rfl rfl rfl rfl (by kernel_rfl) (by kernel_rfl) ⟨[0, 1, 2, 3, 4, 5, 6, 7, 8], by decide, rfl⟩ ?_
    refine ga_firstN 16 (bm 23 131071) rfl rfl rfl rfl rfl rfl (by kernel_rfl) (by kernel_rfl) ⟨[0, 1, 2, 3, 4, 5, 6, 7, 8], by decide, rfl⟩ ?_
    refine ga_firstN 17 (bm 23 262143) rfl rfl rfl rfl rfl rfl (by kernel_rfl) (by kernel_rfl) ⟨[0, 1, 2, 3, 4, 5, 6, 7, 8], by decide, rfl⟩ ?_
    refine ga_firstN 18 (bm 23 524287) rfl rfl rfl rfl rfl rfl (by kernel_rfl) (by kernel_rfl) ⟨[0, 1, 2, 3, 4, 5, 6, 7, 8], by decide, rfl⟩ ?_
    refine ga_firstN 19 (bm 23 1048575) rfl rfl rfl rfl rfl rfl (by kernel_rfl) (by kernel_rfl) ⟨[0, 1, 2, 3, 4, 5, 6, 7, 8], by decide, rfl⟩ ?_
    refine ga_firstN 20 (bm 23 2097151) rfl rfl rfl rfl rfl rfl (by kernel_rfl) (by kernel_rfl) ⟨[0, 1, 2, 3, 4, 5, 6, 7, 8], by decide, rfl⟩ ?_
    refine ga_firstN 21 (bm 23 4194303) rfl rfl rfl rfl rfl rfl (by kernel_rfl) (by kernel_rfl) ⟨[0, 1, 2, 3, 4, 5, 6, 7, 8], by decide, rfl⟩ ?_
    refine ga_first 22 (bm 23 8388607) rfl rfl rfl rfl (by kernel_rfl) (by kernel_rfl) ⟨[0, 1, 2, 3, 4, 5, 6, 7, 8], by decide, rfl⟩ (qt_rd (rd_pick_f rfl rfl)) ?_
    refine ga_end (by kernel_rfl) (.inr ⟨[0, 1, 2, 3, 4, 5, 6, 7, 8], by decide, rfl⟩) ?_
    refine gx_then <| gc_cond_f rfl <| gc_skip <| gx_block <| gx_then <| gc_region <| gl_op (op_rd rfl (by exact rd_addN (b := 1) rfl rfl (by omega)) ?_)
    refine gl_op <| op_rd rfl (rd_move rfl) <| gl_nil <| gx_then ?_
    exact gx_cut ((k + 1, (st1, o1), r, c)) ⟨⟨by simp only; omega, by simp only; rw [fold_take _ _ hp, ← hX, stepR_no (by rw [hxi, hdi]; omega)], hset, by simp only; omega⟩, by simp only; omega⟩ ⟨rfl, rfl, rfl, rfl, rfl, rfl, rfl, rfl, trivial⟩ ⟨[1, 2, 3, 4, 5, 6, 7, 8], by decide, rfl⟩
  refine gl_nil <| gx_then <| gc_seq <| gc_cond_f rfl <| gc_exit <| gx_then_exit <| gx_then_exit <| gx_block_exit <| gx_then <| gc_seq <| gc_region <| gl_op <| op_rd rfl (rd_move rfl) <| gl_op <| op_rd rfl (rd_assign rfl) <| gl_nil <| gx_then <| gc_ret <| gx_ret1 (.inl rfl) Tryd.results49 rfl [5, 6, 7, 0, 1, 2] (by decide) ?_
  have hk9 : k = l.length := by omega
  rw [hk9, List.take_length] at hX
  unfold reachP
  rw [← hX]
  exact ⟨r, c, rfl, rfl⟩
end Go.Proofs.YtbjijbbkfgcleaaDoor
namespace Go.Proofs.YtbjijbbkfgcleaaDoor
open Go.Gv
open Go.RowKit
open Go.Sn
open Sx
namespace Sx
theorem get_gr {gs : List GR} {k : Nat} {g : GR} (h : gs[k]? = some g) : (gs.map GR.cell)[k]? = some g.cell := by rw [List.getElem?_map, h]; rfl
theorem set_gr (ys : List GR) (i : Nat) (g : GR) : (ys.map GR.cell).set i (.slice (rowA g.r) g.ps.length g.c) = (ys.set i g).map GR.cell := by rw [List.map_set]; rfl
theorem set_take_snoc {α : Type} {ys : List α} {i : Nat} {g : α} (h : i < ys.length) : (ys.take (i + 1)).set i g = ys.take i ++ [g] := by
  apply List.ext_getElem?
  intro q
  rw [List.getElem?_set, List.length_take, List.getElem?_append, List.length_take, Nat.min_eq_left (show i ≤ ys.length by omega), Nat.min_eq_left (show i + 1 ≤ ys.length by omega)]
  by_cases h1 : i = q
  · subst h1; simp
  · rw [if_neg h1]
    by_cases h2 : q < i
    · rw [if_pos h2, List.getElem?_take, List.getElem?_take, if_pos h2, if_pos (by omega)]
    · rw [if_neg h2, List.getElem?_take, if_neg (by omega)]
      have : q - i ≠ 0 := by omega
      simp [this]
end Sx
open Sx
set_option maxRecDepth 100000 in
set_option maxHeartbeats 1000000 in
theorem empty_ok (a : Option Addr) (n c : Nat) (w0 : World) : Sp Tryd.prog 53 [.slice a n c] w0 [] (RV (.bool (decide (n = 0)))) := by
  refine spec_enter Tryd.func53 rfl Tryd.ntmps53 rfl (Own.refl _) ?_
  simp only [argEnv]
  refine gc_seq <| gc_region <| gl_op <| op_rd rfl (rd_assign rfl) <| gl_nil <| gx_then <| gc_seq <| gc_region <| gl_op <| op_rd rfl (rd_move rfl) <| gl_op <| op_rd rfl (rd_lenSlice Tryd.underlying123 rfl) <| gl_op <| op_rd rfl (rd_eql rfl rfl) <| gl_op <| op_rd rfl (rd_assign rfl) <| gl_nil <| gx_then <| gc_ret <| gx_ret1 (.inl rfl) Tryd.results53 rfl [] (by decide) ?_
  refine ⟨congrArg Value.bool ?_, rfl⟩
  rw [Bool.eq_iff_iff]; simp
set_option maxRecDepth 100000 in
set_option maxHeartbeats 1000000 in
theorem IndexG_ok (gs : List GR) (a : Option Addr) (cp : Nat) (hl : gs.length ≤ 1000000) (w0 : World) (hsl : OldSl w0 [] a gs.length 1 (gs.map GR.cell)) : Sp Tryd.prog 77 [.slice a gs.length cp, .func (.func 53) #[] #[]] w0 [] (RV (.int .i64 (idxE gs 0))) := by
  refine spec_enter Tryd.func77 rfl Tryd.ntmps77 rfl (Own.refl _) ?_
  simp only [argEnv]
  refine gc_seq <| gc_region <| gl_op <| op_rd rfl (rd_assign rfl) <| gl_nil <| gx_then <| gc_seq <| gc_seq <| gc_region <| gl_op <| op_rd rfl (rd_move rfl) <| gl_op <| op_rd rfl (rd_lenSlice Tryd.underlying126 rfl) <| gl_op <| op_rd rfl (rd_move rfl) <| gl_nil <| gx_then <| gc_block <| gc_loopF (ι := Nat) [(0, _), (1, _), (7, _)] [] (fun k => k ≤ gs.length ∧ idxE gs 0 = idxE (gs.drop k) k) (fun k Fr0 => ((8, natV k) :: Fr0)) (fun k Fr0 => Fr0) (fun k => gs.length - k) 0 (⟨Nat.zero_le _, rfl⟩) ⟨rfl, rfl, rfl, rfl, trivial⟩ ⟨[], by decide, rfl⟩ ?_
  rintro k ⟨hk, hrun⟩
  refine gc_seq <| gc_region <| gl_op (op_rd rfl (rd_lss rfl rfl) (gk_dec (fun h9 => ?_) (fun h9 => ?_)))
  · obtain ⟨g, hg⟩ := get_some (show k < gs.length by omega)
    refine gl_nil <| gx_then <| gc_seq <| gc_cond_t rfl <| gc_skip <| gx_then <| gc_seq <| gc_block <| gc_seq <| gc_region <| gl_op <| op_rd rfl (rd_move rfl) <| gl_op <| op_rd rfl (rd_assign rfl) <| gl_nil <| gx_then <| gc_seq <| gc_region <| gl_op <| op_rd rfl (rd_move rfl) <| gl_op <| op_rd rfl (rd_move rfl) <| gl_op <| op_rd rfl (rd_move rfl) <| gl_op (op_rd rfl (rd_indexOld1 hsl Tryd.underlying126 ty_123 rfl rfl (by omega) (by omega)) ?_)
    refine gl_op <| op_rd rfl (rd_load Tryd.underlying123 rfl rfl (ld_slN hsl (get_gr hg))) ?_
    simp only [GR.cell]
    refine gl_op (op_call rfl (vf := []) (vc := []) rfl rfl Tryd.call53 (fun w1 ho => empty_ok _ _ _ w1) ?_)
    rintro _ _ ⟨rfl, rfl⟩
    refine gk_bool (fun he => ?_) (fun he => ?_)
    · refine gl_nil <| gx_then <| gc_cond_t rfl <| gc_seq <| gc_region <| gl_op <| op_rd rfl (rd_move rfl) <| gl_op <| op_rd rfl (rd_assign rfl) <| gl_nil <| gx_then <| gc_ret <| gx_block_ret <| gx_then_ret <| gx_then_ret <| gx_block_ret <| gx_then_ret <| gx_ret1 (.inl rfl) Tryd.results77 rfl [] (by decide) ?_
      rw [hrun, idxE_at hg, if_pos (by simpa using he)]
      exact ⟨rfl, rfl⟩
    refine gl_nil <| gx_then <| gc_cond_f rfl <| gc_skip <| gx_block <| gx_then <| gc_region <| gl_op (op_rd rfl (by exact rd_addN (b := 1) rfl rfl (by omega)) ?_)
    refine gl_op <| op_rd rfl (rd_move rfl) <| gl_nil <| gx_then ?_
    exact gx_cut (k + 1) ⟨⟨by omega, by rw [hrun, idxE_at hg, if_neg (by simpa using he)]⟩, by omega⟩ ⟨rfl, rfl, rfl, rfl, trivial⟩ ⟨[], by decide, rfl⟩
  refine gl_nil <| gx_then <| gc_seq <| gc_cond_f rfl <| gc_exit <| gx_then_exit <| gx_then_exit <| gx_block_exit <| gx_then <| gc_seq <| gc_region <| gl_op <| op_rd rfl (rd_assign rfl) <| gl_nil <| gx_then <| gc_ret <| gx_ret1 (.inl rfl) Tryd.results77 rfl [] (by decide) ?_
  rw [hrun, List.drop_eq_nil_of_le (by omega)]
  exact ⟨rfl, rfl⟩
set_option maxRecDepth 100000 in
set_option maxHeartbeats 1000000 in
theorem DeleteG_ok (gs : List GR) (r : Option Nat) (c : Nat) (hl : gs.length ≤ 1000000) (S : List Nat) (w0 : World) (hown : Own w0 S w0 [.row 123 1 r gs.length c (gs.map GR.cell)]) : Sp Tryd.prog 52 [.slice (rowA r) gs.length c, .func (.func 53) #[] #[]] w0 S (fun v L => v = .slice (rowA r) (gs.filter neB).length c ∧ L = [.row 123 1 r (gs.filter neB).length c ((gs.filter neB).map GR.cell)]) := by
  have hcap := row_cap (hown.holds (.row 123 1 r gs.length c (gs.map GR.cell)) (by simp))
  refine spec_enter Tryd.func52 rfl Tryd.ntmps52 rfl hown ?_
  simp only [argEnv]
  refine gc_seq <| gc_region <| gl_op <| op_rd rfl (rd_assign rfl) <| gl_nil <| gx_then <| gc_seq <| gc_region <| gl_op <| op_rd rfl (rd_move rfl) <| gl_op <| op_rd rfl (rd_move rfl) <| gl_op (op_call rfl (vf := []) (vc := []) rfl rfl Tryd.call77 (fun w1 ho => IndexG_ok gs _ c hl w1 (ho.rowSl 0 rfl)) ?_)
  rintro _ _ ⟨rfl, rfl⟩
  refine gl_op <| op_rd rfl (rd_assign rfl) <| gl_nil <| gx_then <| gc_seq <| gc_seq <| gc_region <| gl_op <| op_rd rfl (rd_move rfl) <| gl_op (op_rd rfl (rd_eql rfl rfl) (gk_dec (fun h12 => ?_) (fun h12 => ?_)))
  · refine gl_nil <| gx_then <| gc_cond_t rfl <| gc_seq <| gc_region <| gl_op <| op_rd rfl (rd_move rfl) <| gl_op <| op_rd rfl (rd_assign rfl) <| gl_nil <| gx_then <| gc_ret <| gx_then_ret <| gx_ret1 (.inl rfl) Tryd.results52 rfl [0] (by decide) ?_
    have hn := idxE_none (show idxE gs 0 = -1 by omega)
    rw [hn]
    exact ⟨rfl, rfl⟩
  have hle := idxE_le gs 0
  obtain ⟨i0, hi0⟩ : ∃ i0 : Nat, idxE gs 0 = i0 := ⟨(idxE gs 0).toNat, by omega⟩
  have hsome := idxE_some (l := gs) (k := 0) (j := i0) (by rw [hi0, Nat.zero_add])
  rw [hi0]
  refine gl_nil <| gx_then <| gc_cond_f rfl <| gc_skip <| gx_then <| gc_seq <| gc_seq <| gc_region <| gl_op <| op_rd rfl (rd_move rfl) <| gl_op (op_rd rfl (by exact rd_addN (b := 1) rfl rfl (by omega)) ?_)
  refine gl_op <| op_rd rfl (rd_assign rfl) <| gl_nil <| gx_then <| gc_block <| gc_loopF (ι := Nat × List GR) [(0, _), (1, _)] [] (fun q => q.1 ≤ gs.length ∧ q.2.length = gs.length ∧ ((gs.take q.1).filter neB).length < q.1 ∧ q.2.take ((gs.take q.1).filter neB).length = (gs.take q.1).filter neB ∧ q.2.drop q.1 = gs.drop q.1) (fun q Fr0 => ((5, natV ((gs.take q.1).filter neB).length) :: (6, natV q.1) :: Fr0)) (fun q Fr0 => (.row 123 1 r gs.length c (q.2.map GR.cell) :: Fr0)) (fun q => gs.length - q.1) (i0 + 1, gs) (⟨hsome.1, rfl, by simp only; rw [hsome.2, List.length_take, Nat.min_eq_left (by omega)]; omega, by simp only; rw [hsome.2, List.length_take, Nat.min_eq_left (by omega)], rfl⟩) ⟨(by rw [hsome.2, List.length_take, Nat.min_eq_left (by omega)]; rfl), rfl, rfl, rfl, trivial⟩ ⟨[0], by decide, rfl⟩ ?_
  rintro ⟨j, ys⟩ ⟨hj, hyl, hlt, htk, hdr⟩
  simp only at hj hyl hlt htk hdr ⊢
  obtain ⟨i, hi⟩ : ∃ i, ((gs.take j).filter neB).length = i := ⟨_, rfl⟩
  rw [hi] at hlt htk ⊢
  refine gc_seq <| gc_seq <| gc_region <| gl_op <| op_rd rfl (rd_move rfl) <| gl_op <| op_rd rfl (rd_move rfl) <| gl_op <| op_rd rfl (rd_lenSlice Tryd.underlying126 rfl) <| gl_op (op_rd rfl (rd_lss rfl rfl) (gk_dec (fun h19 => ?_) (fun h19 => ?_)))
  · obtain ⟨g, hg⟩ := get_some (show j < gs.length by omega)
    have hyg : ys[j]? = some g := by
      have h8 := congrArg (fun l => l[0]?) hdr
      simp only [List.getElem?_drop, Nat.add_zero] at h8
      rw [h8]; exact hg
    refine gl_nil <| gx_then <| gc_cond_t rfl <| gc_skip <| gx_then <| gc_seq <| gc_block <| gc_seq <| gc_region <| gl_op <| op_rd rfl (rd_move rfl) <| gl_op <| op_rd rfl (rd_move rfl) <| gl_op (op_rd rfl (by exact rd_indexRow1 0 rfl Tryd.underlying126 ty_123 rfl rfl (by omega) (by omega)) ?_)
    refine gl_op <| op_rd rfl (rd_load Tryd.underlying123 rfl rfl (ld_rowN 0 rfl (get_gr hyg))) <| gl_op <| op_rd rfl (rd_assign rfl) <| gl_nil <| gx_then <| gc_seq <| gc_region <| gl_op <| op_rd rfl (rd_move rfl) <| gl_op <| op_rd rfl (rd_move rfl) ?_
    simp only [GR.cell]
    refine gl_op (op_call rfl (vf := []) (vc := []) rfl rfl Tryd.call53 (fun w1 ho => empty_ok _ _ _ w1) ?_)
    rintro _ _ ⟨rfl, rfl⟩
    refine gk_bool (fun he => ?_) (fun he => ?_)
    · have hge : neB g = false := by unfold neB; simp at he ⊢; exact he
      have hfe : (gs.take (j + 1)).filter neB = (gs.take j).filter neB := by rw [take_at hg, List.filter_append]; simp [hge]
      have hfl : ((gs.take (j + 1)).filter neB).length = i := by rw [hfe, hi]
      refine gl_op <| op_rd rfl (rd_not rfl) <| gl_nil <| gx_then <| gc_cond_f rfl <| gc_skip <| gx_block <| gx_then <| gc_region <| gl_op <| op_rd rfl (rd_move rfl) <| gl_op (op_rd rfl (by exact rd_addN (b := 1) rfl rfl (by omega)) ?_)
      refine gl_op <| op_rd rfl (rd_assign rfl) <| gl_nil <| gx_then ?_
      exact gx_cut ((j + 1, ys)) ⟨⟨by simp only; omega, hyl, by simp only; rw [hfl]; omega, by simp only; rw [hfl, hfe]; exact htk, by simp only; rw [← List.drop_drop, hdr, List.drop_drop]⟩, by simp only; omega⟩ ⟨(by rw [hfl]; rfl), rfl, rfl, rfl, trivial⟩ ⟨[0], by decide, rfl⟩
    have hge : neB g = true := by unfold neB; simp at he ⊢; exact he
    have hfe : (gs.take (j + 1)).filter neB = (gs.take j).filter neB ++ [g] := by rw [take_at hg, List.filter_append]; simp [hge]
    have hfl : ((gs.take (j + 1)).filter neB).length = i + 1 := by rw [hfe, List.length_append, hi]; rfl
    refine gl_op <| op_rd rfl (rd_not rfl) <| gl_nil <| gx_then <| gc_cond_t rfl <| gc_seq <| gc_region <| gl_op <| op_rd rfl (rd_move rfl) <| gl_op <| op_rd rfl (rd_move rfl) <| gl_op <| op_rd rfl (rd_move rfl) <| gl_op (op_rd rfl (by exact rd_indexRow1 0 rfl Tryd.underlying126 ty_123 rfl rfl (by omega) (by omega)) ?_)
    refine gl_op (op_storeRowE 0 ty_123 rfl rfl rfl rfl (by rw [List.length_map]; omega) (set_gr ys i g) (by rfl) ?_)
    refine gl_nil <| gx_then <| gc_region <| gl_op <| op_rd rfl (rd_move rfl) <| gl_op (op_rd rfl (by exact rd_addN (b := 1) rfl rfl (by omega)) ?_)
    refine gl_op <| op_rd rfl (rd_assign rfl) <| gl_nil <| gx_block <| gx_then <| gc_region <| gl_op <| op_rd rfl (rd_move rfl) <| gl_op (op_rd rfl (by exact rd_addN (b := 1) rfl rfl (by omega)) ?_)
    refine gl_op <| op_rd rfl (rd_assign rfl) <| gl_nil <| gx_then ?_
    exact gx_cut ((j + 1, ys.set i g)) ⟨⟨by simp only; omega, by simp only; rw [List.length_set]; exact hyl, by simp only; rw [hfl]; omega, by simp only; rw [hfl, hfe, List.take_set, ← htk]; exact set_take_snoc (by omega), by simp only; rw [List.drop_set_of_lt (by omega), ← List.drop_drop, hdr, List.drop_drop]⟩, by simp only; omega⟩ ⟨(by rw [hfl]; rfl), rfl, rfl, rfl, trivial⟩ ⟨[0], by decide, rfl⟩
  refine gl_nil <| gx_then <| gc_cond_f rfl <| gc_exit <| gx_then_exit <| gx_then_exit <| gx_block_exit <| gx_then <| gc_seq ?_
  have hj9 : j = gs.length := by omega
  rw [hj9, List.take_length] at hi htk
  refine gc_region <| gl_op <| op_rd rfl (rd_move rfl) <| gl_op <| op_rd rfl (rd_move rfl) <| gl_op (op_rd rfl (rd_sliceLo Tryd.underlying126 ty_123 rfl rfl (by omega) (by omega)) ?_)
  simp only [Int.toNat_natCast]
  refine gl_op (op_clearRow 0 Tryd.underlying126 ty_123 rfl rfl rfl rfl (by omega) (by rw [← List.map_take, htk]) ?_)
  refine gl_nil <| gx_then <| gc_seq <| gc_region <| gl_op <| op_rd rfl (rd_move rfl) <| gl_op <| op_rd rfl (rd_move rfl) <| gl_op (op_rd rfl (rd_sliceHi Tryd.underlying126 ty_123 rfl rfl (by omega) (by omega)) ?_)
  refine gl_op <| op_rd rfl (rd_assign rfl) <| gl_nil <| gx_then <| gc_ret <| gx_ret1 (.inl rfl) Tryd.results52 rfl [0] (by decide) ?_
  simp only [Int.toNat_natCast]
  rw [← hi]
  exact ⟨rfl, rfl⟩
end Go.Proofs.YtbjijbbkfgcleaaDoor
namespace Go.Proofs.YtbjijbbkfgcleaaDoor
open Go.Gv
open Go.RowKit
open Go.Sn
open Sx
namespace Sx
/-- the groups in memory -/
structure GSOk (A : Cx) (x : GS) (G : List GR) (T : List HL) : Prop where
  set : SetOk A x.1
  ps : G.map GR.ps = x.2
  ok : ∀ g ∈ G, GOk g.ps
  tl : ∀ g ∈ G, RG g.r g.c g.ps ∈ T
theorem GSOk.put {A : Cx} {x1 : AS} {x2 : List (List Pl)} {G : List GR} {T : List HL} (h : GSOk A (x1, x2) G T) {st : AS} (hs : SetOk A st) {rg : Option Nat} {cg : Nat} {ps : List Pl} (hp : GOk ps) : GSOk A (st, x2 ++ [ps]) (G ++ [⟨rg, cg, ps⟩]) (T ++ [RG rg cg ps]) := by
  refine ⟨hs, by rw [List.map_append, h.ps]; rfl, fun g hg => ?_, fun g hg => ?_⟩
  · rcases List.mem_append.1 hg with hg | hg
    · exact h.ok g hg
    · rw [List.mem_singleton.1 hg]; exact hp
  · rcases List.mem_append.1 hg with hg | hg
    · exact List.mem_append_left _ (h.tl g hg)
    · rw [List.mem_singleton.1 hg]; exact List.mem_append_right _ (by simp)
theorem GSOk.filter {A : Cx} {x : GS} {G : List GR} {T : List HL} (h : GSOk A x G T) : GSOk A (x.1, x.2.filter fun l => decide (l ≠ [])) (G.filter neB) T := by
  refine ⟨h.set, ?_, fun g hg => h.ok g (List.mem_filter.1 hg).1, fun g hg => h.tl g (List.mem_filter.1 hg).1⟩
  show _ = x.2.filter _
  rw [← h.ps, List.filter_map]; rfl
theorem get_kn {ks : List KN} {k : Nat} {r : KN} (h : ks[k]? = some r) : (ks.map KN.cell)[k]? = some (.slice r.a r.ks.length r.c) := by rw [List.getElem?_map, h]; rfl
theorem get_nz {zs : List Nat} {k z : Nat} (h : zs[k]? = some z) : (zs.map natV)[k]? = some (natV z) := by rw [List.getElem?_map, h]; rfl
theorem snoc_gr (G : List GR) (rg : Option Nat) (cg : Nat) (ps : List Pl) : G.map GR.cell ++ [.slice (rowA rg) ps.length cg] = (G ++ [(⟨rg, cg, ps⟩ : GR)]).map GR.cell := by rw [List.map_append]; rfl
theorem setC_zero : (Value.agg #[.int .u64 0, .int .u64 0]).cells.toList = setC 0 := rfl
end Sx
open Sx
set_option maxRecDepth 100000 in
set_option maxHeartbeats 1000000 in
theorem acting_ok (s : Org) (h : HN) (hle : OrgLe s) (hg : HGood s h) (w0 : World) (hS : OrgIn s w0 []) (hH : HNIn h w0 []) : Sp Tryd.prog 32 [s.val, h.val] w0 [] (fun v L => ∃ b30 k27 c27 m28, v = .pointer (some ⟨b30, 0, none⟩) ∧ L = [BK s.ds.length b30 k27 c27 m28, RS s.ds.length k27 c27 (actP (cxN s h)).sets, OM m28 (actP (cxN s h)).tb]) := by
  have hA := hg.cx
  have hnd : s.ds.length ≤ 6 := hA.nd
  have hkl : h.ks.length = s.ds.length := by have := hA.nk; simpa [cxN] using this
  have hnc := hg.nc
  have hcl : h.cs.length ≤ s.cs.length := asc_len hA.dra hA.drn
  refine spec_enter Tryd.func32 rfl Tryd.ntmps32 rfl (Own.refl _) ?_
  simp only [argEnv]
  refine gc_seq <| gc_region <| gl_op (op_box rfl rfl rfl (fun b2 => ?_))
  refine gl_op (op_box rfl rfl rfl (fun b3 => ?_))
  refine gl_op <| op_rd rfl (rd_assign rfl) <| gl_nil <| gx_then <| gc_seq <| gc_region <| gl_op <| op_rd rfl (rd_fieldAddr rfl (fa_27_0 _)) <| gl_op (op_rd rfl (rd_load Tryd.underlying22 rfl rfl (by exact ld_blk 1 rfl rfl)) ?_)
  refine gl_op <| op_rd rfl (rd_lenSlice Tryd.underlying22 rfl) <| gl_op (op_makeSlice (s.ds.length) Tryd.underlying84 ty_90 rfl rfl rfl (by omega) (by omega) (by omega) (by omega) (fun b27 => ?_))
  refine gl_op (op_makeMapP stpV rfl (fun b28 => ?_))
  refine gl_op (op_rd rfl (rd_build rfl (fun _ => bd_87_0_1 _ _ _ _)) ?_)
  refine gl_op (op_box rfl rfl rfl (fun b30 => ?_))
  refine gl_op (op_alloc ty_82 rfl rfl (fun b5 => ?_))
  refine gl_op (op_store 0 ty_82 rfl rfl rfl rfl rfl (by rfl) (by rfl) ?_)
  refine gl_nil <| gx_then <| gc_seq <| gc_seq ?_
  rw [made_flat setC 2 _ 0 setC_zero (fun _ => rfl) (by decide), actO_nil]
  refine gc_region <| gl_op <| op_rd rfl (rd_fieldAddr rfl (fa_31_0 _)) <| gl_op (op_rd rfl (rd_load Tryd.underlying28 rfl rfl (by exact ld_blk 4 rfl rfl)) ?_)
  refine gl_op <| op_rd rfl (rd_lenSlice Tryd.underlying28 rfl) <| gl_op <| op_rd rfl (rd_move rfl) <| gl_nil <| gx_then <| gc_block <| gc_loopF (ι := Nat) [(2, _), (3, _), (5, _), (32, _), (33, _)] [_, _, _, _] (fun k => k ≤ h.ks.length) (fun k Fr0 => ((34, natV k) :: Fr0)) (fun k Fr0 => (.row 90 2 (some b27) s.ds.length s.ds.length (((stPre (cxN s h) k 0).sets).flatMap setC) :: .obj b28 (actO (stPre (cxN s h) k 0).tb) :: Fr0)) (fun k => h.ks.length - k) 0 (Nat.zero_le _) ⟨rfl, rfl, rfl, rfl, rfl, rfl, trivial⟩ ⟨[3, 2, 0, 1, 4, 5], by decide, rfl⟩ ?_
  rintro k hk
  refine gc_seq <| gc_region <| gl_op (op_rd rfl (rd_lss rfl rfl) (gk_dec (fun h35 => ?_) (fun h35 => ?_)))
  · obtain ⟨r, hr⟩ := get_some (show k < h.ks.length by omega)
    have hrm := List.mem_of_getElem? hr
    have hkd : (cxN s h).kd k = r.ks := by
      show (h.ks.map KN.ks).getD k [] = r.ks
      rw [List.getD_eq_getElem?_getD, List.getElem?_map, hr]; rfl
    have hrl := hg.hk r hrm
    refine gl_nil <| gx_then <| gc_seq <| gc_cond_t rfl <| gc_skip <| gx_then <| gc_seq <| gc_block <| gc_seq <| gc_region <| gl_op <| op_rd rfl (rd_move rfl) <| gl_op (op_rd rfl (rd_indexOld1 hH.k Tryd.underlying28 ty_29 rfl rfl (by omega) (by omega)) ?_)
    refine gl_op <| op_rd rfl (rd_load Tryd.underlying29 rfl rfl (ld_slN hH.k (get_kn hr))) <| gl_op <| op_rd rfl (rd_assign rfl) <| gl_op <| op_rd rfl (rd_assign rfl) <| gl_nil <| gx_then <| gc_seq <| gc_region <| gl_op <| op_rd rfl (rd_move rfl) <| gl_op <| op_rd rfl (rd_lenSlice Tryd.underlying29 rfl) <| gl_op <| op_rd rfl (rd_move rfl) <| gl_nil <| gx_then <| gc_block <| gc_loopF (ι := Nat) [(2, _), (3, _), (5, _), (6, _), (32, _), (33, _), (34, _), (39, _), (40, _)] [_, _, _, _] (fun j => j ≤ r.ks.length) (fun j Fr0 => ((41, natV j) :: Fr0)) (fun j Fr0 => (.row 90 2 (some b27) s.ds.length s.ds.length (((stPre (cxN s h) k j).sets).flatMap setC) :: .obj b28 (actO (stPre (cxN s h) k j).tb) :: Fr0)) (fun j => r.ks.length - j) 0 (Nat.zero_le _) ⟨rfl, rfl, rfl, rfl, rfl, rfl, rfl, rfl, rfl, rfl, trivial⟩ ⟨[0, 1, 2, 3, 4, 5], by decide, rfl⟩ ?_
    rintro j hj
    refine gc_seq <| gc_region <| gl_op (op_rd rfl (rd_lss rfl rfl) (gk_dec (fun h42 => ?_) (fun h42 => ?_)))
    · obtain ⟨n, hn⟩ := get_some (show j < r.ks.length by omega)
      have hkn : ((cxN s h).kd k)[j]? = some n := by rw [hkd]; exact hn
      have hkk := hA.key k n (by rw [hkd]; exact List.mem_of_getElem? hn)
      have hkr := hA.rng k (show k < s.ds.length by omega)
      have hset := stPre_set hA k j
      have hsl0 : (stPre (cxN s h) k j).sets.length = s.ds.length := hset.len
      refine gl_nil <| gx_then <| gc_seq <| gc_cond_t rfl <| gc_skip <| gx_then <| gc_seq <| gc_block <| gc_seq <| gc_region <| gl_op (op_rd rfl (rd_indexOld1 (hH.r r hrm) Tryd.underlying29 ty_3 rfl rfl (by omega) (by omega)) ?_)
      refine gl_op <| op_rd rfl (rd_load Tryd.underlying3 rfl rfl (ld_slN (hH.r r hrm) (get_nz hn))) <| gl_op <| op_rd rfl (rd_assign rfl) <| gl_nil <| gx_then <| gc_seq <| gc_region <| gl_op (op_rd rfl (rd_load Tryd.underlying82 rfl rfl (by exact ld_blk 2 rfl rfl)) ?_)
      refine gl_op <| op_rd rfl (rd_nilCheck rfl) <| gl_op <| op_rd rfl (rd_fieldAddr rfl (fa_87_0 _)) <| gl_op (op_rd rfl (rd_load Tryd.underlying84 rfl rfl (by exact ld_blk 3 rfl rfl)) ?_)
      refine gl_op <| op_rd rfl (rd_move rfl) <| gl_op (op_rd rfl (by exact rd_indexRow 0 rfl Tryd.underlying84 ty_90 rfl rfl (by omega) (by omega)) ?_)
      refine gl_op <| op_rd rfl (rd_move rfl) <| gl_op (op_callM [0] [1, 2, 3, 4, 5] rfl (vf := []) (vc := []) rfl rfl Tryd.call48 (by decide) rfl (fun w how hc => add_ok (stPre (cxN s h) k j).sets k n b27 s.ds.length s.ds.length hsl0 (by omega) (by omega) hset.lt w hc) ?_)
      rintro _ _ ⟨rfl, rfl⟩
      rw [show addSet (stPre (cxN s h) k j).sets (k, n) = (stPre (cxN s h) k (j + 1)).sets by rw [stPre_snoc hkn]; rfl]
      refine gl_nil <| gx_then <| gc_region <| gl_op (op_rd rfl (rd_load Tryd.underlying82 rfl rfl (by exact ld_blk 2 rfl rfl)) ?_)
      refine gl_op <| op_rd rfl (rd_nilCheck rfl) <| gl_op <| op_rd rfl (rd_fieldAddr rfl (fa_87_1 _)) <| gl_op (op_rd rfl (rd_load Tryd.underlying85 rfl rfl (by exact ld_blk 3 rfl rfl)) ?_)
      refine gl_op <| op_rd rfl (rd_move rfl) <| gl_op <| op_rd rfl (rd_move rfl) <| gl_op (op_rd rfl (rd_build rfl (fun _ => bd_110_0_1 _ _)) ?_)
      refine gl_op (op_rd rfl (rd_build rfl (fun _ => bd_122_0 _)) ?_)
      refine gl_op <| op_mapPutP 1 stpV (v := (-1, (0, 0))) Tryd.underlying85 i2_place rfl rfl rfl rfl (mpOf_none (q := (k, n)) (stPre_none hA hkn)) rfl ?_
      rw [show mapP stpV (mpOf (stPre (cxN s h) k j).tb 0 ++ [⟨(k : Int), (n : Int), (-1, (0, 0)), (stPre (cxN s h) k j).tb.length⟩]) ((stPre (cxN s h) k j).tb.length + 1) = actO (stPre (cxN s h) k (j + 1)).tb by rw [stPre_snoc hkn]; exact actO_snoc _ ⟨(k, n), -1, (0, 0), (k, n), []⟩]
      refine gl_nil <| gx_block <| gx_then <| gc_region <| gl_op (op_rd rfl (by exact rd_addN (b := 1) rfl rfl (by omega)) ?_)
      refine gl_op <| op_rd rfl (rd_move rfl) <| gl_nil <| gx_then ?_
      exact gx_cut (j + 1) ⟨by omega, by omega⟩ ⟨rfl, rfl, rfl, rfl, rfl, rfl, rfl, rfl, rfl, rfl, trivial⟩ ⟨[0, 1, 2, 3, 4, 5], by decide, rfl⟩
    refine gl_nil <| gx_then <| gc_seq <| gc_cond_f rfl <| gc_exit <| gx_then_exit <| gx_then_exit <| gx_block_exit <| gx_block <| gx_then ?_
    have hj9 : j = ((cxN s h).kd k).length := by rw [hkd]; omega
    rw [hj9, stPre_row]
    refine gc_region <| gl_op (op_rd rfl (by exact rd_addN (b := 1) rfl rfl (by omega)) ?_)
    refine gl_op <| op_rd rfl (rd_move rfl) <| gl_nil <| gx_then ?_
    exact gx_cut (k + 1) ⟨by omega, by omega⟩ ⟨rfl, rfl, rfl, rfl, rfl, rfl, trivial⟩ ⟨[0, 1, 2, 3, 4, 5], by decide, rfl⟩
  refine gl_nil <| gx_then <| gc_seq <| gc_cond_f rfl <| gc_exit <| gx_then_exit <| gx_then_exit <| gx_block_exit <| gx_then <| gc_seq ?_
  have hk9 : k = (cxN s h).ks.length := by show k = (h.ks.map KN.ks).length; rw [List.length_map]; omega
  rw [hk9, stPre_end hA]
  refine gc_region <| gl_op <| op_rd rfl (rd_makeFunc (fs := []) (cs := [.tmp 2, .tmp 5]) rfl rfl) <| gl_op <| op_rd rfl (rd_assign rfl) <| gl_nil <| gx_then <| gc_seq <| gc_region <| gl_op <| op_rd rfl (rd_assign rfl) <| gl_nil <| gx_then <| gc_seq <| gc_seq <| gc_region <| gl_op <| op_rd rfl (rd_fieldAddr rfl (fa_31_2 _)) <| gl_op (op_rd rfl (rd_load Tryd.underlying29 rfl rfl (by exact ld_blk 4 rfl rfl)) ?_)
  refine gl_op <| op_rd rfl (rd_lenSlice Tryd.underlying29 rfl) <| gl_op <| op_rd rfl (rd_move rfl) <| gl_nil <| gx_then <| gc_block <| gk_nil 123 1 <| gc_loopF (ι := Nat × GS × List GR × Option Nat × Nat × List HL) [(2, _), (3, _), (5, _), (10, _), (65, _), (66, _)] [_, _, _, _] (fun q => q.1 ≤ h.cs.length ∧ q.2.1 = (h.cs.take q.1).foldl (firstStep (cxN s h)) (st0 (cxN s h), []) ∧ GSOk (cxN s h) q.2.1 q.2.2.1 q.2.2.2.2.2 ∧ q.2.2.1.length = q.1) (fun q Fr0 => ((11, .slice (rowA q.2.2.2.1) q.2.2.1.length q.2.2.2.2.1) :: (67, natV q.1) :: Fr0)) (fun q Fr0 => (.row 90 2 (some b27) s.ds.length s.ds.length ((q.2.1.1.sets).flatMap setC) :: .obj b28 (actO q.2.1.1.tb) :: .row 123 1 q.2.2.2.1 q.2.2.1.length q.2.2.2.2.1 (q.2.2.1.map GR.cell) :: (Fr0 ++ q.2.2.2.2.2))) (fun q => h.cs.length - q.1) (0, (st0 (cxN s h), []), [], none, 0, []) (⟨Nat.zero_le _, rfl, ⟨(st0_ok hA).2, rfl, by simp, by simp⟩, rfl⟩) ⟨rfl, rfl, rfl, rfl, rfl, rfl, rfl, rfl, trivial⟩ ⟨[1, 2, 0, 3, 4, 5, 6], by decide, rfl⟩ ?_
  rintro ⟨k, ⟨x1, x2⟩, G, rG, cG, T⟩ ⟨hk, hX, hG, hGl⟩
  simp only at hk hX hG hGl ⊢
  have hset := hG.set
  simp only at hset
  refine gc_seq <| gc_region <| gl_op (op_rd rfl (rd_lss rfl rfl) (gk_dec (fun h68 => ?_) (fun h68 => ?_)))
  · obtain ⟨i, hi⟩ := get_some (show k < h.cs.length by omega)
    have him : i ∈ (cxN s h).dr := List.mem_of_getElem? hi
    obtain ⟨cp, hcp⟩ := get_some (show i < s.cs.length from hA.drn i him)
    have hcpi : (cxN s h).cp i = cp := getD_some hcp
    have hil : i < s.cs.length := hA.drn i him
    obtain ⟨hs0, hs1⟩ := hA.src i hil
    rw [hcpi] at hs0 hs1
    change cp.src < s.ds.length at hs1
    obtain ⟨kr, hkr⟩ := get_some (show cp.src.toNat < h.ks.length by omega)
    have hkrm := List.mem_of_getElem? hkr
    have hkd : (cxN s h).kd cp.src.toNat = kr.ks := by
      show (h.ks.map KN.ks).getD cp.src.toNat [] = kr.ks
      rw [List.getD_eq_getElem?_getD, List.getElem?_map, hkr]; rfl
    have hstart : (cxN s h).start i = (takenL cp kr.ks).map fun n => (cp.src.toNat, n) := by unfold Cx.start; rw [hcpi, hkd]
    have hsgo := start_gok hA i
    have hstl : (takenL cp kr.ks).length ≤ 128 := by have := hsgo.len; rw [hstart, List.length_map] at this; exact this
    have hsn : cp.src = ((cp.src.toNat : Nat) : Int) := by omega
    refine gl_nil <| gx_then <| gc_seq <| gc_cond_t rfl <| gc_skip <| gx_then <| gc_seq <| gc_block <| gc_seq <| gc_region <| gl_op (op_rd rfl (rd_indexOld1 hH.c Tryd.underlying29 ty_3 rfl rfl (by omega) (by omega)) ?_)
    refine gl_op <| op_rd rfl (rd_load Tryd.underlying3 rfl rfl (ld_slN hH.c (get_nz hi))) <| gl_op <| op_rd rfl (rd_assign rfl) <| gl_nil <| gx_then <| gc_seq <| gc_region <| gl_op <| op_rd rfl (rd_assign rfl) <| gl_nil <| gx_then <| gc_seq <| gc_region <| gl_op <| op_rd rfl (rd_fieldAddr rfl (fa_27_3 _)) <| gl_op (op_rd rfl (rd_load Tryd.underlying25 rfl rfl (by exact ld_blk 6 rfl rfl)) ?_)
    refine gl_op <| op_rd rfl (rd_move rfl) <| gl_op (op_rd rfl (rd_indexOld hS.c Tryd.underlying25 ty_67 rfl rfl (by omega) (by omega)) ?_)
    refine gl_op (op_rd rfl (rd_loadAgg Tryd.underlying67 rfl ty_67 rfl (cs_slN hS.c (flat_drop_get Cp.cells 6 (fun _ => rfl) hcp)) rfl) ?_)
    refine gl_op (op_alloc ty_67 rfl rfl (fun b15 => ?_))
    refine gl_op (op_storeAgg 0 ty_67 rfl rfl rfl rfl rfl rfl (by rfl) ?_)
    refine gl_nil <| gx_then <| gc_seq <| gc_seq ?_
    simp only [Cp.cells]
    refine gc_drawP [0, 1, 2, 3, 4, 5, 6, 7] true 9 rfl <| ga_first 0 (bm 10 1) rfl rfl rfl rfl (by kernel_rfl) (by kernel_rfl) ⟨[0, 1, 2, 3, 4, 5, 6, 7], by decide, rfl⟩ (qt_rd (rd_loadAgg Tryd.underlying67 rfl ty_67 rfl (by exact cs_blk 0 (off := 0) (k := 6) rfl rfl) rfl)) ?_
    refine ga_first 1 (bm 10 3) rfl rfl rfl rfl (by kernel_rfl) (by kernel_rfl) ⟨[0, 1, 2, 3, 4, 5, 6, 7], by decide, rfl⟩ (qt_rd (rd_fieldAddr rfl (fa_31_0 _))) ?_
    refine ga_first 2 (bm 10 7) rfl rfl rfl rfl (by kernel_rfl) (by kernel_rfl) ⟨[0, 1, 2, 3, 4, 5, 6, 7], by decide, rfl⟩ (qt_rd (rd_load Tryd.underlying28 rfl rfl (by exact ld_blk 6 rfl rfl))) ?_
    refine ga_first 3 (bm 10 15) rfl rfl rfl rfl (by kernel_rfl) (by kernel_rfl) ⟨[0, 1, 2, 3, 4, 5, 6, 7], by decide, rfl⟩ (qt_rd (rd_fieldAddr rfl (fa_67_1 _))) ?_
    refine ga_first 4 (bm 10 31) rfl rfl rfl rfl (by kernel_rfl) (by kernel_rfl) ⟨[0, 1, 2, 3, 4, 5, 6, 7], by decide, rfl⟩ (qt_rd (rd_load Tryd.underlying3 rfl rfl (by exact ld_blk 0 rfl rfl))) ?_
    refine ga_first 5 (bm 10 63) rfl rfl rfl rfl (by kernel_rfl) (by kernel_rfl) ⟨[0, 1, 2, 3, 4, 5, 6, 7], by decide, rfl⟩ (qt_rd (rd_indexOld1 hH.k Tryd.underlying28 ty_29 rfl rfl (by omega) (by omega))) ?_
    refine ga_first 6 (bm 10 127) rfl rfl rfl rfl (by kernel_rfl) (by kernel_rfl) ⟨[0, 1, 2, 3, 4, 5, 6, 7], by decide, rfl⟩ (qt_rd (rd_load Tryd.underlying29 rfl rfl (ld_sl hH.k (get_kn hkr)))) ?_
    refine ga_first 9 (bm 10 639) rfl rfl rfl rfl (by kernel_rfl) (by kernel_rfl) ⟨[0, 1, 2, 3, 4, 5, 6, 7], by decide, rfl⟩ (qt_rd (rd_move rfl)) ?_
    refine ga_only 7 (bm 10 767) rfl rfl (by kernel_rfl) (by kernel_rfl) (.inr ⟨[0, 1, 2, 3, 4, 5, 6, 7], by decide, rfl⟩) (op_call rfl (vf := []) (vc := []) rfl rfl Tryd.call51 (fun w1 ho => taken_ok cp kr.ks kr.a kr.c (hg.hc kr hkrm) (hg.hk kr hkrm) w1) ?_)
    rintro _ _ ⟨rfl, a2, c2, rfl, htk⟩
    have hsl3 := htk w0 [] (hH.r kr hkrm)
    refine ga_first 8 (bm 10 1023) rfl rfl rfl rfl (by kernel_rfl) (by kernel_rfl) ⟨[0, 1, 2, 3, 4, 5, 6, 7], by decide, rfl⟩ (qt_rd (rd_lenSlice Tryd.underlying29 rfl)) ?_
    refine ga_end (by kernel_rfl) (.inr ⟨[0, 1, 2, 3, 4, 5, 6, 7], by decide, rfl⟩) ?_
    refine gx_then <| gc_block <| gk_nil 110 2 <| gc_loopF (ι := Nat × Option Nat × Nat) [(2, _), (3, _), (5, _), (10, _), (11, _), (13, _), (15, _), (65, _), (66, _), (67, _), (83, _), (84, _)] (_ :: _ :: _ :: _ :: _ :: _ :: _ :: _ :: T) (fun q => q.1 ≤ (takenL cp kr.ks).length) (fun q Fr0 => ((14, .slice (rowA q.2.1) q.1 q.2.2) :: (85, natV q.1) :: Fr0)) (fun q Fr0 => (.row 110 2 q.2.1 q.1 q.2.2 ((((takenL cp kr.ks).take q.1).map fun n => (cp.src.toNat, n)).flatMap plC) :: Fr0)) (fun q => (takenL cp kr.ks).length - q.1) (0, none, 0) (Nat.zero_le _) ⟨rfl, rfl, rfl, rfl, rfl, rfl, rfl, rfl, rfl, rfl, rfl, rfl, rfl, rfl, trivial⟩ (sub_tail (A := [_, _, _, _, _, _, _, _, _]) (B := [_, _, _, _, _, _, _, _, _]) (T := T) [0, 1, 2, 3, 4, 5, 6, 7, 8] 9 (by decide) (by decide) rfl rfl) ?_
    rintro ⟨j, r14, c14⟩ hj
    simp only at hj ⊢
    refine gc_seq <| gc_region <| gl_op (op_rd rfl (rd_lss rfl rfl) (gk_dec (fun h86 => ?_) (fun h86 => ?_)))
    · obtain ⟨n, hn⟩ := get_some (show j < (takenL cp kr.ks).length by omega)
      refine gl_nil <| gx_then <| gc_seq <| gc_cond_t rfl <| gc_skip <| gx_then <| gc_seq <| gc_block <| gc_seq <| gc_region <| gl_op (op_rd rfl (rd_indexOld1 hsl3 Tryd.underlying29 ty_3 rfl rfl (by omega) (by omega)) ?_)
      refine gl_op <| op_rd rfl (rd_load Tryd.underlying3 rfl rfl (ld_slN hsl3 (get_nz hn))) <| gl_op <| op_rd rfl (rd_assign rfl) <| gl_nil <| gx_then <| gc_region <| gl_op <| op_rd rfl (rd_move rfl) <| gl_op <| op_rd rfl (rd_fieldAddr rfl (fa_67_1 _)) <| gl_op (op_rd rfl (rd_load Tryd.underlying3 rfl rfl (by exact ld_blk 1 rfl rfl)) ?_)
      refine gl_op <| op_rd rfl (rd_move rfl) <| gl_op (op_rd rfl (rd_build rfl (fun _ => bd_110_0_1 _ _)) ?_)
      refine gl_op (op_buildSlice (sz := 2) rfl rfl (fun _ => bs_123_1_0 _ _) rfl rfl (fun b94 => ?_))
      refine gl_op (op_appendRow 1 0 Tryd.underlying123 ty_110 rfl (by decide) rfl rfl rfl rfl rfl (by simp [Value.oneCell']) (by omega) (by omega) (fun _ => (by rfl)) (fun r95 c95 => ?_))
      refine gl_op <| op_rd rfl (rd_assign rfl) <| gl_nil <| gx_block <| gx_then ?_
      rw [show ((((takenL cp kr.ks).take j).map fun n => (cp.src.toNat, n)).flatMap plC) ++ [.int .i64 cp.src, .int .i64 (n : Int)] = ((((takenL cp kr.ks).take (j + 1)).map fun n => (cp.src.toNat, n)).flatMap plC) by rw [take_at hn, List.map_append, List.flatMap_append]; simp only [List.map_cons, List.map_nil, List.flatMap_cons, List.flatMap_nil, plC, List.append_nil]; rw [show natV cp.src.toNat = .int .i64 cp.src from congrArg (Value.int .i64) hsn.symm]]
      refine gc_region <| gl_op (op_rd rfl (by exact rd_addN (b := 1) rfl rfl (by omega)) ?_)
      refine gl_op <| op_rd rfl (rd_move rfl) <| gl_nil <| gx_then ?_
      exact gx_cut ((j + 1, r95, c95)) ⟨by simp only; omega, by simp only; omega⟩ ⟨rfl, rfl, rfl, rfl, rfl, rfl, rfl, rfl, rfl, rfl, rfl, rfl, rfl, rfl, trivial⟩ (sub_tail (A := [_, _, _, _, _, _, _, _, _]) (B := [_, _, _, _, _, _, _, _, _, _]) (T := T) [1, 2, 3, 4, 5, 6, 7, 8, 9] 10 (by decide) (by decide) rfl rfl)
    refine gl_nil <| gx_then <| gc_seq <| gc_cond_f rfl <| gc_exit <| gx_then_exit <| gx_then_exit <| gx_block_exit <| gx_then ?_
    have hj9 : j = ((cxN s h).start i).length := by rw [hstart, List.length_map]; omega
    rw [show ((takenL cp kr.ks).take j).map (fun n => (cp.src.toNat, n)) = (cxN s h).start i by rw [hstart, List.take_of_length_le (by rw [hj9, hstart, List.length_map]; exact Nat.le_refl _)], hj9]
    refine gc_region <| gl_op <| op_rd rfl (rd_move rfl) <| gl_op <| op_rd rfl (rd_move rfl) <| gl_op <| op_rd rfl (rd_move rfl) <| gl_op <| op_rd rfl (rd_move rfl) <| gl_op (op_callMT [_, _, _, _, _, _, _, _, _] T [8, 5, 6, 2, 3] [0, 1, 4, 7] 9 rfl rfl rfl (vf := []) (vc := [.pointer (some ⟨b2, 0, none⟩), .pointer (some ⟨b5, 0, none⟩)]) rfl rfl Tryd.call49 (by decide) (by decide) rfl (fun w how hc => reached_ok s h hle hA i him ((cxN s h).start i) (rowA r14) c14 (Nat.le_trans hsgo.len (by decide)) hsgo.key b2 b5 b30 b27 s.ds.length b28 x1 hset w (hS.atS how (new_pick (B := [_, _, _, _, _, _, _, _, _]) (T := T) how [8, 5, 6, 2, 3])) (rowOutB (B := [_, _, _, _, _, _, _, _, _]) (T := T) how 0 [8, 5, 6, 2, 3] 9 rfl (by decide) rfl (by decide)) hc) ?_)
    rintro _ _ ⟨rg, cg, rfl, rfl⟩
    refine gk_mid2 [_, _, _, _, _] [RG rg cg (reachP (cxN s h) i ((cxN s h).start i) x1).2] [_, _, _, _] T <| gl_op (op_buildSlice (sz := 1) rfl rfl (fun _ => bs_126_1_0 _ _ _) rfl rfl (fun b102 => ?_))
    refine gl_op (op_appendRow 8 0 Tryd.underlying126 ty_123 rfl (by decide) rfl rfl rfl rfl rfl (by simp [Value.oneCell']) (by omega) (by omega) (fun _ => (by rfl)) (fun r103 c103 => ?_))
    refine gl_op <| op_rd rfl (rd_assign rfl) <| gl_nil <| gx_block <| gx_then ?_
    rw [snoc_gr, show G.length + 1 = (G ++ [(⟨rg, cg, (reachP (cxN s h) i ((cxN s h).start i) x1).2⟩ : GR)]).length by simp]
    refine gc_region <| gl_op (op_rd rfl (by exact rd_addN (b := 1) rfl rfl (by omega)) ?_)
    refine gl_op <| op_rd rfl (rd_move rfl) <| gl_nil <| gx_then ?_
    exact gx_cut ((k + 1, firstStep (cxN s h) (x1, x2) i, G ++ [(⟨rg, cg, (reachP (cxN s h) i ((cxN s h).start i) x1).2⟩ : GR)], r103, c103, T ++ [RG rg cg (reachP (cxN s h) i ((cxN s h).start i) x1).2])) ⟨⟨by simp only; omega, by simp only; rw [fold_take _ _ hi, ← hX], hG.put (reachP_set hA him hset) (reachP_gok hA him hset (start_gok hA i)), by simp only [List.length_append, List.length_cons, List.length_nil]; omega⟩, by simp only; omega⟩ ⟨rfl, rfl, rfl, rfl, rfl, rfl, rfl, rfl, trivial⟩ (sub_tail (A := [_, _, _, _, _, _, _]) (B := [_, _, _, _, _, _, _, _, _, _]) (T := (T ++ [RG rg cg (reachP (cxN s h) i ((cxN s h).start i) x1).2])) [4, 5, 8, 2, 3, 9, 1] 10 (by decide) (by decide) rfl rfl)
  refine gl_nil <| gx_then <| gc_seq <| gc_cond_f rfl <| gc_exit <| gx_then_exit <| gx_then_exit <| gx_block_exit <| gx_then <| gc_seq <| gc_block ?_
  have hX0 : (x1, x2) = lev (cxN s h) 0 := by
    rw [hX, List.take_of_length_le (by omega)]; rfl
  rw [show x1.sets = (lev (cxN s h) 0).1.sets by rw [← hX0], show x1.tb = (lev (cxN s h) 0).1.tb by rw [← hX0]]
  refine gc_loopF (ι := Nat × List GR × Option Nat × Nat × List HL) [(2, _), (3, _), (5, _), (10, _)] [_, _, _, _] (fun q => q.1 ≤ 768 ∧ GSOk (cxN s h) (lev (cxN s h) q.1) q.2.1 q.2.2.2.2) (fun q Fr0 => ((11, .slice (rowA q.2.2.1) q.2.1.length q.2.2.2.1) :: Fr0)) (fun q Fr0 => (.row 90 2 (some b27) s.ds.length s.ds.length (((lev (cxN s h) q.1).1.sets).flatMap setC) :: .obj b28 (actO (lev (cxN s h) q.1).1.tb) :: .row 123 1 q.2.2.1 q.2.1.length q.2.2.2.1 (q.2.1.map GR.cell) :: (Fr0 ++ q.2.2.2.2))) (fun q => 1000 - q.1) (0, G, rG, cG, T) (⟨Nat.zero_le _, hX0 ▸ hG⟩) ⟨rfl, rfl, rfl, rfl, rfl, trivial⟩ (sub_tail (A := [_, _, _, _, _, _, _]) (B := [_, _, _, _, _, _, _]) (T := T) [0, 1, 2, 3, 4, 5, 6] 7 (by decide) (by decide) rfl rfl) ?_
  rintro ⟨lv, G2, r2, c2, T2⟩ ⟨hlv, hG2⟩
  simp only at hlv hG2 ⊢
  obtain ⟨⟨y1, y2⟩, hy⟩ : ∃ y, lev (cxN s h) lv = y := ⟨_, rfl⟩
  have hgo := lev_go hA (n := lv)
  have hln := lev_len hA (by show h.cs.length ≤ 768; omega) lv
  rw [hy] at hG2 hgo hln ⊢
  simp only at hgo hln ⊢
  have hg2p : G2.map GR.ps = y2 := hG2.ps
  have hg2l : G2.length = y2.length := by rw [← hg2p, List.length_map]
  refine gc_seq <| gc_seq <| gc_region <| gl_op <| op_rd rfl (rd_move rfl) <| gl_op <| op_rd rfl (rd_lenSlice Tryd.underlying126 rfl) <| gl_op (op_rd rfl (rd_gtr rfl rfl) (gk_dec (fun h107 => ?_) (fun h107 => ?_)))
  · have hlt : lv < 768 := hgo (fun e => absurd (show G2.length = 0 from by rw [hg2l, e]; rfl) (by omega))
    refine gl_nil <| gx_then <| gc_cond_t rfl <| gc_skip <| gx_then <| gc_block <| gc_seq <| gc_region <| gl_op <| op_rd rfl (rd_assign rfl) <| gl_nil <| gx_then <| gc_seq <| gc_seq <| gc_region <| gl_op <| op_rd rfl (rd_move rfl) <| gl_op <| op_rd rfl (rd_lenSlice Tryd.underlying126 rfl) <| gl_op <| op_rd rfl (rd_move rfl) <| gl_nil <| gx_then <| gc_block <| gk_nil 123 1 <| gc_loopF (ι := Nat × GS × List GR × Option Nat × Nat × List HL) [(2, _), (3, _), (5, _), (10, _), (108, _), (109, _)] [_, _, _, _, _] (fun q => q.1 ≤ G2.length ∧ q.2.1 = (y2.take q.1).foldl (nextL (cxN s h)) (y1, []) ∧ GSOk (cxN s h) q.2.1 q.2.2.1 q.2.2.2.2.2 ∧ q.2.2.1.length ≤ q.1 * 24 ∧ (∀ g ∈ G2, RG g.r g.c g.ps ∈ q.2.2.2.2.2)) (fun q Fr0 => ((18, .slice (rowA q.2.2.2.1) q.2.2.1.length q.2.2.2.2.1) :: (110, natV q.1) :: Fr0)) (fun q Fr0 => (.row 90 2 (some b27) s.ds.length s.ds.length ((q.2.1.1.sets).flatMap setC) :: .obj b28 (actO q.2.1.1.tb) :: .row 123 1 q.2.2.2.1 q.2.2.1.length q.2.2.2.2.1 (q.2.2.1.map GR.cell) :: (Fr0 ++ q.2.2.2.2.2))) (fun q => G2.length - q.1) (0, (y1, []), [], none, 0, T2) (⟨Nat.zero_le _, rfl, ⟨hG2.set, rfl, by simp, by simp⟩, Nat.zero_le _, hG2.tl⟩) ⟨rfl, rfl, rfl, rfl, rfl, rfl, rfl, rfl, trivial⟩ (sub_tail (A := [_, _, _, _, _, _, _, _]) (B := [_, _, _, _, _, _, _, _]) (T := T2) [1, 2, 0, 3, 4, 5, 6, 7] 8 (by decide) (by decide) rfl rfl) ?_
    rintro ⟨k, ⟨z1, z2⟩, N3, r3, c3, T3⟩ ⟨hk, hX, hN3, hNl, hGT⟩
    simp only at hk hX hN3 hNl hGT ⊢
    refine gc_seq <| gc_region <| gl_op (op_rd rfl (rd_lss rfl rfl) (gk_dec (fun h111 => ?_) (fun h111 => ?_)))
    · obtain ⟨gr, hgr⟩ := get_some (show k < G2.length by omega)
      have hgm := List.mem_of_getElem? hgr
      have hgok := hG2.ok gr hgm
      have hgp : y2[k]? = some gr.ps := by rw [← hg2p, List.getElem?_map, hgr]; rfl
      refine gl_nil <| gx_then <| gc_seq <| gc_cond_t rfl <| gc_skip <| gx_then <| gc_seq <| gc_block <| gc_seq <| gc_region <| gl_op (op_rd rfl (rd_indexRow1 3 rfl Tryd.underlying126 ty_123 rfl rfl (by omega) (by omega)) ?_)
      refine gl_op <| op_rd rfl (rd_load Tryd.underlying123 rfl rfl (ld_rowN 3 rfl (get_gr hgr))) <| gl_op <| op_rd rfl (rd_assign rfl) <| gl_nil <| gx_then <| gc_seq <| gc_region <| gl_op <| op_rd rfl (rd_fieldAddr rfl (fa_31_2 _)) <| gl_op (op_rd rfl (rd_load Tryd.underlying29 rfl rfl (by exact ld_blk 6 rfl rfl)) ?_)
      refine gl_op <| op_rd rfl (rd_lenSlice Tryd.underlying29 rfl) <| gl_op <| op_rd rfl (rd_move rfl) <| gl_nil <| gx_then <| gc_block <| gc_loopF (ι := Nat × GS × List GR × Option Nat × Nat × List HL) [(2, _), (3, _), (5, _), (10, _), (20, _), (108, _), (109, _), (110, _), (115, _), (116, _)] [_, _, _, _, _] (fun q => q.1 ≤ h.cs.length ∧ q.2.1 = (h.cs.take q.1).foldl (nextC (cxN s h) gr.ps) (z1, z2) ∧ GSOk (cxN s h) q.2.1 q.2.2.1 q.2.2.2.2.2 ∧ q.2.2.1.length ≤ k * 24 + q.1 ∧ (∀ g ∈ G2, RG g.r g.c g.ps ∈ q.2.2.2.2.2)) (fun q Fr0 => ((18, .slice (rowA q.2.2.2.1) q.2.2.1.length q.2.2.2.2.1) :: (117, natV q.1) :: Fr0)) (fun q Fr0 => (.row 90 2 (some b27) s.ds.length s.ds.length ((q.2.1.1.sets).flatMap setC) :: .obj b28 (actO q.2.1.1.tb) :: .row 123 1 q.2.2.2.1 q.2.2.1.length q.2.2.2.2.1 (q.2.2.1.map GR.cell) :: (Fr0 ++ q.2.2.2.2.2))) (fun q => h.cs.length - q.1) (0, (z1, z2), N3, r3, c3, T3) (⟨Nat.zero_le _, rfl, hN3, by simp only; omega, hGT⟩) ⟨rfl, rfl, rfl, rfl, rfl, rfl, rfl, rfl, rfl, rfl, rfl, rfl, trivial⟩ (sub_tail (A := [_, _, _, _, _, _, _, _]) (B := [_, _, _, _, _, _, _, _]) (T := T3) [0, 1, 2, 3, 4, 5, 6, 7] 8 (by decide) (by decide) rfl rfl) ?_
      rintro ⟨j, ⟨u1, u2⟩, N4, r4, c4, T4⟩ ⟨hj, hU, hN4, hNl4, hGT4⟩
      simp only at hj hU hN4 hNl4 hGT4 ⊢
      have hset := hN4.set
      simp only at hset
      refine gc_seq <| gc_region <| gl_op (op_rd rfl (rd_lss rfl rfl) (gk_dec (fun h118 => ?_) (fun h118 => ?_)))
      · obtain ⟨i, hi⟩ := get_some (show j < h.cs.length by omega)
        have him : i ∈ (cxN s h).dr := List.mem_of_getElem? hi
        obtain ⟨cp, hcp⟩ := get_some (show i < s.cs.length from hA.drn i him)
        have hcpi : (cxN s h).cp i = cp := getD_some hcp
        have hil : i < s.cs.length := hA.drn i him
        obtain ⟨hs0, hs1⟩ := hA.src i hil
        rw [hcpi] at hs0 hs1
        change cp.src < s.ds.length at hs1
        refine gl_nil <| gx_then <| gc_seq <| gc_cond_t rfl <| gc_skip <| gx_then <| gc_seq <| gc_block <| gc_seq <| gc_region <| gl_op (op_rd rfl (rd_indexOld1 hH.c Tryd.underlying29 ty_3 rfl rfl (by omega) (by omega)) ?_)
        refine gl_op <| op_rd rfl (rd_load Tryd.underlying3 rfl rfl (ld_slN hH.c (get_nz hi))) <| gl_op <| op_rd rfl (rd_assign rfl) <| gl_nil <| gx_then <| gc_seq <| gc_region <| gl_op <| op_rd rfl (rd_fieldAddr rfl (fa_27_3 _)) <| gl_op (op_rd rfl (rd_load Tryd.underlying25 rfl rfl (by exact ld_blk 7 rfl rfl)) ?_)
        refine gl_op <| op_rd rfl (rd_move rfl) <| gl_op (op_rd rfl (rd_indexOld hS.c Tryd.underlying25 ty_67 rfl rfl (by omega) (by omega)) ?_)
        refine gl_op (op_rd rfl (rd_loadAgg Tryd.underlying67 rfl ty_67 rfl (cs_slN hS.c (flat_drop_get Cp.cells 6 (fun _ => rfl) hcp)) rfl) ?_)
        refine gl_op (op_alloc ty_67 rfl rfl (fun b23 => ?_))
        refine gl_op (op_storeAgg 0 ty_67 rfl rfl rfl rfl rfl rfl (by rfl) ?_)
        refine gl_nil <| gx_then <| gc_seq ?_
        simp only [Cp.cells]
        refine gc_drawP [0, 1, 2, 3, 4, 5, 6, 7, 8] true 15 rfl <| ga_first 0 (bm 16 1) rfl rfl rfl rfl (by kernel_rfl) (by kernel_rfl) ⟨[0, 1, 2, 3, 4, 5, 6, 7, 8], by decide, rfl⟩ (qt_rd (rd_move rfl)) ?_
        refine ga_first 1 (bm 16 3) rfl rfl rfl rfl (by kernel_rfl) (by kernel_rfl) ⟨[0, 1, 2, 3, 4, 5, 6, 7, 8], by decide, rfl⟩ (qt_rd (rd_lenSlice Tryd.underlying123 rfl)) ?_
        refine ga_first 2 (bm 16 7) rfl rfl rfl rfl (by kernel_rfl) (by kernel_rfl) ⟨[0, 1, 2, 3, 4, 5, 6, 7, 8], by decide, rfl⟩ (qt_rd (rd_gtr rfl rfl)) (gk_dec (fun h128 => ?_) (fun h128 => ?_))
        · obtain ⟨p0, l0, hps⟩ : ∃ p0 l0, gr.ps = p0 :: l0 := by
            cases hq : gr.ps with
            | nil => rw [hq] at h128; simp at h128
            | cons p0 l0 => exact ⟨p0, l0, rfl⟩
          have hmt := hGT4 gr hgm
          refine ga_first 3 (bm 16 15) rfl rfl rfl rfl (by kernel_rfl) (by kernel_rfl) ⟨[0, 1, 2, 3, 4, 5, 6, 7, 8], by decide, rfl⟩ (qt_rd (rd_move rfl)) ?_
          refine ga_firstY 4 (bm 16 31) rfl rfl rfl rfl rfl rfl (by kernel_rfl) (by kernel_rfl) ⟨[0, 1, 2, 3, 4, 5, 6, 7, 8], by decide, rfl⟩ (qt_rd (rd_fieldAddr rfl (fa_67_5 _))) ?_
          refine ga_firstY 5 (bm 16 63) rfl rfl rfl rfl rfl rfl (by kernel_rfl) (by kernel_rfl) ⟨[0, 1, 2, 3, 4, 5, 6, 7, 8], by decide, rfl⟩ (qt_rd (rd_load Tryd.underlying4 rfl rfl (by exact ld_blk 0 rfl rfl))) ?_
          refine gk_bool (fun h131 => ?_) (fun h131 => ?_)
          · refine ga_first 6 (bm 16 127) rfl rfl rfl rfl (by kernel_rfl) (by kernel_rfl) ⟨[0, 1, 2, 3, 4, 5, 6, 7, 8], by decide, rfl⟩ (qt_rd (rd_pick_t rfl rfl)) ?_
            refine ga_first 7 (bm 16 255) rfl rfl rfl rfl (by kernel_rfl) (by kernel_rfl) ⟨[0, 1, 2, 3, 4, 5, 6, 7, 8], by decide, rfl⟩ (qt_rd (rd_move rfl)) ?_
            refine ga_firstY 8 (bm 16 511) rfl rfl rfl rfl rfl rfl (by kernel_rfl) (by kernel_rfl) ⟨[0, 1, 2, 3, 4, 5, 6, 7, 8], by decide, rfl⟩ (qt_rd (rd_fieldAddr rfl (fa_67_1 _))) ?_
            refine ga_firstY 9 (bm 16 1023) rfl rfl rfl rfl rfl rfl (by kernel_rfl) (by kernel_rfl) ⟨[0, 1, 2, 3, 4, 5, 6, 7, 8], by decide, rfl⟩ (qt_rd (rd_load Tryd.underlying3 rfl rfl (by exact ld_blk 0 rfl rfl))) ?_
            refine ga_firstY 10 (bm 16 2047) rfl rfl rfl rfl rfl rfl (by kernel_rfl) (by kernel_rfl) ⟨[0, 1, 2, 3, 4, 5, 6, 7, 8], by decide, rfl⟩ (qt_rd (rd_move rfl)) ?_
            refine ga_onlyY 11 (bm 16 4095) rfl rfl rfl rfl (by kernel_rfl) (by kernel_rfl) (.inr ⟨[0, 1, 2, 3, 4, 5, 6, 7, 8], by decide, rfl⟩) (op_rd rfl (rd_indexMem (List.mem_append_right [_, _, _, _, _, _, _, _, _] hmt) Tryd.underlying123 ty_110 rfl rfl (by decide) (by omega)) ?_)
            refine ga_firstY 12 (bm 16 8191) rfl rfl rfl rfl rfl rfl (by kernel_rfl) (by kernel_rfl) ⟨[0, 1, 2, 3, 4, 5, 6, 7, 8], by decide, rfl⟩ (qt_rd (rd_fieldAddr rfl (fa_110_0 _))) ?_
            refine ga_onlyY 13 (bm 16 16383) rfl rfl rfl rfl (by kernel_rfl) (by kernel_rfl) (.inr ⟨[0, 1, 2, 3, 4, 5, 6, 7, 8], by decide, rfl⟩) (op_rd rfl (rd_load Tryd.underlying3 rfl rfl (ld_memRow (off := 0) (List.mem_append_right [_, _, _, _, _, _, _, _, _] hmt) (by rw [hps]; rfl))) ?_)
            refine ga_firstY 14 (bm 16 32767) rfl rfl rfl rfl rfl rfl (by kernel_rfl) (by kernel_rfl) ⟨[0, 1, 2, 3, 4, 5, 6, 7, 8], by decide, rfl⟩ (qt_rd (rd_eql rfl rfl)) (gk_dec (fun h140 => ?_) (fun h140 => ?_))
            · have hnx : nextC (cxN s h) gr.ps (u1, u2) i = ((reachP (cxN s h) i gr.ps u1).1, u2 ++ [(reachP (cxN s h) i gr.ps u1).2]) := by
                unfold nextC; rw [if_pos]; rw [goesL_eq hcpi hps, h131]; simp; omega
              refine ga_first 15 (bm 16 65535) rfl rfl rfl rfl (by kernel_rfl) (by kernel_rfl) ⟨[0, 1, 2, 3, 4, 5, 6, 7, 8], by decide, rfl⟩ (qt_rd (rd_pick_t rfl rfl)) ?_
              refine ga_end (by kernel_rfl) (.inr ⟨[0, 1, 2, 3, 4, 5, 6, 7, 8], by decide, rfl⟩) ?_
              refine gx_then <| gc_cond_t rfl <| gc_region <| gl_op <| op_rd rfl (rd_move rfl) <| gl_op <| op_rd rfl (rd_move rfl) <| gl_op <| op_rd rfl (rd_move rfl) <| gl_op <| op_rd rfl (rd_move rfl) <| gl_op (op_callMT [_, _, _, _, _, _, _, _, _] T4 [8, 5, 6, 1, 2] [0, 3, 4, 7] 9 rfl rfl rfl (vf := []) (vc := [.pointer (some ⟨b2, 0, none⟩), .pointer (some ⟨b5, 0, none⟩)]) rfl rfl Tryd.call49 (by decide) (by decide) rfl (fun w how hc => reached_ok s h hle hA i him gr.ps (rowA gr.r) gr.c (Nat.le_trans hgok.len (by decide)) hgok.key b2 b5 b30 b27 s.ds.length b28 u1 hset w (hS.atS how (new_pick (B := [_, _, _, _, _, _, _, _, _]) (T := T4) how [8, 5, 6, 1, 2])) (rowOutT (A := [_, _, _, _, _, _, _, _, _]) (T := T4) how [8, 5, 6, 1, 2] 9 rfl (by decide) hmt) hc) ?_)
              rintro _ _ ⟨rg, cg, rfl, rfl⟩
              refine gk_mid2 [_, _, _, _, _] [RG rg cg (reachP (cxN s h) i gr.ps u1).2] [_, _, _, _] T4 <| gl_op (op_buildSlice (sz := 1) rfl rfl (fun _ => bs_126_1_0 _ _ _) rfl rfl (fun b147 => ?_))
              refine gl_op (op_appendRow 7 0 Tryd.underlying126 ty_123 rfl (by decide) rfl rfl rfl rfl rfl (by simp [Value.oneCell']) (by omega) (by omega) (fun _ => (by rfl)) (fun r148 c148 => ?_))
              refine gl_op <| op_rd rfl (rd_assign rfl) <| gl_nil <| gx_block <| gx_then ?_
              rw [snoc_gr, show N4.length + 1 = (N4 ++ [(⟨rg, cg, (reachP (cxN s h) i gr.ps u1).2⟩ : GR)]).length by simp, show (reachP (cxN s h) i gr.ps u1).1 = (nextC (cxN s h) gr.ps (u1, u2) i).1 by rw [hnx]]
              refine gc_region <| gl_op (op_rd rfl (by exact rd_addN (b := 1) rfl rfl (by omega)) ?_)
              refine gl_op <| op_rd rfl (rd_move rfl) <| gl_nil <| gx_then ?_
              exact gx_cut ((j + 1, nextC (cxN s h) gr.ps (u1, u2) i, N4 ++ [(⟨rg, cg, (reachP (cxN s h) i gr.ps u1).2⟩ : GR)], r148, c148, T4 ++ [RG rg cg (reachP (cxN s h) i gr.ps u1).2])) ⟨⟨by simp only; omega, by simp only; rw [fold_take _ _ hi, ← hU], by rw [hnx]; exact hN4.put (reachP_set hA him hset) (reachP_gok hA him hset hgok), by simp only [List.length_append, List.length_cons, List.length_nil]; omega, fun g hg => List.mem_append_left _ (hGT4 g hg)⟩, by simp only; omega⟩ ⟨rfl, rfl, rfl, rfl, rfl, rfl, rfl, rfl, rfl, rfl, rfl, rfl, trivial⟩ (sub_tail (A := [_, _, _, _, _, _, _, _]) (B := [_, _, _, _, _, _, _, _, _, _]) (T := (T4 ++ [RG rg cg (reachP (cxN s h) i gr.ps u1).2])) [4, 5, 7, 8, 2, 3, 9, 1] 10 (by decide) (by decide) rfl rfl)
            have hnx : nextC (cxN s h) gr.ps (u1, u2) i = (u1, u2) := by
              unfold nextC; rw [if_neg]; rw [goesL_eq hcpi hps, h131]; simp; omega
            refine ga_first 15 (bm 16 65535) rfl rfl rfl rfl (by kernel_rfl) (by kernel_rfl) ⟨[0, 1, 2, 3, 4, 5, 6, 7, 8], by decide, rfl⟩ (qt_rd (rd_pick_t rfl rfl)) ?_
            refine ga_end (by kernel_rfl) (.inr ⟨[0, 1, 2, 3, 4, 5, 6, 7, 8], by decide, rfl⟩) ?_
            refine gx_then <| gc_cond_f rfl <| gc_skip <| gx_block <| gx_then <| gc_region <| gl_op (op_rd rfl (by exact rd_addN (b := 1) rfl rfl (by omega)) ?_)
            refine gl_op <| op_rd rfl (rd_move rfl) <| gl_nil <| gx_then ?_
            exact gx_cut ((j + 1, (u1, u2), N4, r4, c4, T4)) ⟨⟨by simp only; omega, by simp only; rw [fold_take _ _ hi, ← hU]; exact hnx.symm, hN4, by simp only; omega, hGT4⟩, by simp only; omega⟩ ⟨rfl, rfl, rfl, rfl, rfl, rfl, rfl, rfl, rfl, rfl, rfl, rfl, trivial⟩ (sub_tail (A := [_, _, _, _, _, _, _, _]) (B := [_, _, _, _, _, _, _, _, _]) (T := T4) [1, 2, 3, 4, 5, 6, 7, 8] 9 (by decide) (by decide) rfl rfl)
          have hnx : nextC (cxN s h) gr.ps (u1, u2) i = (u1, u2) := by
            unfold nextC; rw [if_neg]; rw [goesL_eq hcpi hps, h131]; simp
          refine ga_first 6 (bm 16 127) rfl rfl rfl rfl (by kernel_rfl) (by kernel_rfl) ⟨[0, 1, 2, 3, 4, 5, 6, 7, 8], by decide, rfl⟩ (qt_rd (rd_pick_t rfl rfl)) ?_
          refine ga_first 7 (bm 16 255) rfl rfl rfl rfl (by kernel_rfl) (by kernel_rfl) ⟨[0, 1, 2, 3, 4, 5, 6, 7, 8], by decide, rfl⟩ (qt_rd (rd_move rfl)) ?_
          refine ga_firstN 8 (bm 16 511) rfl rfl rfl rfl rfl rfl (by kernel_rfl) (by kernel_rfl) ⟨[0, 1, 2, 3, 4, 5, 6, 7, 8], by decide, rfl⟩ ?_
          refine ga_firstN 9 (bm 16 1023) rfl rfl rfl rfl rfl rfl (by kernel_rfl) (by kernel_rfl) ⟨[0, 1, 2, 3, 4, 5, 6, 7, 8], by decide, rfl⟩ ?_
          refine ga_firstN 10 (bm 16 2047) rfl rfl rfl rfl rfl rfl (by kernel_rfl) (by kernel_rfl) ⟨[0, 1, 2, 3, 4, 5, 6, 7, 8], by decide, rfl⟩ ?_
          refine ga_firstN 11 (bm 16 4095) rfl rfl rfl rfl rfl rfl (by kernel_rfl) (by kernel_rfl) ⟨[0, 1, 2, 3, 4, 5, 6, 7, 8], by decide, rfl⟩ ?_
          refine ga_firstN 12 (bm 16 8191) rfl rfl rfl rfl rfl rfl (by kernel_rfl) (by kernel_rfl) ⟨[0, 1, 2, 3, 4, 5, 6, 7, 8], by decide, rfl⟩ ?_
          refine ga_firstN 13 (bm 16 16383) rfl rfl rfl rfl rfl rfl (by kernel_rfl) (by kernel_rfl) ⟨[0, 1, 2, 3, 4, 5, 6, 7, 8], by decide, rfl⟩ ?_
          refine ga_firstN 14 (bm 16 32767) rfl rfl rfl rfl rfl rfl (by kernel_rfl) (by kernel_rfl) ⟨[0, 1, 2, 3, 4, 5, 6, 7, 8], by decide, rfl⟩ ?_
          refine ga_first 15 (bm 16 65535) rfl rfl rfl rfl (by kernel_rfl) (by kernel_rfl) ⟨[0, 1, 2, 3, 4, 5, 6, 7, 8], by decide, rfl⟩ (qt_rd (rd_pick_f rfl rfl)) ?_
          refine ga_end (by kernel_rfl) (.inr ⟨[0, 1, 2, 3, 4, 5, 6, 7, 8], by decide, rfl⟩) ?_
          refine gx_then <| gc_cond_f rfl <| gc_skip <| gx_block <| gx_then <| gc_region <| gl_op (op_rd rfl (by exact rd_addN (b := 1) rfl rfl (by omega)) ?_)
          refine gl_op <| op_rd rfl (rd_move rfl) <| gl_nil <| gx_then ?_
          exact gx_cut ((j + 1, (u1, u2), N4, r4, c4, T4)) ⟨⟨by simp only; omega, by simp only; rw [fold_take _ _ hi, ← hU]; exact hnx.symm, hN4, by simp only; omega, hGT4⟩, by simp only; omega⟩ ⟨rfl, rfl, rfl, rfl, rfl, rfl, rfl, rfl, rfl, rfl, rfl, rfl, trivial⟩ (sub_tail (A := [_, _, _, _, _, _, _, _]) (B := [_, _, _, _, _, _, _, _, _]) (T := T4) [1, 2, 3, 4, 5, 6, 7, 8] 9 (by decide) (by decide) rfl rfl)
        have hps : gr.ps = [] := List.length_eq_zero_iff.1 (by omega)
        have hnx : nextC (cxN s h) gr.ps (u1, u2) i = (u1, u2) := by unfold nextC; rw [hps]; rfl
        refine ga_first 3 (bm 16 15) rfl rfl rfl rfl (by kernel_rfl) (by kernel_rfl) ⟨[0, 1, 2, 3, 4, 5, 6, 7, 8], by decide, rfl⟩ (qt_rd (rd_move rfl)) ?_
        refine ga_firstN 4 (bm 16 31) rfl rfl rfl rfl rfl rfl (by kernel_rfl) (by kernel_rfl) ⟨[0, 1, 2, 3, 4, 5, 6, 7, 8], by decide, rfl⟩ ?_
        refine ga_firstN 5 (bm 16 63) rfl rfl rfl rfl rfl rfl (by kernel_rfl) (by kernel_rfl) ⟨[0, 1, 2, 3, 4, 5, 6, 7, 8], by decide, rfl⟩ ?_
        refine ga_first 6 (bm 16 127) rfl rfl rfl rfl (by kernel_rfl) (by kernel_rfl) ⟨[0, 1, 2, 3, 4, 5, 6, 7, 8], by decide, rfl⟩ (qt_rd (rd_pick_f rfl rfl)) ?_
        refine ga_first 7 (bm 16 255) rfl rfl rfl rfl (by kernel_rfl) (by kernel_rfl) ⟨[0, 1, 2, 3, 4, 5, 6, 7, 8], by decide, rfl⟩ (qt_rd (rd_move rfl)) ?_
        refine ga_firstN 8 (bm 16 511) rfl rfl rfl rfl rfl rfl (by kernel_rfl) (by kernel_rfl) ⟨[0, 1, 2, 3, 4, 5, 6, 7, 8], by decide, rfl⟩ ?_
        refine ga_firstN 9 (bm 16 1023) rfl rfl rfl rfl rfl rfl (by kernel_rfl) (by kernel_rfl) ⟨[0, 1, 2, 3, 4, 5, 6, 7, 8], by decide, rfl⟩ ?_
        refine ga_firstN 10 (bm 16 2047) rfl rfl rfl rfl rfl rfl (by kernel_rfl) (by kernel_rfl) ⟨[0, 1, 2, 3, 4, 5, 6, 7, 8], by decide, rfl⟩ ?_
        refine ga_firstN 11 (bm 16 4095) rfl rfl rfl rfl rfl rfl (by kernel_rfl) (by kernel_rfl) ⟨[0, 1, 2, 3, 4, 5, 6, 7, 8], by decide, rfl⟩ ?_
        refine ga_firstN 12 (bm 16 8191) rfl rfl rfl rfl rfl rfl (by kernel_rfl) (by kernel_rfl) ⟨[0, 1, 2, 3, 4, 5, 6, 7, 8], by decide, rfl⟩ ?_
        refine ga_firstN 13 (bm 16 16383) rfl rfl rfl rfl rfl rfl (by kernel_rfl) (by kernel_rfl) ⟨[0, 1, 2, 3, 4, 5, 6, 7, 8], by decide, rfl⟩ ?_
        refine ga_firstN 14 (bm 16 32767) rfl rfl rfl rfl rfl rfl (by kernel_rfl) (by kernel_rfl) ⟨[0, 1, 2, 3, 4, 5, 6, 7, 8], by decide, rfl⟩ ?_
        refine ga_first 15 (bm 16 65535) rfl rfl rfl rfl (by kernel_rfl) (by kernel_rfl) ⟨[0, 1, 2, 3, 4, 5, 6, 7, 8], by decide, rfl⟩ (qt_rd (rd_pick_f rfl rfl)) ?_
        refine ga_end (by kernel_rfl) (.inr ⟨[0, 1, 2, 3, 4, 5, 6, 7, 8], by decide, rfl⟩) ?_
        refine gx_then <| gc_cond_f rfl <| gc_skip <| gx_block <| gx_then <| gc_region <| gl_op (op_rd rfl (by exact rd_addN (b := 1) rfl rfl (by omega)) ?_)
        refine gl_op <| op_rd rfl (rd_move rfl) <| gl_nil <| gx_then ?_
        exact gx_cut ((j + 1, (u1, u2), N4, r4, c4, T4)) ⟨⟨by simp only; omega, by simp only; rw [fold_take _ _ hi, ← hU]; exact hnx.symm, hN4, by simp only; omega, hGT4⟩, by simp only; omega⟩ ⟨rfl, rfl, rfl, rfl, rfl, rfl, rfl, rfl, rfl, rfl, rfl, rfl, trivial⟩ (sub_tail (A := [_, _, _, _, _, _, _, _]) (B := [_, _, _, _, _, _, _, _, _]) (T := T4) [1, 2, 3, 4, 5, 6, 7, 8] 9 (by decide) (by decide) rfl rfl)
      refine gl_nil <| gx_then <| gc_seq <| gc_cond_f rfl <| gc_exit <| gx_then_exit <| gx_then_exit <| gx_block_exit <| gx_block <| gx_then <| gc_region <| gl_op (op_rd rfl (by exact rd_addN (b := 1) rfl rfl (by omega)) ?_)
      refine gl_op <| op_rd rfl (rd_move rfl) <| gl_nil <| gx_then ?_
      exact gx_cut ((k + 1, (u1, u2), N4, r4, c4, T4)) ⟨⟨by simp only; omega, by simp only; rw [fold_take _ _ hgp, ← hX]; unfold nextL; rw [hU, show h.cs.take j = h.cs from List.take_of_length_le (by omega)]; rfl, hN4, by simp only; omega, hGT4⟩, by simp only; omega⟩ ⟨rfl, rfl, rfl, rfl, rfl, rfl, rfl, rfl, trivial⟩ (sub_tail (A := [_, _, _, _, _, _, _, _]) (B := [_, _, _, _, _, _, _, _]) (T := T4) [0, 1, 2, 3, 4, 5, 6, 7] 8 (by decide) (by decide) rfl rfl)
    refine gl_nil <| gx_then <| gc_seq <| gc_cond_f rfl <| gc_exit <| gx_then_exit <| gx_then_exit <| gx_block_exit <| gx_then ?_
    have hlev : lev (cxN s h) (lv + 1) = (z1, z2.filter fun l => decide (l ≠ [])) := by
      show nextG (cxN s h) (lev (cxN s h) lv) = _
      rw [hy]
      unfold nextG
      simp only
      rw [show y2.take k = y2 from List.take_of_length_le (by omega)] at hX
      rw [← hX]
    rw [show z1.sets = (lev (cxN s h) (lv + 1)).1.sets by rw [hlev], show z1.tb = (lev (cxN s h) (lv + 1)).1.tb by rw [hlev]]
    refine gc_region <| gl_op <| op_rd rfl (rd_move rfl) <| gl_op (op_callMT [_, _, _, _, _, _, _, _] T3 [2] [0, 1, 3, 4, 5, 6, 7] 8 rfl rfl rfl (vf := []) (vc := []) rfl rfl Tryd.call52 (by decide) (by decide) rfl (fun w how hc => DeleteG_ok N3 r3 c3 (by omega) _ w hc) ?_)
    rintro _ _ ⟨rfl, rfl⟩
    refine gl_op <| op_rd rfl (rd_assign rfl) <| gl_nil <| gx_block <| gx_then ?_
    exact gx_cut ((lv + 1, N3.filter neB, r3, c3, T3)) ⟨⟨by simp only; omega, by simp only; rw [hlev]; exact hN3.filter⟩, by simp only; omega⟩ ⟨rfl, rfl, rfl, rfl, rfl, trivial⟩ (sub_tail (A := [_, _, _, _, _, _, _]) (B := [_, _, _, _, _, _, _, _]) (T := T3) [1, 2, 0, 4, 5, 6, 7] 8 (by decide) (by decide) rfl rfl)
  refine gl_nil <| gx_then <| gc_cond_f rfl <| gc_exit <| gx_then_exit <| gx_then_exit <| gx_block_exit <| gx_then <| gc_seq <| gc_region <| gl_op (op_rd rfl (rd_load Tryd.underlying82 rfl rfl (by exact ld_blk 3 rfl rfl)) ?_)
  refine gl_op <| op_rd rfl (rd_assign rfl) <| gl_nil <| gx_then <| gc_ret <| gx_ret1 (.inl rfl) Tryd.results32 rfl [4, 0, 1] (by decide) ?_
  have he : (lev (cxN s h) lv).1 = actP (cxN s h) := lev_act hA (by unfold fuelA; omega) (by rw [hy]; simp only; exact List.length_eq_zero_iff.1 (by omega))
  rw [hy] at he
  simp only at he
  rw [← he]
  exact ⟨b30, b27, _, b28, rfl, rfl⟩
end Go.Proofs.YtbjijbbkfgcleaaDoor
namespace Go.Proofs.YtbjijbbkfgcleaaDoor
open Go.Gv
open Go.RowKit
open Go.Sn
open Sx
namespace Sx
/-- the couplers of a chain in memory -/
def CEIn (TC : List HL) (e : CE) : Prop := (e.r = none ∧ e.ch = []) ∨ HL.row 3 1 e.r e.ch.length e.c (e.ch.map natV) ∈ TC
end Sx
open Sx
end Go.Proofs.YtbjijbbkfgcleaaDoor
namespace Go.Proofs.YtbjijbbkfgcleaaDoor
open Go.Gv
open Go.RowKit
open Go.Sn
open Sx
namespace Sx
def CEs (tb : List (List CE)) (TC : List HL) : Prop := ∀ q, (entR tb q).there = true → CEIn TC (entR tb q) ∧ (entR tb q).ch.length ≤ 100000
theorem CEIn.mono {TC TC' : List HL} {e : CE} (h : CEIn TC e) (hm : ∀ x ∈ TC, x ∈ TC') : CEIn TC' e := by
  rcases h with h | h
  · exact .inl h
  · exact .inr (hm _ h)
theorem CEs.put {tb : List (List CE)} {TC : List HL} {nd : Nat} (h : CEs tb TC) (htb : TbLen nd tb) {lo hi : Int} {d : Nat} (hd : d < nd) (h0 : 0 ≤ lo) (h1 : hi ≤ 127) {key : Int} {x : CE} {row : HL} (hx : CEIn (TC ++ [row]) x) (hl : x.ch.length ≤ 100000) : CEs (addR lo hi tb d key x) (TC ++ [row]) := fun q hq => by
  rcases addR_ent (x := x) (key := key) htb hd h0 h1 q with e | e
  · rw [e]; exact ⟨hx, hl⟩
  · rw [e] at hq ⊢
    exact ⟨(h q hq).1.mono fun y hy => List.mem_append_left _ hy, (h q hq).2⟩
end Sx
open Sx
end Go.Proofs.YtbjijbbkfgcleaaDoor
namespace Go.Proofs.YtbjijbbkfgcleaaDoor
open Go.Gv
open Go.RowKit
open Go.Sn
open Sx
set_option maxRecDepth 100000 in
set_option maxHeartbeats 1000000 in
theorem Keys_ok (s : Org) (h : Hd) (hle : OrgLe s) (hhe : HdLe h) (w0 : World) (hS : OrgIn s w0 []) (hH : HdIn h w0 []) (hT : TabIn w0) : Sp Tryd.prog 12 [s.val, h.val] w0 [] (KeysR 3 29 s h) := by
  refine spec_enter Tryd.func12 rfl Tryd.ntmps12 rfl (Own.refl _) ?_
  simp only [argEnv]
  refine gc_seq <| gc_region <| gl_op (op_box rfl rfl rfl (fun b2 => ?_))
  refine gl_op (op_box rfl rfl rfl (fun b3 => ?_))
  refine gl_op <| op_rd rfl (rd_assign rfl) <| gl_op <| op_rd rfl (rd_assign rfl) <| gl_nil <| gx_then <| gc_seq <| gc_seq <| gc_region <| gl_op (op_rd rfl (rd_loadAgg Tryd.underlying27 rfl ty_27 rfl (by exact cs_blk 1 (off := 0) (k := 4) rfl rfl) rfl) ?_)
  refine gl_op (op_rd rfl (rd_loadAgg Tryd.underlying31 rfl ty_31 rfl (by exact cs_blk 0 (off := 0) (k := 3) rfl rfl) rfl) ?_)
  refine gl_op (op_call rfl (vf := []) (vc := []) rfl rfl Tryd.call14 (fun w1 ho => Check_ok s h hle hhe w1 (hS.at ho) (hH.at ho)) ?_)
  rintro _ _ ⟨rfl, rfl⟩
  refine gl_op <| op_rd rfl (rd_assign rfl) <| gl_nil <| gx_then <| gc_seq <| gc_region <| gl_op <| op_rd rfl (rd_move rfl) <| gl_op (op_rd rfl (rd_neq rfl rfl) (gk_dec (fun h15 => ?_) (fun h15 => ?_)))
  · refine gl_nil <| gx_then <| gc_cond_t rfl <| gc_seq <| gc_region <| gl_op <| op_rd rfl (rd_move rfl) <| gl_op <| op_rd rfl (rd_assign rfl) <| gl_op <| op_rd rfl (rd_assign rfl) <| gl_nil <| gx_then <| gc_ret <| gx_then_ret <| gx_ret2 (.inl rfl) Tryd.results12 rfl rfl [] (by decide) ?_
    exact .inl ⟨h15, rfl, rfl⟩
  obtain ⟨n, rfl, hg⟩ := good_of (s := s) hhe (by omega)
  have hH := HNIn.of hH
  simp only [HN.hd_val]
  have hA := hg.cx
  have hnd : s.ds.length ≤ 6 := hA.nd
  obtain ⟨e0, he0⟩ : ∃ e0, handErr s n.hd = e0 := ⟨_, rfl⟩
  refine gl_nil <| gx_then <| gc_cond_f rfl <| gc_skip <| gx_then <| gc_seq <| gc_region <| gl_op (op_rd rfl (rd_loadAgg Tryd.underlying27 rfl ty_27 rfl (by exact cs_blk 1 (off := 0) (k := 4) rfl rfl) rfl) ?_)
  refine gl_op (op_rd rfl (rd_loadAgg Tryd.underlying31 rfl ty_31 rfl (by exact cs_blk 0 (off := 0) (k := 3) rfl rfl) rfl) ?_)
  refine gl_op (op_call rfl (vf := []) (vc := []) rfl rfl Tryd.call32 (fun w1 ho => acting_ok s n hle hg w1 (hS.at ho) (hH.at ho)) ?_)
  rintro _ _ ⟨b30, k27, c27, m28, rfl, rfl⟩
  unfold BK RS OM
  have hset := act_set hA
  have hsl0 : (actP (cxN s n)).sets.length = s.ds.length := hset.len
  refine gl_op <| op_rd rfl (rd_assign rfl) <| gl_nil <| gx_then <| gc_seq <| gc_region <| gl_op <| op_rd rfl (rd_move rfl) <| gl_op <| op_rd rfl (rd_nilCheck rfl) <| gl_op <| op_rd rfl (rd_fieldAddr rfl (fa_87_0 _)) <| gl_op (op_rd rfl (rd_load Tryd.underlying84 rfl rfl (by exact ld_blk 0 rfl rfl)) ?_)
  refine gl_op <| op_rd rfl (rd_lenSlice Tryd.underlying84 rfl) <| gl_op (op_makeSlice (s.ds.length) Tryd.underlying28 ty_29 rfl rfl rfl (by omega) (by omega) (by omega) (by omega) (fun b25 => ?_))
  refine gl_op <| op_rd rfl (rd_assign rfl) <| gl_nil <| gx_then <| gc_seq <| gc_seq ?_
  rw [made_one _ rfl]
  refine gc_region <| gl_op <| op_rd rfl (rd_move rfl) <| gl_op <| op_rd rfl (rd_nilCheck rfl) <| gl_op <| op_rd rfl (rd_fieldAddr rfl (fa_87_0 _)) <| gl_op (op_rd rfl (rd_load Tryd.underlying84 rfl rfl (by exact ld_blk 1 rfl rfl)) ?_)
  refine gl_op <| op_rd rfl (rd_lenSlice Tryd.underlying84 rfl) <| gl_op <| op_rd rfl (rd_move rfl) <| gl_nil <| gx_then <| gc_block <| gc_loopF (ι := List KG) [(8, _), (29, _), (30, _)] [_, _, _, _, _] (fun G => G.length ≤ s.ds.length ∧ G.map KG.ks = keysT (tabOf (actP (cxN s n)).tb) G.length) (fun G Fr0 => ((31, natV G.length) :: Fr0)) (fun G Fr0 => (.row 29 1 (some b25) s.ds.length s.ds.length (G.map KG.cell ++ List.replicate (s.ds.length - G.length) nilV) :: (Fr0 ++ (G.map (KG.hl 3))))) (fun G => s.ds.length - G.length) [] (⟨Nat.zero_le _, rfl⟩) ⟨rfl, rfl, rfl, rfl, trivial⟩ ⟨[0, 1, 2, 3, 4, 5], by decide, rfl⟩ ?_
  rintro G ⟨hgl, hgk⟩
  refine gc_seq <| gc_region <| gl_op (op_rd rfl (rd_lss rfl rfl) (gk_dec (fun h32 => ?_) (fun h32 => ?_)))
  · obtain ⟨X, hX⟩ := get_some (show G.length < (actP (cxN s n)).sets.length by omega)
    have hXl := hset.lt X (List.mem_of_getElem? hX)
    have hXb : bitsOf X = rowK (tabOf (actP (cxN s n)).tb) G.length 128 := by rw [← bits_act hA (show G.length < s.ds.length by omega), getD_some hX]
    refine gl_nil <| gx_then <| gc_seq <| gc_cond_t rfl <| gc_skip <| gx_then <| gc_seq <| gc_block <| gc_seq <| gc_region <| gl_op <| op_rd rfl (rd_move rfl) <| gl_op (op_rd rfl (by exact rd_indexRow 2 rfl Tryd.underlying84 ty_90 rfl rfl (by omega) (by omega)) ?_)
    refine gl_op (op_rd rfl (rd_loadAgg Tryd.underlying90 rfl ty_90 rfl (cs_row 2 (a := some k27) rfl (flat_drop_get setC 2 (fun _ => rfl) hX)) rfl) ?_)
    refine gl_op (op_alloc ty_90 rfl rfl (fun b10 => ?_))
    refine gl_op <| op_rd rfl (rd_assign rfl) <| gl_op (op_storeAgg 0 ty_90 rfl rfl rfl rfl rfl rfl (by rfl) ?_)
    refine gl_nil <| gx_then <| gc_region <| gl_op <| op_rd rfl (rd_move rfl) <| gl_op <| op_rd rfl (rd_move rfl) <| gl_op (op_rd rfl (rd_loadAgg Tryd.underlying90 rfl ty_90 rfl (by exact cs_blk 0 (off := 0) (k := 2) rfl rfl) rfl) ?_)
    simp only [setC]
    refine gl_op (op_call rfl (vf := []) (vc := []) rfl rfl Tryd.call33 (fun w1 ho => listed_ok X hXl w1 (hT.at ho (by decide))) ?_)
    rintro _ _ ⟨r39, c39, rfl, rfl⟩
    refine gk_mid2 [] [HL.row 3 1 r39 (bitsOf X).length c39 ((bitsOf X).map natV)] [_, _, _, _, _, _, _] (G.map (KG.hl 3)) ?_
    rw [show [HL.row 3 1 r39 (bitsOf X).length c39 ((bitsOf X).map natV)] = [(⟨r39, c39, bitsOf X⟩ : KG).hl 3] from rfl, kg_tail, List.nil_append]
    refine gl_op (op_rd rfl (by exact rd_indexRow1 1 rfl Tryd.underlying28 ty_29 rfl rfl (by omega) (by omega)) ?_)
    refine gl_op (op_storeRowE 1 ty_29 rfl rfl rfl rfl (by rw [kg_len G _ (by omega)]; omega) (kg_put G ⟨r39, c39, bitsOf X⟩ s.ds.length (by omega)) (by rfl) ?_)
    refine gl_nil <| gx_block <| gx_then ?_
    rw [show G.length + 1 = (G ++ [(⟨r39, c39, bitsOf X⟩ : KG)]).length by simp]
    refine gc_region <| gl_op (op_rd rfl (by exact rd_addN (b := 1) rfl rfl (by omega)) ?_)
    refine gl_op <| op_rd rfl (rd_move rfl) <| gl_nil <| gx_then ?_
    exact gx_cut (G ++ [(⟨r39, c39, bitsOf X⟩ : KG)]) ⟨⟨by rw [List.length_append, List.length_cons, List.length_nil]; omega, by rw [List.length_append, List.map_append, hgk]; show _ = keysT _ (G.length + 1); rw [keysT_take]; exact congrArg (fun z => _ ++ [z]) hXb⟩, by rw [List.length_append, List.length_cons, List.length_nil]; omega⟩ ⟨(by rw [List.length_append]; rfl), rfl, rfl, rfl, trivial⟩ (sub_tail (A := [_, _, _, _, _, _]) (B := [_, _, _, _, _, _, _]) (T := ((G ++ [(⟨r39, c39, bitsOf X⟩ : KG)]).map (KG.hl 3))) [1, 2, 3, 4, 5, 6] 7 (by decide) (by decide) rfl rfl)
  refine gl_nil <| gx_then <| gc_seq <| gc_cond_f rfl <| gc_exit <| gx_then_exit <| gx_then_exit <| gx_block_exit <| gx_then <| gc_seq ?_
  have hgl9 : G.length = s.ds.length := by omega
  rw [hgl9, Nat.sub_self, List.replicate_zero, List.append_nil]
  refine gc_region <| gl_op <| op_rd rfl (rd_move rfl) <| gl_op <| op_rd rfl (rd_assign rfl) <| gl_op <| op_rd rfl (rd_assign rfl) <| gl_nil <| gx_then <| gc_ret <| gx_ret2S (.inl rfl) Tryd.results12 rfl rfl (sub_tail (A := [_]) (B := [_, _, _, _, _, _]) (T := (G.map (KG.hl 3))) [0] 6 (by decide) (by decide) rfl rfl) ?_
  exact .inr ⟨by omega, n, b25, G, rfl, hg, by rw [hgk, hgl9]; rfl, rfl, rfl⟩
end Go.Proofs.YtbjijbbkfgcleaaDoor
namespace Go.Proofs.YtbjijbbkfgcleaaDoor
open Go.Gv
open Go.RowKit
open Go.Sn
open Sx
namespace Sx
end Sx
open Sx
end Go.Proofs.YtbjijbbkfgcleaaDoor
namespace Go.Proofs.YtbjijbbkfgcleaaDoor
open Go.Gv
open Go.RowKit
open Go.Sn
open Sx
set_option maxRecDepth 100000 in
set_option maxHeartbeats 1000000 in
theorem piped_ok (sets : List Nat) (a : Option Addr) (ca : Nat) (hsn : sets.length ≤ 1000) (hlt : ∀ x ∈ sets, x < 2 ^ 128) (w0 : World) (hT : TabIn w0) (hsl : OldSl w0 [] a sets.length 2 (sets.flatMap setC)) : Sp Tryd.prog 44 [.slice a sets.length ca] w0 [] (fun v L => ∃ r c, v = .slice (rowA r) (pipesU sets sets.length).length c ∧ L = [.row 42 2 r (pipesU sets sets.length).length c ((pipesU sets sets.length).flatMap plC)]) := by
  refine spec_enterM Tryd.func44 rfl Tryd.ntmps44 rfl (Own.refl _) ?_
  simp only [argEnv]
  refine rc_seq <| rc_region <| rl_op (by nofun) (op_rd rfl (rd_assign rfl) ?_)
  refine rl_nil <| gx_then <| rc_seq <| rc_region <| rl_op (by nofun) (op_alloc ty_49 rfl rfl (fun b3 => ?_))
  refine rl_nil <| gx_then <| rc_seq <| rc_seq <| rc_region <| rl_op (by nofun) (op_rd rfl (rd_move rfl) ?_)
  refine rl_op (by nofun) (op_rd rfl (rd_lenSlice Tryd.underlying84 rfl) ?_)
  refine rl_op (by nofun) (op_rd rfl (rd_move rfl) ?_)
  refine rl_nil <| gx_then <| rc_block <| gk_nil 42 2 <| rc_loopM (ι := Nat × List Nat × Option Nat × Nat) [(3, _), (7, _), (8, _)] [] (fun q => q.1 ≤ sets.length) (fun q => q.2.1.map Go.Gv.mark) (fun q Fr0 => ((9, natV q.1) :: Fr0)) (fun q Fr0 => (.blk b3 [.slice (rowA q.2.2.1) (pipesU sets q.1).length q.2.2.2] 49 :: .row 42 2 q.2.2.1 (pipesU sets q.1).length q.2.2.2 ((pipesU sets q.1).flatMap plC) :: (Fr0 ++ (q.2.1.map markH)))) (fun q => sets.length - q.1) (0, [], none, 0) (Nat.zero_le _) rfl ⟨rfl, rfl, rfl, rfl, trivial⟩ ⟨[1, 0], by decide, rfl⟩ ?_
  rintro ⟨d, Ds, rC, cC⟩ hd
  simp only at hd ⊢
  refine rc_seq <| rc_region <| rl_op (by nofun) (op_rd rfl (rd_lss rfl rfl) (gk_dec (fun h10 => ?_) (fun h10 => ?_)))
  · obtain ⟨X, hX⟩ := get_some (show d < sets.length by omega)
    have hXl := hlt X (List.mem_of_getElem? hX)
    have hbl := bitsOf_len X
    refine rl_nil <| gx_then <| rc_seq <| rc_cond_t rfl <| rc_skip <| gx_then <| rc_seq <| rc_block <| rc_seq <| rc_region <| rl_op (by nofun) (op_rd rfl (rd_move rfl) ?_)
    refine rl_op (by nofun) (op_rd rfl (by exact rd_indexOld (by assumption) Tryd.underlying84 ty_90 rfl rfl (by omega) (by omega)) ?_)
    refine rl_op (by nofun) (op_rd rfl (rd_loadAgg Tryd.underlying90 rfl ty_90 rfl (cs_sl hsl (flat_drop_get setC 2 (fun _ => rfl) hX)) rfl) ?_)
    refine rl_op (by nofun) (op_alloc ty_3 rfl rfl (fun b4 => ?_))
    refine rl_op (by nofun) (op_alloc ty_90 rfl rfl (fun b5 => ?_))
    refine rl_op (by nofun) (op_store 1 ty_3 rfl rfl rfl rfl rfl (by rfl) (by rfl) ?_)
    refine rl_op (by nofun) (op_storeAgg 0 ty_90 rfl rfl rfl rfl rfl rfl (by rfl) ?_)
    refine rl_nil <| gx_then <| rc_seq <| rc_region <| rl_op (by nofun) (op_rd rfl (rd_loadAgg Tryd.underlying90 rfl ty_90 rfl (by exact cs_blk 0 (off := 0) (k := 2) rfl rfl) rfl) ?_)
    simp only [setC]
    refine rl_op (by nofun) (op_call rfl (vf := []) (vc := []) rfl rfl Tryd.call39 (fun w1 ho => all_ok X w1) ?_)
    rintro _ _ ⟨bx, rfl, rfl⟩
    refine rl_nil <| gx_then <| rc_block <| gk_env [(3, _), (4, _), (5, _), (7, _), (8, _), (9, _), (10, _), (11, _), (12, _), (13, _), (14, _), (15, _)] ⟨rfl, rfl, rfl, rfl, rfl, rfl, rfl, rfl, rfl, rfl, rfl, rfl, trivial⟩ ?_
    refine rc_rangeF (β := Unit) (N := (bitsOf X).length) (xs := fun i => natV ((bitsOf X).getD i 0)) (gf := 73) (caps := [.pointer (some ⟨bx, 0, none⟩)]) (fun i _ => [(6, natV ((bitsOf X).getD i 0))]) (fun i _ => []) rfl Tryd.call73 rfl (fun i L => ∃ r c, L = [.blk bx (setC X) 90, .blk b5 (setC X) 90, .blk b4 [natV d] 3, .blk b3 [.slice (rowA r) (pipesI sets d X i).length c] 49, .row 42 2 r (pipesI sets d X i).length c ((pipesI sets d X i).flatMap plC)] ++ Ds.map markH) (fun _ _ _ => False) (fun L => HL.blk bx (setC X) 90 ∈ L) (fun i L hd h => by
      rcases h with ⟨r, c, rfl⟩ | ⟨c, h⟩
      · exact List.mem_append_right _ (List.mem_append_left _ List.mem_cons_self)
      · exact h.elim) (⟨rC, cC, by rw [pipesI_zero]; rfl⟩) (fun lb J Jx hG w1 L hY hJ hO => allIt_ok X hXl bx lb J Jx hG w1 L hY hJ hO.self (hT.at hO (by decide)) (old_out hO hT.lt (by decide))) ?_ ?_ ?_ ?_
    · intro i lb w1 S1 L1 K1 Q1 hk1
      refine rc_region <| rl_op (by nofun) (op_rd rfl (rd_assign rfl) ?_)
      refine rl_nil <| gx_then ?_
      exact gk_env _ (by exact ⟨rfl, rfl, rfl, rfl, rfl, rfl, rfl, rfl, rfl, rfl, rfl, rfl, rfl, trivial⟩) (hk1 ())
    · intro i hi L hI lb D rec w1 S1 _ rec9 hO9 hS9
      obtain ⟨r, c, rfl⟩ := hI
      have hPl := pipesI_len sets d X i
      refine rc_block <| rc_region <| rl_op (by nofun) (op_rd rfl (rd_load Tryd.underlying49 rfl rfl (by exact ld_blk 5 rfl rfl)) ?_)
      refine rl_op (by nofun) (op_rd rfl (rd_load Tryd.underlying3 rfl rfl (by exact ld_blk 4 rfl rfl)) ?_)
      refine rl_op (by nofun) (op_rd rfl (rd_move rfl) ?_)
      refine rl_op (by nofun) (op_rd rfl (rd_build rfl (fun _ => bd_42_0_1 _ _)) ?_)
      refine rl_op (by nofun) (op_buildSlice (sz := 2) rfl rfl (fun _ => bs_49_1_0 _ _) rfl rfl (fun b21 => ?_))
      refine rl_op (by nofun) (op_appendRow 7 0 Tryd.underlying49 ty_42 rfl (by decide) rfl rfl rfl rfl rfl (by simp [Value.oneCell']) (by omega) (by omega) (fun _ => (by rfl)) (fun r22 c22 => ?_))
      refine rl_op (by nofun) (op_store 6 ty_49 rfl rfl rfl rfl rfl (by rfl) (by rfl) ?_)
      refine rl_nil <| gx_block ?_
      rw [show (pipesI sets d X i).length + 1 = (pipesI sets d X (i + 1)).length by rw [pipesI_snoc hi, List.length_append]; rfl, show (pipesI sets d X i).flatMap plC ++ [natV d, natV ((bitsOf X).getD i 0)] = (pipesI sets d X (i + 1)).flatMap plC by rw [pipesI_snoc hi, List.flatMap_append]; rfl]
      exact rp_normal _ (⟨r22, c22, rfl⟩) (sub_tail (A := [_, _, _, _, _, _, _]) (B := [_, _, _, _, _, _, _, _]) (T := (Ds.map markH)) [1, 2, 3, 4, 5, 6, 7] 8 (by decide) (by decide) rfl rfl)
    · intro D L hI
      obtain ⟨r, c, rfl⟩ := hI
      rw [pipesI_all hX]
      refine gk_front [_, _, _, _, _, _] [_, _, _, _, _] (Ds.map markH) [1, 2, 3, 4, 5] 0 6 rfl (x := markH D) rfl rfl (by decide) (by decide) ?_
      refine gx_block <| gx_block <| gx_then <| rc_region <| rl_op (by nofun) (op_rd rfl (by exact rd_addN (b := 1) rfl rfl (by omega)) ?_)
      refine rl_op (by nofun) (op_rd rfl (rd_move rfl) ?_)
      refine rl_nil <| gx_then ?_
      exact gx_cutM ((d + 1, D :: Ds, r, c)) ⟨by simp only; omega, by simp only; omega⟩ rfl ⟨rfl, rfl, rfl, rfl, trivial⟩ (sub_tail (A := [_, _]) (B := [_, _, _, _, _]) (T := ((D :: Ds).map markH)) [3, 4] 5 (by decide) (by decide) rfl rfl)
    · intro D c i L hi hI
      exact hI.elim
  refine rl_nil <| gx_then <| rc_seq <| rc_cond_f rfl <| rc_exit <| gx_then_exit <| gx_then_exit <| gx_block_exit <| gx_then <| rc_seq <| rc_region <| rl_op (by nofun) (op_rd rfl (rd_load Tryd.underlying49 rfl rfl (by exact ld_blk 0 rfl rfl)) ?_)
  refine rl_op (by nofun) (op_rd rfl (rd_assign rfl) ?_)
  refine rl_nil <| gx_then <| rc_ret ?_
  have hd9 : d = sets.length := by omega
  subst hd9
  refine gk_sub (sub_tail (A := [_]) (B := [_, _]) (T := (Ds.map markH)) [1] 2 (by decide) (by decide) rfl rfl) ?_
  refine gk_sub (sub_rot [_] (Ds.map markH)) <| gx_retM1 Ds (.inl rfl) Tryd.results44 rfl (Sub.refl' _) ?_
  exact ⟨rC, cC, rfl, rfl⟩
end Go.Proofs.YtbjijbbkfgcleaaDoor
namespace Go.Proofs.YtbjijbbkfgcleaaDoor
open Go.Gv
open Go.RowKit
open Go.Sn
open Sx
set_option maxRecDepth 100000 in
set_option maxHeartbeats 1000000 in
theorem count_ok (s : Org) (h : HN) (hle : OrgLe s) (hg : HGood s h) (w0 : World) (hS : OrgIn s w0 []) (hH : HNIn h w0 []) (hT : TabIn w0) : Sp Tryd.prog 47 [s.val, h.val] w0 [] (fun v L => ∃ b21, v = .slice (rowA (some b21)) s.rs.length s.rs.length ∧ L = [.row 119 128 (some b21) s.rs.length s.rs.length (cntC s.rs.length (cntP s h h.ss.length))]) := by
  have hA := hg.cx
  have hnd : s.ds.length ≤ 6 := hA.nd
  have hkl : h.ks.length = s.ds.length := by have := hA.nk; simpa [cxN] using this
  have hnc := hg.nc
  have hcl : h.cs.length ≤ s.cs.length := asc_len hA.dra hA.drn
  have hnr := hg.nr
  have hns := hg.ns
  have hss : h.ss.length ≤ s.ss.length := asc_len hg.ssA hg.ssN
  refine spec_enterM Tryd.func47 rfl Tryd.ntmps47 rfl (Own.refl _) ?_
  simp only [argEnv]
  refine rc_seq <| rc_region <| rl_op (by nofun) (op_box rfl rfl rfl (fun b2 => ?_))
  refine rl_op (by nofun) (op_box rfl rfl rfl (fun b3 => ?_))
  refine rl_op (by nofun) (op_rd rfl (rd_assign rfl) ?_)
  refine rl_nil <| gx_then <| rc_seq <| rc_region <| rl_op (by nofun) (op_rd rfl (rd_loadAgg Tryd.underlying27 rfl ty_27 rfl (by exact cs_blk 1 (off := 0) (k := 4) rfl rfl) rfl) ?_)
  refine rl_op (by nofun) (op_rd rfl (rd_loadAgg Tryd.underlying31 rfl ty_31 rfl (by exact cs_blk 0 (off := 0) (k := 3) rfl rfl) rfl) ?_)
  refine rl_op (by nofun) (op_call rfl (vf := []) (vc := []) rfl rfl Tryd.call32 (fun w1 ho => acting_ok s h hle hg w1 (hS.at ho) (hH.at ho)) ?_)
  rintro _ _ ⟨b30, k27, c27, m28, rfl, rfl⟩
  unfold BK RS OM
  have hset := act_set hA
  have hsl0 : (actP (cxN s h)).sets.length = s.ds.length := hset.len
  refine rl_op (by nofun) (op_rd rfl (rd_assign rfl) ?_)
  refine rl_nil <| gx_then <| rc_seq <| rc_region <| rl_op (by nofun) (op_rd rfl (rd_fieldAddr rfl (fa_27_1 _)) ?_)
  refine rl_op (by nofun) (op_rd rfl (rd_load Tryd.underlying23 rfl rfl (by exact ld_blk 4 rfl rfl)) ?_)
  refine rl_op (by nofun) (op_rd rfl (rd_lenSlice Tryd.underlying23 rfl) ?_)
  refine rl_op (by nofun) (op_makeSlice (s.rs.length) Tryd.underlying117 ty_119 rfl rfl rfl (by omega) (by omega) (by omega) (by omega) (fun b21 => ?_))
  refine rl_op (by nofun) (op_alloc ty_117 rfl rfl (fun b6 => ?_))
  refine rl_op (by nofun) (op_store 0 ty_117 rfl rfl rfl rfl rfl (by rfl) (by rfl) ?_)
  refine rl_nil <| gx_then <| rc_seq <| rc_seq ?_
  rw [cnt_made s h (by kernel_rfl)]
  refine rc_region <| rl_op (by nofun) (op_rd rfl (rd_fieldAddr rfl (fa_31_1 _)) ?_)
  refine rl_op (by nofun) (op_rd rfl (rd_load Tryd.underlying29 rfl rfl (by exact ld_blk 5 rfl rfl)) ?_)
  refine rl_op (by nofun) (op_rd rfl (rd_lenSlice Tryd.underlying29 rfl) ?_)
  refine rl_op (by nofun) (op_rd rfl (rd_move rfl) ?_)
  refine rl_nil <| gx_then <| rc_block <| rc_loopM (ι := Nat × List Nat) [(2, _), (5, _), (6, _), (23, _), (24, _)] [_, _, _, _, _, _] (fun q => q.1 ≤ h.ss.length) (fun q => q.2.map Go.Gv.mark) (fun q Fr0 => ((25, natV q.1) :: Fr0)) (fun q Fr0 => (.row 119 128 (some b21) s.rs.length s.rs.length (cntC s.rs.length (cntP s h q.1)) :: (Fr0 ++ (q.2.map markH)))) (fun q => h.ss.length - q.1) (0, []) (Nat.zero_le _) rfl ⟨rfl, rfl, rfl, rfl, rfl, rfl, trivial⟩ ⟨[1, 0, 2, 3, 4, 5, 6], by decide, rfl⟩ ?_
  rintro ⟨k, Ds⟩ hk
  simp only at hk ⊢
  refine rc_seq <| rc_region <| rl_op (by nofun) (op_rd rfl (rd_lss rfl rfl) (gk_dec (fun h26 => ?_) (fun h26 => ?_)))
  · obtain ⟨i0, hi0⟩ := get_some (show k < h.ss.length by omega)
    obtain ⟨x, hx⟩ := get_some (hg.ssN i0 (List.mem_of_getElem? hi0))
    have hxm := List.mem_of_getElem? hx
    obtain ⟨hv0, hv1, hpo, hp12, hpb⟩ := Go.Sn.stop_ok hg hx
    have hpc := hle.pc x hxm
    have hsA : stA s i0 = x := getD_some hx
    obtain ⟨X, hX⟩ := get_some (show x.div.toNat < (actP (cxN s h)).sets.length by omega)
    have hXl := hset.lt X (List.mem_of_getElem? hX)
    have hbl := bitsOf_len X
    have hkX := keysP_at hA (show x.div.toNat < s.ds.length by omega) hX
    have hnx : (fun q => cntP s h k q + cntK x (bitsOf X) q) = cntP s h (k + 1) := by rw [← cntP_next hi0, hsA, hkX]
    have hil : i0 < s.ss.length := (List.getElem?_eq_some_iff.1 hx).1
    refine rl_nil <| gx_then <| rc_seq <| rc_cond_t rfl <| rc_skip <| gx_then <| rc_seq <| rc_block <| rc_seq <| rc_region <| rl_op (by nofun) (op_rd rfl (rd_indexOld1 hH.t Tryd.underlying29 ty_3 rfl rfl (by omega) (by omega)) ?_)
    refine rl_op (by nofun) (op_rd rfl (rd_load Tryd.underlying3 rfl rfl (ld_slN hH.t (get_nz hi0))) ?_)
    refine rl_op (by nofun) (op_rd rfl (rd_assign rfl) ?_)
    refine rl_nil <| gx_then <| rc_seq <| rc_region <| rl_op (by nofun) (op_rd rfl (rd_fieldAddr rfl (fa_27_2 _)) ?_)
    refine rl_op (by nofun) (op_rd rfl (rd_load Tryd.underlying24 rfl rfl (by exact ld_blk 6 rfl rfl)) ?_)
    refine rl_op (by nofun) (op_rd rfl (rd_move rfl) ?_)
    refine rl_op (by nofun) (op_rd rfl (rd_indexOld hS.t Tryd.underlying24 ty_57 rfl rfl (by omega) (by omega)) ?_)
    refine rl_op (by nofun) (op_rd rfl (rd_loadAgg Tryd.underlying57 rfl ty_57 rfl (cs_slN hS.t (flat_drop_get St.cells 5 (fun _ => rfl) hx)) rfl) ?_)
    refine rl_op (by nofun) (op_alloc ty_57 rfl rfl (fun b9 => ?_))
    refine rl_op (by nofun) (op_storeAgg 0 ty_57 rfl rfl rfl rfl rfl rfl (by rfl) ?_)
    refine rl_nil <| gx_then <| rc_seq ?_
    simp only [St.cells]
    refine rc_drawP [0, 1, 2, 3, 4, 5, 6, 7] true 8 rfl rfl <| ga_first 0 (bm 9 1) rfl rfl rfl rfl (by kernel_rfl) (by kernel_rfl) ⟨[0, 1, 2, 3, 4, 5, 6, 7], by decide, rfl⟩ (qt_rd (rd_move rfl)) ?_
    refine ga_first 1 (bm 9 3) rfl rfl rfl rfl (by kernel_rfl) (by kernel_rfl) ⟨[0, 1, 2, 3, 4, 5, 6, 7], by decide, rfl⟩ (qt_rd (rd_nilCheck rfl)) ?_
    refine ga_first 2 (bm 9 7) rfl rfl rfl rfl (by kernel_rfl) (by kernel_rfl) ⟨[0, 1, 2, 3, 4, 5, 6, 7], by decide, rfl⟩ (qt_rd (rd_fieldAddr rfl (fa_87_0 _))) ?_
    refine ga_first 3 (bm 9 15) rfl rfl rfl rfl (by kernel_rfl) (by kernel_rfl) ⟨[0, 1, 2, 3, 4, 5, 6, 7], by decide, rfl⟩ (qt_rd (rd_load Tryd.underlying84 rfl rfl (by exact ld_blk 3 rfl rfl))) ?_
    refine ga_first 4 (bm 9 31) rfl rfl rfl rfl (by kernel_rfl) (by kernel_rfl) ⟨[0, 1, 2, 3, 4, 5, 6, 7], by decide, rfl⟩ (qt_rd (rd_fieldAddr rfl (fa_57_1 _))) ?_
    refine ga_first 5 (bm 9 63) rfl rfl rfl rfl (by kernel_rfl) (by kernel_rfl) ⟨[0, 1, 2, 3, 4, 5, 6, 7], by decide, rfl⟩ (qt_rd (rd_load Tryd.underlying3 rfl rfl (by exact ld_blk 0 rfl rfl))) ?_
    refine ga_first 6 (bm 9 127) rfl rfl rfl rfl (by kernel_rfl) (by kernel_rfl) ⟨[0, 1, 2, 3, 4, 5, 6, 7], by decide, rfl⟩ (qt_rd (by exact rd_indexRow 4 rfl Tryd.underlying84 ty_90 rfl rfl (by omega) (by omega))) ?_
    refine ga_first 7 (bm 9 255) rfl rfl rfl rfl (by kernel_rfl) (by kernel_rfl) ⟨[0, 1, 2, 3, 4, 5, 6, 7], by decide, rfl⟩ (qt_rd (rd_loadAgg Tryd.underlying90 rfl ty_90 rfl (cs_row 4 (a := some k27) rfl (flat_drop_get setC 2 (fun _ => rfl) hX)) rfl)) ?_
    simp only [setC]
    refine ga_only 8 (bm 9 511) rfl rfl (by kernel_rfl) (by kernel_rfl) (.inr ⟨[0, 1, 2, 3, 4, 5, 6, 7], by decide, rfl⟩) (op_call rfl (vf := []) (vc := []) rfl rfl Tryd.call39 (fun w1 ho => all_ok X w1) ?_)
    rintro _ _ ⟨bx, rfl, rfl⟩
    refine ga_end (by kernel_rfl) (.inr ⟨[1, 2, 3, 4, 5, 6, 7, 8], by decide, rfl⟩) ?_
    refine gx_then <| rc_block <| gk_env [(2, _), (5, _), (6, _), (8, _), (9, _), (23, _), (24, _), (25, _), (26, _), (27, _), (28, _), (29, _), (30, _), (31, _), (32, _), (33, _), (34, _), (35, _), (36, _), (37, _), (38, _), (39, _), (40, _), (41, _), (42, _)] ⟨rfl, rfl, rfl, rfl, rfl, rfl, rfl, rfl, rfl, rfl, rfl, rfl, rfl, rfl, rfl, rfl, rfl, rfl, rfl, rfl, rfl, rfl, rfl, rfl, rfl, trivial⟩ ?_
    refine rc_rangeF (β := Unit) (N := (bitsOf X).length) (xs := fun i => natV ((bitsOf X).getD i 0)) (gf := 73) (caps := [.pointer (some ⟨bx, 0, none⟩)]) (fun i _ => [(10, natV ((bitsOf X).getD i 0))]) (fun i _ => []) rfl Tryd.call73 rfl (fun i L => L = [HL.blk bx (setC X) 90, .blk b9 [.string x.name, .int .i64 x.div, .int .i64 x.num, .int .i64 x.den, .slice x.pa x.ps.length x.pc] 57, .row 119 128 (some b21) s.rs.length s.rs.length (cntC s.rs.length (cntW (cntP s h k) x (bitsOf X) i 0)), .blk b6 [.slice (rowA (some b21)) s.rs.length s.rs.length] 117, .blk b30 [.slice (rowA (some k27)) s.ds.length c27, .map (some m28)] 87, .row 90 2 (some k27) s.ds.length c27 ((actP (cxN s h)).sets.flatMap setC), .obj m28 (actO (actP (cxN s h)).tb), .blk b3 h.val.cells.toList 31, .blk b2 s.val.cells.toList 27] ++ Ds.map markH) (fun _ _ _ => False) (fun L => HL.blk bx (setC X) 90 ∈ L) (fun i L hd h => by
      rcases h with rfl | ⟨c, h⟩
      · exact List.mem_append_right _ (List.mem_append_left _ List.mem_cons_self)
      · exact h.elim) ((by rw [cntW_zero]; rfl)) (fun lb J Jx hG w1 L hY hJ hO => allIt_ok X hXl bx lb J Jx hG w1 L hY hJ hO.self (hT.at hO (by decide)) (old_out hO hT.lt (by decide))) ?_ ?_ ?_ ?_
    · intro i lb w1 S1 L1 K1 Q1 hk1
      refine rc_region <| rl_op (by nofun) (op_rd rfl (rd_assign rfl) ?_)
      refine rl_nil <| gx_then ?_
      exact gk_env _ (by exact ⟨rfl, rfl, rfl, rfl, rfl, rfl, rfl, rfl, rfl, rfl, rfl, rfl, rfl, rfl, rfl, rfl, rfl, rfl, rfl, rfl, rfl, rfl, rfl, rfl, rfl, rfl, trivial⟩) (hk1 ())
    · intro i hi L hI lb D rec w1 S1 _ rec9 hO9 hS9
      subst hI
      have hS1 := hS.atS (Sc := S1) hO9 (by rw [hS9]; exact own_new hO9)
      obtain ⟨n, hn⟩ := get_some hi
      have hnn : (bitsOf X).getD i 0 = n := getD_some hn
      have hn8 := (bitsOf_mem.1 (List.mem_of_getElem? hn)).1
      rw [hnn]
      refine rc_block <| rc_scope <| rc_seq <| rc_label <| gx_then <| rc_seq <| rc_region <| rl_op (by nofun) (op_rd rfl (rd_fieldAddr rfl (fa_57_3 _)) ?_)
      refine rl_op (by nofun) (op_rd rfl (rd_load Tryd.underlying55 rfl rfl (by exact ld_blk 3 rfl rfl)) ?_)
      refine rl_op (by nofun) (op_rd rfl (rd_lenSlice Tryd.underlying55 rfl) ?_)
      refine rl_op (by nofun) (op_rd rfl (rd_move rfl) ?_)
      refine rl_nil <| gx_then <| rc_block <| rc_loopF (ι := Nat) [(6, _), (9, _), (10, _), (45, _), (46, _)] (_ :: _ :: _ :: _ :: _ :: _ :: _ :: _ :: _ :: _ :: (Ds.map markH)) (fun j => j ≤ x.ps.length) (fun j Fr0 => ((47, natV j) :: Fr0)) (fun j Fr0 => (.row 119 128 (some b21) s.rs.length s.rs.length (cntC s.rs.length (cntW (cntP s h k) x (bitsOf X) i j)) :: Fr0)) (fun j => x.ps.length - j) 0 (Nat.zero_le _) ⟨rfl, rfl, rfl, rfl, rfl, rfl, trivial⟩ (sub_tail (A := [_, _, _, _, _, _, _, _, _, _, _]) (B := [_, _, _, _, _, _, _, _, _, _, _]) (T := (Ds.map markH)) [4, 0, 1, 2, 3, 5, 6, 7, 8, 9, 10] 11 (by decide) (by decide) rfl rfl) ?_
      rintro j hj
      refine rc_seq <| rc_region <| rl_op (by nofun) (op_rd rfl (rd_lss rfl rfl) (gk_dec (fun h48 => ?_) (fun h48 => ?_)))
      · obtain ⟨p, hp⟩ := get_some (show j < x.ps.length by omega)
        have hpm := List.mem_of_getElem? hp
        have hpt : ptA x.ps j = p := getD_some hp
        obtain ⟨hb0, hb1, hb2, hb3⟩ := hpb p hpm
        refine rl_nil <| gx_then <| rc_seq <| rc_cond_t rfl <| rc_skip <| gx_then <| rc_seq <| rc_block <| rc_seq <| rc_region <| rl_op (by nofun) (op_rd rfl (rd_move rfl) ?_)
        refine rl_op (by nofun) (op_rd rfl (rd_indexOld (hS1.p x hxm) Tryd.underlying55 ty_107 rfl rfl (by omega) (by omega)) ?_)
        refine rl_op (by nofun) (op_rd rfl (rd_loadAgg Tryd.underlying107 rfl ty_107 rfl (cs_sl (hS1.p x hxm) (flat_drop_get Pt.cells 4 (fun _ => rfl) hp)) rfl) ?_)
        refine rl_op (by nofun) (op_alloc ty_107 rfl rfl (fun b12 => ?_))
        refine rl_op (by nofun) (op_rd rfl (rd_assign rfl) ?_)
        refine rl_op (by nofun) (op_storeAgg 0 ty_107 rfl rfl rfl rfl rfl rfl (by rfl) ?_)
        refine rl_nil <| gx_then <| rc_seq <| rc_seq ?_
        simp only [Pt.cells]
        refine rc_region <| rl_op (by nofun) (op_rd rfl (rd_move rfl) ?_)
        refine rl_op (by nofun) (op_rd rfl (rd_fieldAddr rfl (fa_107_2 _)) ?_)
        refine rl_op (by nofun) (op_rd rfl (rd_load Tryd.underlying3 rfl rfl (by exact ld_blk 0 rfl rfl)) ?_)
        refine rl_op (by nofun) (op_rd rfl (rd_lss rfl rfl) (gk_dec (fun h55 => ?_) (fun h55 => ?_)))
        · have hno : newP x.ps ((bitsOf X).getD i 0) j = false := by
            have h9 : hitB p n = false := by unfold hitB; simp only [Bool.and_eq_false_iff, decide_eq_false_iff_not]; omega
            unfold newP; rw [hpt, hnn, h9]; rfl
          refine rl_op (by nofun) (op_rd rfl (rd_move rfl) ?_)
          refine rl_no rfl rfl rfl <| rl_no rfl rfl rfl <| rl_no rfl rfl rfl <| rl_no rfl rfl rfl <| rl_op (by nofun) (op_rd rfl (rd_pick_t rfl rfl) ?_)
          refine rl_nil <| gx_then <| rc_cond_t rfl <| rc_exit <| gx_then_exit <| gx_block_exit <| gx_then ?_
          rw [← cntW_no hno]
          refine rc_region <| rl_op (by nofun) (op_rd rfl (by exact rd_addN (b := 1) rfl rfl (by omega)) ?_)
          refine rl_op (by nofun) (op_rd rfl (rd_move rfl) ?_)
          refine rl_nil <| gx_then ?_
          exact gx_cut (j + 1) ⟨by omega, by omega⟩ ⟨rfl, rfl, rfl, rfl, rfl, rfl, trivial⟩ (sub_tail (A := [_, _, _, _, _, _, _, _, _, _, _]) (B := [_, _, _, _, _, _, _, _, _, _, _, _]) (T := (Ds.map markH)) [1, 2, 3, 4, 5, 6, 7, 8, 9, 10, 11] 12 (by decide) (by decide) rfl rfl)
        refine rl_op (by nofun) (op_rd rfl (rd_move rfl) ?_)
        refine rl_yes (by nofun) rfl rfl (op_rd rfl (rd_move rfl) ?_)
        refine rl_yes (by nofun) rfl rfl (op_rd rfl (rd_fieldAddr rfl (fa_107_3 _)) ?_)
        refine rl_yes (by nofun) rfl rfl (op_rd rfl (rd_load Tryd.underlying3 rfl rfl (by exact ld_blk 0 rfl rfl)) ?_)
        refine rl_yes (by nofun) rfl rfl (op_rd rfl (rd_gtr rfl rfl) (gk_dec (fun h60 => ?_) (fun h60 => ?_)))
        · have hno : newP x.ps ((bitsOf X).getD i 0) j = false := by
            have h9 : hitB p n = false := by unfold hitB; simp only [Bool.and_eq_false_iff, decide_eq_false_iff_not]; omega
            unfold newP; rw [hpt, hnn, h9]; rfl
          refine rl_op (by nofun) (op_rd rfl (rd_pick_f rfl rfl) ?_)
          refine rl_nil <| gx_then <| rc_cond_t rfl <| rc_exit <| gx_then_exit <| gx_block_exit <| gx_then ?_
          rw [← cntW_no hno]
          refine rc_region <| rl_op (by nofun) (op_rd rfl (by exact rd_addN (b := 1) rfl rfl (by omega)) ?_)
          refine rl_op (by nofun) (op_rd rfl (rd_move rfl) ?_)
          refine rl_nil <| gx_then ?_
          exact gx_cut (j + 1) ⟨by omega, by omega⟩ ⟨rfl, rfl, rfl, rfl, rfl, rfl, trivial⟩ (sub_tail (A := [_, _, _, _, _, _, _, _, _, _, _]) (B := [_, _, _, _, _, _, _, _, _, _, _, _]) (T := (Ds.map markH)) [1, 2, 3, 4, 5, 6, 7, 8, 9, 10, 11] 12 (by decide) (by decide) rfl rfl)
        have hhit : hitB p n = true := by unfold hitB; simp only [Bool.and_eq_true, decide_eq_true_eq]; omega
        refine rl_op (by nofun) (op_rd rfl (rd_pick_f rfl rfl) ?_)
        refine rl_nil <| gx_then <| rc_cond_f rfl <| rc_skip <| gx_then <| rc_seq <| rc_seq <| rc_region <| rl_op (by nofun) (op_rd rfl (rd_fieldAddr rfl (fa_57_3 _)) ?_)
        refine rl_op (by nofun) (op_rd rfl (rd_load Tryd.underlying55 rfl rfl (by exact ld_blk 5 rfl rfl)) ?_)
        refine rl_op (by nofun) (op_rd rfl (rd_move rfl) ?_)
        refine rl_op (by nofun) (op_rd rfl (rd_sliceHi Tryd.underlying55 ty_107 rfl rfl (by omega) (by omega)) ?_)
        refine rl_op (by nofun) (op_rd rfl (rd_lenSlice Tryd.underlying55 rfl) ?_)
        refine rl_op (by nofun) (op_rd rfl (rd_move rfl) ?_)
        refine rl_nil <| gx_then <| rc_block <| rc_loopF (ι := Nat) [(6, _), (9, _), (10, _), (12, _), (45, _), (46, _), (47, _), (65, _), (66, _)] (_ :: _ :: _ :: _ :: _ :: _ :: _ :: _ :: _ :: _ :: _ :: _ :: (Ds.map markH)) (fun m2 => m2 ≤ j ∧ oldP x.ps n j m2 = false) (fun m2 Fr0 => ((67, natV m2) :: Fr0)) (fun m2 Fr0 => Fr0) (fun m2 => j - m2) 0 (⟨Nat.zero_le _, rfl⟩) ⟨rfl, rfl, rfl, rfl, rfl, rfl, rfl, rfl, rfl, rfl, trivial⟩ (sub_tail (A := [_, _, _, _, _, _, _, _, _, _, _, _]) (B := [_, _, _, _, _, _, _, _, _, _, _, _]) (T := (Ds.map markH)) [0, 1, 2, 3, 4, 5, 6, 7, 8, 9, 10, 11] 12 (by decide) (by decide) rfl rfl) ?_
        rintro m2 ⟨hm2, hold⟩
        refine rc_seq <| rc_region <| rl_op (by nofun) (op_rd rfl (rd_lss rfl rfl) (gk_dec (fun h68 => ?_) (fun h68 => ?_)))
        · obtain ⟨p2, hp2⟩ := get_some (show m2 < x.ps.length by omega)
          have hpt2 : ptA x.ps m2 = p2 := getD_some hp2
          refine rl_nil <| gx_then <| rc_seq <| rc_cond_t rfl <| rc_skip <| gx_then <| rc_seq <| rc_block <| rc_seq <| rc_region <| rl_op (by nofun) (op_rd rfl (rd_indexOld ((hS1.p x hxm).take j (by omega)) Tryd.underlying55 ty_107 rfl rfl (by omega) (by omega)) ?_)
          refine rl_op (by nofun) (op_rd rfl (rd_loadAgg Tryd.underlying107 rfl ty_107 rfl (cs_sl (hS1.p x hxm) (flat_drop_get Pt.cells 4 (fun _ => rfl) hp2)) rfl) ?_)
          refine rl_op (by nofun) (op_alloc ty_107 rfl rfl (fun b14 => ?_))
          refine rl_op (by nofun) (op_storeAgg 0 ty_107 rfl rfl rfl rfl rfl rfl (by rfl) ?_)
          refine rl_nil <| gx_then <| rc_seq ?_
          simp only [Pt.cells]
          refine rc_region <| rl_op (by nofun) (op_rd rfl (rd_fieldAddr rfl (fa_107_0 _)) ?_)
          refine rl_op (by nofun) (op_rd rfl (rd_load Tryd.underlying3 rfl rfl (by exact ld_blk 0 rfl rfl)) ?_)
          refine rl_op (by nofun) (op_rd rfl (rd_fieldAddr rfl (fa_107_0 _)) ?_)
          refine rl_op (by nofun) (op_rd rfl (rd_load Tryd.underlying3 rfl rfl (by exact ld_blk 1 rfl rfl)) ?_)
          refine rl_op (by nofun) (op_rd rfl (rd_eql rfl rfl) (gk_dec (fun h75 => ?_) (fun h75 => ?_)))
          · refine rl_op (by nofun) (op_rd rfl (rd_move rfl) ?_)
            refine rl_yes (by nofun) rfl rfl (op_rd rfl (rd_fieldAddr rfl (fa_107_1 _)) ?_)
            refine rl_yes (by nofun) rfl rfl (op_rd rfl (rd_load Tryd.underlying3 rfl rfl (by exact ld_blk 0 rfl rfl)) ?_)
            refine rl_yes (by nofun) rfl rfl (op_rd rfl (rd_fieldAddr rfl (fa_107_1 _)) ?_)
            refine rl_yes (by nofun) rfl rfl (op_rd rfl (rd_load Tryd.underlying3 rfl rfl (by exact ld_blk 1 rfl rfl)) ?_)
            refine rl_yes (by nofun) rfl rfl (op_rd rfl (rd_eql rfl rfl) (gk_dec (fun h81 => ?_) (fun h81 => ?_)))
            · refine rl_op (by nofun) (op_rd rfl (rd_pick_t rfl rfl) ?_)
              refine rl_op (by nofun) (op_rd rfl (rd_move rfl) ?_)
              refine rl_yes (by nofun) rfl rfl (op_rd rfl (rd_move rfl) ?_)
              refine rl_yes (by nofun) rfl rfl (op_rd rfl (rd_fieldAddr rfl (fa_107_2 _)) ?_)
              refine rl_yes (by nofun) rfl rfl (op_rd rfl (rd_load Tryd.underlying3 rfl rfl (by exact ld_blk 0 rfl rfl)) ?_)
              refine rl_yes (by nofun) rfl rfl (op_rd rfl (rd_geq rfl rfl) (gk_dec (fun h87 => ?_) (fun h87 => ?_)))
              · refine rl_op (by nofun) (op_rd rfl (rd_pick_t rfl rfl) ?_)
                refine rl_op (by nofun) (op_rd rfl (rd_move rfl) ?_)
                refine rl_yes (by nofun) rfl rfl (op_rd rfl (rd_move rfl) ?_)
                refine rl_yes (by nofun) rfl rfl (op_rd rfl (rd_fieldAddr rfl (fa_107_3 _)) ?_)
                refine rl_yes (by nofun) rfl rfl (op_rd rfl (rd_load Tryd.underlying3 rfl rfl (by exact ld_blk 0 rfl rfl)) ?_)
                refine rl_yes (by nofun) rfl rfl (op_rd rfl (rd_leq rfl rfl) (gk_dec (fun h93 => ?_) (fun h93 => ?_)))
                · have hno : newP x.ps ((bitsOf X).getD i 0) j = false := by
                    have h9 : (sameB p2 p && hitB p2 n) = true := by unfold sameB hitB; simp only [Bool.and_eq_true, decide_eq_true_eq]; omega
                    have h10 : oldP x.ps ((bitsOf X).getD i 0) j (m2 + 1) = true := by rw [oldP_succ, hnn, hpt2, hpt, h9, Bool.or_true]
                    unfold newP; rw [oldP_mono h10 (by omega)]; simp
                  refine rl_op (by nofun) (op_rd rfl (rd_pick_t rfl rfl) ?_)
                  refine rl_nil <| gx_then <| rc_cond_t rfl <| rc_exit <| gx_block_pass rfl <| gx_then_exit <| gx_then_exit <| gx_block_pass rfl <| gx_then_exit <| gx_block_exit <| gx_then ?_
                  rw [← cntW_no hno]
                  refine rc_region <| rl_op (by nofun) (op_rd rfl (by exact rd_addN (b := 1) rfl rfl (by omega)) ?_)
                  refine rl_op (by nofun) (op_rd rfl (rd_move rfl) ?_)
                  refine rl_nil <| gx_then ?_
                  exact gx_cut (j + 1) ⟨by omega, by omega⟩ ⟨rfl, rfl, rfl, rfl, rfl, rfl, trivial⟩ (sub_tail (A := [_, _, _, _, _, _, _, _, _, _, _]) (B := [_, _, _, _, _, _, _, _, _, _, _, _, _]) (T := (Ds.map markH)) [2, 3, 4, 5, 6, 7, 8, 9, 10, 11, 12] 13 (by decide) (by decide) rfl rfl)
                have hnh : (sameB (ptA x.ps m2) (ptA x.ps j) && hitB (ptA x.ps m2) n) = false := by
                  rw [hpt2, hpt]; unfold sameB hitB; simp only [Bool.and_eq_false_iff, decide_eq_false_iff_not]; omega
                refine rl_op (by nofun) (op_rd rfl (rd_pick_t rfl rfl) ?_)
                refine rl_nil <| gx_then <| rc_cond_f rfl <| rc_skip <| gx_block <| gx_then <| rc_region <| rl_op (by nofun) (op_rd rfl (by exact rd_addN (b := 1) rfl rfl (by omega)) ?_)
                refine rl_op (by nofun) (op_rd rfl (rd_move rfl) ?_)
                refine rl_nil <| gx_then ?_
                exact gx_cut (m2 + 1) ⟨⟨by omega, by rw [oldP_succ, hold, Bool.false_or]; exact hnh⟩, by omega⟩ ⟨rfl, rfl, rfl, rfl, rfl, rfl, rfl, rfl, rfl, rfl, trivial⟩ (sub_tail (A := [_, _, _, _, _, _, _, _, _, _, _, _]) (B := [_, _, _, _, _, _, _, _, _, _, _, _, _]) (T := (Ds.map markH)) [1, 2, 3, 4, 5, 6, 7, 8, 9, 10, 11, 12] 13 (by decide) (by decide) rfl rfl)
              have hnh : (sameB (ptA x.ps m2) (ptA x.ps j) && hitB (ptA x.ps m2) n) = false := by
                rw [hpt2, hpt]; unfold sameB hitB; simp only [Bool.and_eq_false_iff, decide_eq_false_iff_not]; omega
              refine rl_op (by nofun) (op_rd rfl (rd_pick_t rfl rfl) ?_)
              refine rl_op (by nofun) (op_rd rfl (rd_move rfl) ?_)
              refine rl_no rfl rfl rfl <| rl_no rfl rfl rfl <| rl_no rfl rfl rfl <| rl_no rfl rfl rfl <| rl_op (by nofun) (op_rd rfl (rd_pick_f rfl rfl) ?_)
              refine rl_nil <| gx_then <| rc_cond_f rfl <| rc_skip <| gx_block <| gx_then <| rc_region <| rl_op (by nofun) (op_rd rfl (by exact rd_addN (b := 1) rfl rfl (by omega)) ?_)
              refine rl_op (by nofun) (op_rd rfl (rd_move rfl) ?_)
              refine rl_nil <| gx_then ?_
              exact gx_cut (m2 + 1) ⟨⟨by omega, by rw [oldP_succ, hold, Bool.false_or]; exact hnh⟩, by omega⟩ ⟨rfl, rfl, rfl, rfl, rfl, rfl, rfl, rfl, rfl, rfl, trivial⟩ (sub_tail (A := [_, _, _, _, _, _, _, _, _, _, _, _]) (B := [_, _, _, _, _, _, _, _, _, _, _, _, _]) (T := (Ds.map markH)) [1, 2, 3, 4, 5, 6, 7, 8, 9, 10, 11, 12] 13 (by decide) (by decide) rfl rfl)
            have hnh : (sameB (ptA x.ps m2) (ptA x.ps j) && hitB (ptA x.ps m2) n) = false := by
              rw [hpt2, hpt]; unfold sameB hitB; simp only [Bool.and_eq_false_iff, decide_eq_false_iff_not]; omega
            refine rl_op (by nofun) (op_rd rfl (rd_pick_t rfl rfl) ?_)
            refine rl_op (by nofun) (op_rd rfl (rd_move rfl) ?_)
            refine rl_no rfl rfl rfl <| rl_no rfl rfl rfl <| rl_no rfl rfl rfl <| rl_no rfl rfl rfl <| rl_op (by nofun) (op_rd rfl (rd_pick_f rfl rfl) ?_)
            refine rl_op (by nofun) (op_rd rfl (rd_move rfl) ?_)
            refine rl_no rfl rfl rfl <| rl_no rfl rfl rfl <| rl_no rfl rfl rfl <| rl_no rfl rfl rfl <| rl_op (by nofun) (op_rd rfl (rd_pick_f rfl rfl) ?_)
            refine rl_nil <| gx_then <| rc_cond_f rfl <| rc_skip <| gx_block <| gx_then <| rc_region <| rl_op (by nofun) (op_rd rfl (by exact rd_addN (b := 1) rfl rfl (by omega)) ?_)
            refine rl_op (by nofun) (op_rd rfl (rd_move rfl) ?_)
            refine rl_nil <| gx_then ?_
            exact gx_cut (m2 + 1) ⟨⟨by omega, by rw [oldP_succ, hold, Bool.false_or]; exact hnh⟩, by omega⟩ ⟨rfl, rfl, rfl, rfl, rfl, rfl, rfl, rfl, rfl, rfl, trivial⟩ (sub_tail (A := [_, _, _, _, _, _, _, _, _, _, _, _]) (B := [_, _, _, _, _, _, _, _, _, _, _, _, _]) (T := (Ds.map markH)) [1, 2, 3, 4, 5, 6, 7, 8, 9, 10, 11, 12] 13 (by decide) (by decide) rfl rfl)
          have hnh : (sameB (ptA x.ps m2) (ptA x.ps j) && hitB (ptA x.ps m2) n) = false := by
            rw [hpt2, hpt]; unfold sameB hitB; simp only [Bool.and_eq_false_iff, decide_eq_false_iff_not]; omega
          refine rl_op (by nofun) (op_rd rfl (rd_move rfl) ?_)
          refine rl_no rfl rfl rfl <| rl_no rfl rfl rfl <| rl_no rfl rfl rfl <| rl_no rfl rfl rfl <| rl_no rfl rfl rfl <| rl_op (by nofun) (op_rd rfl (rd_pick_f rfl rfl) ?_)
          refine rl_op (by nofun) (op_rd rfl (rd_move rfl) ?_)
          refine rl_no rfl rfl rfl <| rl_no rfl rfl rfl <| rl_no rfl rfl rfl <| rl_no rfl rfl rfl <| rl_op (by nofun) (op_rd rfl (rd_pick_f rfl rfl) ?_)
          refine rl_op (by nofun) (op_rd rfl (rd_move rfl) ?_)
          refine rl_no rfl rfl rfl <| rl_no rfl rfl rfl <| rl_no rfl rfl rfl <| rl_no rfl rfl rfl <| rl_op (by nofun) (op_rd rfl (rd_pick_f rfl rfl) ?_)
          refine rl_nil <| gx_then <| rc_cond_f rfl <| rc_skip <| gx_block <| gx_then <| rc_region <| rl_op (by nofun) (op_rd rfl (by exact rd_addN (b := 1) rfl rfl (by omega)) ?_)
          refine rl_op (by nofun) (op_rd rfl (rd_move rfl) ?_)
          refine rl_nil <| gx_then ?_
          exact gx_cut (m2 + 1) ⟨⟨by omega, by rw [oldP_succ, hold, Bool.false_or]; exact hnh⟩, by omega⟩ ⟨rfl, rfl, rfl, rfl, rfl, rfl, rfl, rfl, rfl, rfl, trivial⟩ (sub_tail (A := [_, _, _, _, _, _, _, _, _, _, _, _]) (B := [_, _, _, _, _, _, _, _, _, _, _, _, _]) (T := (Ds.map markH)) [1, 2, 3, 4, 5, 6, 7, 8, 9, 10, 11, 12] 13 (by decide) (by decide) rfl rfl)
        have hm9 : m2 = j := by omega
        rw [hm9] at hold
        have hnew : newP x.ps ((bitsOf X).getD i 0) j = true := by unfold newP; rw [hpt, hnn, hhit, hold]; rfl
        obtain ⟨hr0, hr1⟩ := hpo.rank p hpm
        obtain ⟨hq0, hq1⟩ := hpo.note p hpm n hhit
        obtain ⟨kn, hkn⟩ : ∃ kn : Nat, (n : Int) + p.shift = kn := ⟨((n : Int) + p.shift).toNat, by omega⟩
        have hpip : pipeOf (ptA x.ps j) ((bitsOf X).getD i 0) = (p.rank.toNat, kn) := by rw [hpt, hnn]; unfold pipeOf; rw [hkn]; rfl
        have hwl : cntW (cntP s h k) x (bitsOf X) i j (p.rank.toNat, kn) ≤ 1000000 := by
          have h1 := cntW_le (b := cntP s h k) (ks := bitsOf X) (i := i) (j := j) (q := (p.rank.toNat, kn)) hpo hj
          have h2 := cntP_le s h k (p.rank.toNat, kn)
          omega
        refine rl_nil <| gx_then <| rc_seq <| rc_cond_f rfl <| rc_exit <| gx_then_exit <| gx_then_exit <| gx_block_exit <| gx_then <| rc_drawP [0, 2, 3, 4, 5, 6, 7, 8, 9, 10, 11] false 13 rfl rfl <| ga_first 0 (bm 14 1) rfl rfl rfl rfl (by kernel_rfl) (by kernel_rfl) ⟨[0, 2, 3, 4, 5, 6, 7, 8, 9, 10, 11], by decide, rfl⟩ (qt_rd (rd_load Tryd.underlying117 rfl rfl (by exact ld_blk 5 rfl rfl))) ?_
        refine ga_first 1 (bm 14 3) rfl rfl rfl rfl (by kernel_rfl) (by kernel_rfl) ⟨[0, 2, 3, 4, 5, 6, 7, 8, 9, 10, 11], by decide, rfl⟩ (qt_rd (rd_fieldAddr rfl (fa_107_0 _))) ?_
        refine ga_first 2 (bm 14 7) rfl rfl rfl rfl (by kernel_rfl) (by kernel_rfl) ⟨[0, 2, 3, 4, 5, 6, 7, 8, 9, 10, 11], by decide, rfl⟩ (qt_rd (rd_load Tryd.underlying3 rfl rfl (by exact ld_blk 0 rfl rfl))) ?_
        refine ga_first 3 (bm 14 15) rfl rfl rfl rfl (by kernel_rfl) (by kernel_rfl) ⟨[0, 2, 3, 4, 5, 6, 7, 8, 9, 10, 11], by decide, rfl⟩ (qt_rd (rd_move rfl)) ?_
        refine ga_first 4 (bm 14 31) rfl rfl rfl rfl (by kernel_rfl) (by kernel_rfl) ⟨[0, 2, 3, 4, 5, 6, 7, 8, 9, 10, 11], by decide, rfl⟩ (qt_rd (rd_fieldAddr rfl (fa_107_1 _))) ?_
        refine ga_first 5 (bm 14 63) rfl rfl rfl rfl (by kernel_rfl) (by kernel_rfl) ⟨[0, 2, 3, 4, 5, 6, 7, 8, 9, 10, 11], by decide, rfl⟩ (qt_rd (rd_load Tryd.underlying3 rfl rfl (by exact ld_blk 0 rfl rfl))) ?_
        refine ga_first 6 (bm 14 127) rfl rfl rfl rfl (by kernel_rfl) (by kernel_rfl) ⟨[0, 2, 3, 4, 5, 6, 7, 8, 9, 10, 11], by decide, rfl⟩ (qt_rd (rd_addE (kn : Int) rfl rfl hkn (by omega) (by omega))) ?_
        refine ga_first 7 (bm 14 255) rfl rfl rfl rfl (by kernel_rfl) (by kernel_rfl) ⟨[0, 2, 3, 4, 5, 6, 7, 8, 9, 10, 11], by decide, rfl⟩ (qt_rd (rd_indexS Tryd.underlying117 ty_119 rfl rfl (by omega) (by omega))) ?_
        refine ga_first 8 (bm 14 511) rfl rfl rfl rfl (by kernel_rfl) (by kernel_rfl) ⟨[0, 2, 3, 4, 5, 6, 7, 8, 9, 10, 11], by decide, rfl⟩ (qt_rd (rd_indexArrN Tryd.underlying119 ty_3 rfl rfl (by omega))) ?_
        refine ga_two 9 11 (bm 14 1023) (bm 14 2559) rfl rfl rfl rfl (by kernel_rfl) (by kernel_rfl) (by kernel_rfl) (.inr ⟨[0, 2, 3, 4, 5, 6, 7, 8, 9, 10, 11], by decide, rfl⟩) ?_ ?_
        · refine (op_rd rfl (rd_load Tryd.underlying3 rfl rfl (ld_row 1 rfl (cntC_get _ (by omega) (by omega)))) ?_)
          refine ga_first 10 (bm 14 2047) rfl rfl rfl rfl (by kernel_rfl) (by kernel_rfl) ⟨[0, 2, 3, 4, 5, 6, 7, 8, 9, 10, 11], by decide, rfl⟩ (qt_rd (by exact rd_addN (b := 1) rfl rfl (by omega))) ?_
          refine ga_only 11 (bm 14 4095) rfl rfl (by kernel_rfl) (by kernel_rfl) (.inr ⟨[0, 2, 3, 4, 5, 6, 7, 8, 9, 10, 11], by decide, rfl⟩) (op_rd rfl (rd_indexS Tryd.underlying117 ty_119 rfl rfl (by omega) (by omega)) ?_)
          refine ga_first 12 (bm 14 8191) rfl rfl rfl rfl (by kernel_rfl) (by kernel_rfl) ⟨[0, 2, 3, 4, 5, 6, 7, 8, 9, 10, 11], by decide, rfl⟩ (qt_rd (rd_indexArrN Tryd.underlying119 ty_3 rfl rfl (by omega))) ?_
          refine ga_only 13 (bm 14 16383) rfl rfl (by kernel_rfl) (by kernel_rfl) (.inr ⟨[0, 2, 3, 4, 5, 6, 7, 8, 9, 10, 11], by decide, rfl⟩) (op_storeRowE 1 ty_3 rfl rfl rfl rfl (by rw [cntC_len]; omega) (cntC_set _ (cntW (cntP s h k) x (bitsOf X) i (j + 1)) (by omega) (by omega) (by have h9 := cntW_yes (b := cntP s h k) hnew (p.rank.toNat, kn); rw [hpip, if_pos rfl] at h9; rw [h9]) (fun q hq => by have h9 := cntW_yes (b := cntP s h k) hnew q; rw [hpip, if_neg (fun e => hq e.symm)] at h9; omega)) (by rfl) ?_)
          refine ga_end (by kernel_rfl) (.inl (by kernel_rfl)) ?_
          refine gx_block <| gx_then <| rc_region <| rl_op (by nofun) (op_rd rfl (by exact rd_addN (b := 1) rfl rfl (by omega)) ?_)
          refine rl_op (by nofun) (op_rd rfl (rd_move rfl) ?_)
          refine rl_nil <| gx_then ?_
          exact gx_cut (j + 1) ⟨by omega, by omega⟩ ⟨rfl, rfl, rfl, rfl, rfl, rfl, trivial⟩ (sub_tail (A := [_, _, _, _, _, _, _, _, _, _, _]) (B := [_, _, _, _, _, _, _, _, _, _, _, _]) (T := (Ds.map markH)) [1, 2, 3, 4, 5, 6, 7, 8, 9, 10, 11] 12 (by decide) (by decide) rfl rfl)
        refine (op_rd rfl (rd_indexS Tryd.underlying117 ty_119 rfl rfl (by omega) (by omega)) ?_)
        refine ga_only 9 (bm 14 3071) rfl rfl (by kernel_rfl) (by kernel_rfl) (.inr ⟨[0, 2, 3, 4, 5, 6, 7, 8, 9, 10, 11], by decide, rfl⟩) (op_rd rfl (rd_load Tryd.underlying3 rfl rfl (ld_row 1 rfl (cntC_get _ (by omega) (by omega)))) ?_)
        refine ga_first 10 (bm 14 4095) rfl rfl rfl rfl (by kernel_rfl) (by kernel_rfl) ⟨[0, 2, 3, 4, 5, 6, 7, 8, 9, 10, 11], by decide, rfl⟩ (qt_rd (by exact rd_addN (b := 1) rfl rfl (by omega))) ?_
        refine ga_first 12 (bm 14 8191) rfl rfl rfl rfl (by kernel_rfl) (by kernel_rfl) ⟨[0, 2, 3, 4, 5, 6, 7, 8, 9, 10, 11], by decide, rfl⟩ (qt_rd (rd_indexArrN Tryd.underlying119 ty_3 rfl rfl (by omega))) ?_
        refine ga_only 13 (bm 14 16383) rfl rfl (by kernel_rfl) (by kernel_rfl) (.inr ⟨[0, 2, 3, 4, 5, 6, 7, 8, 9, 10, 11], by decide, rfl⟩) (op_storeRowE 1 ty_3 rfl rfl rfl rfl (by rw [cntC_len]; omega) (cntC_set _ (cntW (cntP s h k) x (bitsOf X) i (j + 1)) (by omega) (by omega) (by have h9 := cntW_yes (b := cntP s h k) hnew (p.rank.toNat, kn); rw [hpip, if_pos rfl] at h9; rw [h9]) (fun q hq => by have h9 := cntW_yes (b := cntP s h k) hnew q; rw [hpip, if_neg (fun e => hq e.symm)] at h9; omega)) (by rfl) ?_)
        refine ga_end (by kernel_rfl) (.inl (by kernel_rfl)) ?_
        refine gx_block <| gx_then <| rc_region <| rl_op (by nofun) (op_rd rfl (by exact rd_addN (b := 1) rfl rfl (by omega)) ?_)
        refine rl_op (by nofun) (op_rd rfl (rd_move rfl) ?_)
        refine rl_nil <| gx_then ?_
        exact gx_cut (j + 1) ⟨by omega, by omega⟩ ⟨rfl, rfl, rfl, rfl, rfl, rfl, trivial⟩ (sub_tail (A := [_, _, _, _, _, _, _, _, _, _, _]) (B := [_, _, _, _, _, _, _, _, _, _, _, _]) (T := (Ds.map markH)) [1, 2, 3, 4, 5, 6, 7, 8, 9, 10, 11] 12 (by decide) (by decide) rfl rfl)
      have hj9 : j = x.ps.length := by omega
      rw [hj9, cntW_next hpo hi]
      refine rl_nil <| gx_then <| rc_seq <| rc_cond_f rfl <| rc_exit <| gx_then_exit <| gx_then_exit <| gx_block_exit <| gx_scope <| gx_block ?_
      exact rp_normal _ (rfl) (sub_tail (A := [_, _, _, _, _, _, _, _, _, _, _]) (B := [_, _, _, _, _, _, _, _, _, _, _]) (T := (Ds.map markH)) [1, 2, 3, 4, 0, 5, 6, 7, 8, 9, 10] 11 (by decide) (by decide) rfl rfl)
    · intro D L hI
      subst hI
      rw [cntW_all, hnx]
      refine gk_front [_, _, _, _, _, _, _, _, _, _] [_, _, _, _, _, _, _, _, _] (Ds.map markH) [1, 2, 3, 4, 5, 6, 7, 8, 9] 0 10 rfl (x := markH D) rfl rfl (by decide) (by decide) ?_
      refine gx_block <| gx_block <| gx_then <| rc_region <| rl_op (by nofun) (op_rd rfl (by exact rd_addN (b := 1) rfl rfl (by omega)) ?_)
      refine rl_op (by nofun) (op_rd rfl (rd_move rfl) ?_)
      refine rl_nil <| gx_then ?_
      exact gx_cutM ((k + 1, D :: Ds)) ⟨by simp only; omega, by simp only; omega⟩ rfl ⟨rfl, rfl, rfl, rfl, rfl, rfl, trivial⟩ (sub_tail (A := [_, _, _, _, _, _, _]) (B := [_, _, _, _, _, _, _, _, _]) (T := ((D :: Ds).map markH)) [2, 3, 4, 5, 6, 7, 8] 9 (by decide) (by decide) rfl rfl)
    · intro D c i L hi hI
      exact hI.elim
  refine rl_nil <| gx_then <| rc_seq <| rc_cond_f rfl <| rc_exit <| gx_then_exit <| gx_then_exit <| gx_block_exit <| gx_then <| rc_seq <| rc_region <| rl_op (by nofun) (op_rd rfl (rd_load Tryd.underlying117 rfl rfl (by exact ld_blk 1 rfl rfl)) ?_)
  refine rl_op (by nofun) (op_rd rfl (rd_assign rfl) ?_)
  refine rl_nil <| gx_then <| rc_ret ?_
  have hk9 : k = h.ss.length := by omega
  subst hk9
  refine gk_sub (sub_tail (A := [_]) (B := [_, _, _, _, _, _, _]) (T := (Ds.map markH)) [0] 7 (by decide) (by decide) rfl rfl) ?_
  refine gk_sub (sub_rot [_] (Ds.map markH)) <| gx_retM1 Ds (.inl rfl) Tryd.results47 rfl (Sub.refl' _) ?_
  exact ⟨b21, rfl, rfl⟩
end Go.Proofs.YtbjijbbkfgcleaaDoor
namespace Go.Proofs.YtbjijbbkfgcleaaDoor
open Go.Gv
open Go.RowKit
open Go.Sn
open Sx
namespace Sx
theorem rowC_arr (f : Pl → Nat) (r : Nat) {k : Nat} (hk : k < 128) : (rowC f r).toArray[k]? = some (natV (f (r, k))) := by
  rw [List.getElem?_toArray]
  unfold rowC
  rw [List.getElem?_map, range_at hk]; rfl
end Sx
open Sx
set_option maxRecDepth 100000 in
set_option maxHeartbeats 1000000 in
theorem sounds_ok (s : Org) (h : HN) (hle : OrgLe s) (hg : HGood s h) (w0 : World) (hS : OrgIn s w0 []) (hH : HNIn h w0 []) (hT : TabIn w0) : Sp Tryd.prog 45 [s.val, h.val] w0 [] (fun v L => ∃ b13 sets, v = .slice (rowA (some b13)) s.rs.length s.rs.length ∧ L = [.row 90 2 (some b13) s.rs.length s.rs.length (sets.flatMap setC)] ∧ SetU s.rs.length (cntP s h h.ss.length) s.rs.length 0 sets) := by
  have hA := hg.cx
  have hnd : s.ds.length ≤ 6 := hA.nd
  have hkl : h.ks.length = s.ds.length := by have := hA.nk; simpa [cxN] using this
  have hnc := hg.nc
  have hcl : h.cs.length ≤ s.cs.length := asc_len hA.dra hA.drn
  have hnr := hg.nr
  refine spec_enter Tryd.func45 rfl Tryd.ntmps45 rfl (Own.refl _) ?_
  simp only [argEnv]
  refine gc_seq <| gc_region <| gl_op (op_box rfl rfl rfl (fun b2 => ?_))
  refine gl_op (op_box rfl rfl rfl (fun b3 => ?_))
  refine gl_op <| op_rd rfl (rd_assign rfl) <| gl_nil <| gx_then <| gc_seq <| gc_region <| gl_op <| op_rd rfl (rd_fieldAddr rfl (fa_27_1 _)) <| gl_op (op_rd rfl (rd_load Tryd.underlying23 rfl rfl (by exact ld_blk 1 rfl rfl)) ?_)
  refine gl_op <| op_rd rfl (rd_lenSlice Tryd.underlying23 rfl) <| gl_op (op_makeSlice (s.rs.length) Tryd.underlying84 ty_90 rfl rfl rfl (by omega) (by omega) (by omega) (by omega) (fun b13 => ?_))
  refine gl_op <| op_rd rfl (rd_assign rfl) <| gl_nil <| gx_then <| gc_seq <| gc_seq ?_
  rw [made_flat setC 2 _ 0 setC_zero (fun _ => rfl) (by decide)]
  refine gc_region <| gl_op (op_rd rfl (rd_loadAgg Tryd.underlying27 rfl ty_27 rfl (by exact cs_blk 2 (off := 0) (k := 4) rfl rfl) rfl) ?_)
  refine gl_op (op_rd rfl (rd_loadAgg Tryd.underlying31 rfl ty_31 rfl (by exact cs_blk 1 (off := 0) (k := 3) rfl rfl) rfl) ?_)
  refine gl_op (op_call rfl (vf := []) (vc := []) rfl rfl Tryd.call47 (fun w1 ho => count_ok s h hle hg w1 (hS.at ho) (hH.at ho) (hT.at ho (by decide))) ?_)
  rintro _ _ ⟨b16, rfl, rfl⟩
  refine gl_op <| op_rd rfl (rd_lenSlice Tryd.underlying117 rfl) <| gl_op <| op_rd rfl (rd_move rfl) <| gl_nil <| gx_then <| gc_block <| gc_loopF (ι := Nat × List Nat) [(5, _), (16, _), (17, _)] [_, _, _] (fun q => q.1 ≤ s.rs.length ∧ SetU s.rs.length (cntP s h h.ss.length) q.1 0 q.2) (fun q Fr0 => ((18, natV q.1) :: Fr0)) (fun q Fr0 => (.row 90 2 (some b13) s.rs.length s.rs.length (q.2.flatMap setC) :: Fr0)) (fun q => s.rs.length - q.1) (0, List.replicate s.rs.length 0) (⟨Nat.zero_le _, SetU.init _ _⟩) ⟨rfl, rfl, rfl, rfl, trivial⟩ ⟨[1, 0, 2, 3], by decide, rfl⟩ ?_
  rintro ⟨r, sets⟩ ⟨hr, hu⟩
  simp only at hr hu ⊢
  refine gc_seq <| gc_region <| gl_op (op_rd rfl (rd_lss rfl rfl) (gk_dec (fun h19 => ?_) (fun h19 => ?_)))
  · refine gl_nil <| gx_then <| gc_seq <| gc_cond_t rfl <| gc_skip <| gx_then <| gc_seq <| gc_block <| gc_seq <| gc_region <| gl_op <| op_rd rfl (rd_move rfl) <| gl_op (op_rd rfl (rd_indexS Tryd.underlying117 ty_119 rfl rfl (by omega) (by omega)) ?_)
    refine gl_op (op_rd rfl (rd_loadAgg Tryd.underlying119 rfl ty_119 rfl (cs_row 1 (a := some b16) rfl (cntC_row _ (by omega))) rfl) ?_)
    refine gl_op (op_alloc ty_119 rfl rfl (fun b7 => ?_))
    refine gl_op <| op_rd rfl (rd_assign rfl) <| gl_op (op_storeAgg 0 ty_119 rfl rfl rfl rfl rfl rfl (by rfl) ?_)
    refine gl_nil <| gx_then <| gc_seq <| gc_region <| gl_op (op_rd rfl (rd_loadAgg Tryd.underlying119 rfl ty_119 rfl (by exact cs_blk 0 (off := 0) (k := 128) rfl rfl) rfl) ?_)
    refine gl_op <| op_rd rfl (rd_move rfl) <| gl_nil <| gx_then <| gc_block <| gc_loopF (ι := Nat × List Nat) [(5, _), (6, _), (16, _), (17, _), (18, _), (23, _)] [_, _, _, _] (fun q => q.1 ≤ 128 ∧ SetU s.rs.length (cntP s h h.ss.length) r q.1 q.2) (fun q Fr0 => ((24, natV q.1) :: Fr0)) (fun q Fr0 => (.row 90 2 (some b13) s.rs.length s.rs.length (q.2.flatMap setC) :: Fr0)) (fun q => 128 - q.1) (0, sets) (⟨Nat.zero_le _, hu⟩) ⟨rfl, rfl, rfl, rfl, rfl, rfl, rfl, trivial⟩ ⟨[1, 0, 2, 3, 4], by decide, rfl⟩ ?_
    rintro ⟨k, sets2⟩ ⟨hk, hu2⟩
    simp only at hk hu2 ⊢
    refine gc_seq <| gc_region <| gl_op (op_rd rfl (rd_lss rfl rfl) (gk_dec (fun h25 => ?_) (fun h25 => ?_)))
    · refine gl_nil <| gx_then <| gc_seq <| gc_cond_t rfl <| gc_skip <| gx_then <| gc_seq <| gc_block <| gc_seq <| gc_region <| gl_op <| op_rd rfl (rd_move rfl) <| gl_op (op_rd rfl (rd_indexArrV Tryd.underlying119 Tryd.underlying3 ty_3 rfl rfl (by omega) (v := natV ((cntP s h h.ss.length) (r, k))) (rowC_arr _ _ (by omega))) ?_)
      refine gl_op <| op_rd rfl (rd_assign rfl) <| gl_op <| op_rd rfl (rd_assign rfl) <| gl_nil <| gx_then <| gc_seq <| gc_region <| gl_op <| op_rd rfl (rd_move rfl) <| gl_op (op_rd rfl (rd_gtr rfl rfl) (gk_dec (fun h29 => ?_) (fun h29 => ?_)))
      · refine gl_nil <| gx_then <| gc_cond_t rfl <| gc_region <| gl_op <| op_rd rfl (rd_move rfl) <| gl_op <| op_rd rfl (rd_move rfl) <| gl_op (op_rd rfl (by exact rd_indexRow 0 rfl Tryd.underlying84 ty_90 rfl rfl (by omega) (by omega)) ?_)
        refine gl_op <| op_rd rfl (rd_move rfl) <| gl_op (op_callM [0] [1, 2, 3, 4] rfl (vf := []) (vc := []) rfl rfl Tryd.call48 (by decide) rfl (fun w how hc => add_ok sets2 r k b13 s.rs.length s.rs.length hu2.len (by rw [hu2.len]; omega) (by omega) hu2.lt w hc) ?_)
        rintro _ _ ⟨rfl, rfl⟩
        refine gl_nil <| gx_block <| gx_then <| gc_region <| gl_op (op_rd rfl (by exact rd_addN (b := 1) rfl rfl (by omega)) ?_)
        refine gl_op <| op_rd rfl (rd_move rfl) <| gl_nil <| gx_then ?_
        exact gx_cut ((k + 1, addSet sets2 (r, k))) ⟨⟨by simp only; omega, hu2.yes (by omega) (by omega) (by omega)⟩, by simp only; omega⟩ ⟨rfl, rfl, rfl, rfl, rfl, rfl, rfl, trivial⟩ ⟨[0, 1, 2, 3, 4], by decide, rfl⟩
      refine gl_nil <| gx_then <| gc_cond_f rfl <| gc_skip <| gx_block <| gx_then <| gc_region <| gl_op (op_rd rfl (by exact rd_addN (b := 1) rfl rfl (by omega)) ?_)
      refine gl_op <| op_rd rfl (rd_move rfl) <| gl_nil <| gx_then ?_
      exact gx_cut ((k + 1, sets2)) ⟨⟨by simp only; omega, hu2.no (by omega)⟩, by simp only; omega⟩ ⟨rfl, rfl, rfl, rfl, rfl, rfl, rfl, trivial⟩ ⟨[0, 1, 2, 3, 4], by decide, rfl⟩
    have hk9 : k = 128 := by omega
    subst hk9
    refine gl_nil <| gx_then <| gc_seq <| gc_cond_f rfl <| gc_exit <| gx_then_exit <| gx_then_exit <| gx_block_exit <| gx_block <| gx_then <| gc_region <| gl_op (op_rd rfl (by exact rd_addN (b := 1) rfl rfl (by omega)) ?_)
    refine gl_op <| op_rd rfl (rd_move rfl) <| gl_nil <| gx_then ?_
    exact gx_cut ((r + 1, sets2)) ⟨⟨by simp only; omega, hu2.next⟩, by simp only; omega⟩ ⟨rfl, rfl, rfl, rfl, trivial⟩ ⟨[0, 2, 3, 4], by decide, rfl⟩
  refine gl_nil <| gx_then <| gc_seq <| gc_cond_f rfl <| gc_exit <| gx_then_exit <| gx_then_exit <| gx_block_exit <| gx_then <| gc_seq ?_
  have hr9 : r = s.rs.length := by omega
  rw [hr9] at hu
  refine gc_region <| gl_op <| op_rd rfl (rd_move rfl) <| gl_op <| op_rd rfl (rd_assign rfl) <| gl_nil <| gx_then <| gc_ret <| gx_ret1 (.inl rfl) Tryd.results45 rfl [0] (by decide) ?_
  exact ⟨b13, sets, rfl, rfl, hu⟩
set_option maxRecDepth 100000 in
set_option maxHeartbeats 1000000 in
theorem Pipes_ok (s : Org) (h : Hd) (hle : OrgLe s) (hhe : HdLe h) (w0 : World) (hS : OrgIn s w0 []) (hH : HdIn h w0 []) (hT : TabIn w0) : Sp Tryd.prog 21 [s.val, h.val] w0 [] (PipesR 42 s h) := by
  refine spec_enter Tryd.func21 rfl Tryd.ntmps21 rfl (Own.refl _) ?_
  simp only [argEnv]
  refine gc_seq <| gc_region <| gl_op (op_box rfl rfl rfl (fun b2 => ?_))
  refine gl_op (op_box rfl rfl rfl (fun b3 => ?_))
  refine gl_op <| op_rd rfl (rd_assign rfl) <| gl_op <| op_rd rfl (rd_assign rfl) <| gl_nil <| gx_then <| gc_seq <| gc_seq <| gc_region <| gl_op (op_rd rfl (rd_loadAgg Tryd.underlying27 rfl ty_27 rfl (by exact cs_blk 1 (off := 0) (k := 4) rfl rfl) rfl) ?_)
  refine gl_op (op_rd rfl (rd_loadAgg Tryd.underlying31 rfl ty_31 rfl (by exact cs_blk 0 (off := 0) (k := 3) rfl rfl) rfl) ?_)
  refine gl_op (op_call rfl (vf := []) (vc := []) rfl rfl Tryd.call14 (fun w1 ho => Check_ok s h hle hhe w1 (hS.at ho) (hH.at ho)) ?_)
  rintro _ _ ⟨rfl, rfl⟩
  refine gl_op <| op_rd rfl (rd_assign rfl) <| gl_nil <| gx_then <| gc_seq <| gc_region <| gl_op <| op_rd rfl (rd_move rfl) <| gl_op (op_rd rfl (rd_neq rfl rfl) (gk_dec (fun h11 => ?_) (fun h11 => ?_)))
  · refine gl_nil <| gx_then <| gc_cond_t rfl <| gc_seq <| gc_region <| gl_op <| op_rd rfl (rd_move rfl) <| gl_op <| op_rd rfl (rd_assign rfl) <| gl_op <| op_rd rfl (rd_assign rfl) <| gl_nil <| gx_then <| gc_ret <| gx_then_ret <| gx_ret2 (.inl rfl) Tryd.results21 rfl rfl [] (by decide) ?_
    exact .inl ⟨h11, rfl, rfl⟩
  obtain ⟨n, rfl, hg⟩ := good_of (s := s) hhe (by omega)
  have hH := HNIn.of hH
  simp only [HN.hd_val]
  have hA := hg.cx
  have hnd : s.ds.length ≤ 6 := hA.nd
  obtain ⟨e0, he0⟩ : ∃ e0, handErr s n.hd = e0 := ⟨_, rfl⟩
  refine gl_nil <| gx_then <| gc_cond_f rfl <| gc_skip <| gx_then <| gc_seq <| gc_region <| gl_op (op_rd rfl (rd_loadAgg Tryd.underlying27 rfl ty_27 rfl (by exact cs_blk 1 (off := 0) (k := 4) rfl rfl) rfl) ?_)
  refine gl_op (op_rd rfl (rd_loadAgg Tryd.underlying31 rfl ty_31 rfl (by exact cs_blk 0 (off := 0) (k := 3) rfl rfl) rfl) ?_)
  refine gl_op (op_call rfl (vf := []) (vc := []) rfl rfl Tryd.call45 (fun w1 ho => sounds_ok s n hle hg w1 (hS.at ho) (hH.at ho) (hT.at ho (by decide))) ?_)
  rintro _ _ ⟨b15, sets, rfl, rfl, hu⟩
  have hsl := hu.len
  have hnr := hg.nr
  rw [← hsl]
  refine gl_op (op_call rfl (vf := []) (vc := []) rfl rfl Tryd.call44 (fun w1 ho => piped_ok sets (rowA (some b15)) sets.length (by omega) hu.lt w1 (hT.at ho (by decide)) (ho.rowSl 0 rfl)) ?_)
  rintro _ _ ⟨r, c, rfl, rfl⟩
  have hpp : pipesU sets sets.length = soundP s n := by rw [hsl]; exact hu.pipes
  rw [hpp]
  refine gl_op <| op_rd rfl (rd_assign rfl) <| gl_op <| op_rd rfl (rd_assign rfl) <| gl_nil <| gx_then <| gc_ret <| gx_ret2 (.inl rfl) Tryd.results21 rfl rfl [0] (by decide) ?_
  exact .inr ⟨by omega, n, r, c, rfl, hg, rfl, rfl⟩
end Go.Proofs.YtbjijbbkfgcleaaDoor
namespace Go.Proofs.YtbjijbbkfgcleaaDoor
open Go.Gv
open Go.RowKit
open Go.Sn
open Sx
set_option maxRecDepth 100000 in
set_option maxHeartbeats 1000000 in
theorem Plays_ok (x : St) (n : Nat) (r0 p0 : Int) (hl : x.ps.length ≤ 1000) (hpb : ∀ p ∈ x.ps, 0 ≤ p.lo ∧ p.hi ≤ 127 ∧ -96 ≤ p.shift ∧ p.shift ≤ 96) (w0 : World) (hx : OldSl w0 [] x.pa x.ps.length 4 (x.ps.flatMap Pt.cells)) : Sp Tryd.prog 23 [x.val, natV n, .agg #[.int .i64 r0, .int .i64 p0]] w0 [] (RV (.bool (playsZ x n r0 p0))) := by
  refine spec_enter Tryd.func23 rfl Tryd.ntmps23 rfl (Own.refl _) ?_
  simp only [argEnv]
  refine gc_seq <| gc_region <| gl_op (op_box rfl rfl rfl (fun b3 => ?_))
  refine gl_op (op_box rfl rfl rfl (fun b5 => ?_))
  refine gl_op <| op_rd rfl (rd_assign rfl) <| gl_nil <| gx_then <| gc_seq <| gc_seq <| gc_region <| gl_op <| op_rd rfl (rd_assign rfl) <| gl_nil <| gx_then <| gc_block <| gc_loopF (ι := Nat) [(1, _), (3, _), (5, _)] [_, _] (fun k => k ≤ x.ps.length ∧ ∀ j, j < k → plZ (ptA x.ps j) n r0 p0 = false) (fun k Fr0 => ((7, natV k) :: Fr0)) (fun k Fr0 => Fr0) (fun k => x.ps.length - k) 0 (⟨Nat.zero_le _, fun j h => absurd h (Nat.not_lt_zero j)⟩) ⟨rfl, rfl, rfl, rfl, trivial⟩ ⟨[0, 1], by decide, rfl⟩ ?_
  rintro k ⟨hk, hall⟩
  refine gc_seq <| gc_seq <| gc_region <| gl_op <| op_rd rfl (rd_move rfl) <| gl_op <| op_rd rfl (rd_fieldAddr rfl (fa_57_3 _)) <| gl_op (op_rd rfl (rd_load Tryd.underlying55 rfl rfl (by exact ld_blk 1 rfl rfl)) ?_)
  refine gl_op <| op_rd rfl (rd_lenSlice Tryd.underlying55 rfl) <| gl_op (op_rd rfl (rd_lss rfl rfl) (gk_dec (fun h13 => ?_) (fun h13 => ?_)))
  · obtain ⟨p, hp⟩ := get_some (show k < x.ps.length by omega)
    have hpt : ptA x.ps k = p := getD_some hp
    obtain ⟨hb0, hb1, hb2, hb3⟩ := hpb p (List.mem_of_getElem? hp)
    refine gl_nil <| gx_then <| gc_cond_t rfl <| gc_skip <| gx_then <| gc_seq <| gc_block <| gc_seq <| gc_region <| gl_op <| op_rd rfl (rd_fieldAddr rfl (fa_57_3 _)) <| gl_op (op_rd rfl (rd_load Tryd.underlying55 rfl rfl (by exact ld_blk 1 rfl rfl)) ?_)
    refine gl_op <| op_rd rfl (rd_move rfl) <| gl_op (op_rd rfl (rd_indexOld hx Tryd.underlying55 ty_107 rfl rfl (by omega) (by omega)) ?_)
    refine gl_op (op_rd rfl (rd_loadAgg Tryd.underlying107 rfl ty_107 rfl (cs_slN hx (flat_drop_get Pt.cells 4 (fun _ => rfl) hp)) rfl) ?_)
    refine gl_op (op_alloc ty_107 rfl rfl (fun b8 => ?_))
    refine gl_op (op_storeAgg 0 ty_107 rfl rfl rfl rfl rfl rfl (by rfl) ?_)
    refine gl_nil <| gx_then <| gc_seq ?_
    simp only [Pt.cells]
    refine gc_region <| gl_op <| op_rd rfl (rd_fieldAddr rfl (fa_107_0 _)) <| gl_op (op_rd rfl (rd_load Tryd.underlying3 rfl rfl (by exact ld_blk 0 rfl rfl)) ?_)
    refine gl_op <| op_rd rfl (rd_fieldAddr rfl (fa_42_0 _)) <| gl_op (op_rd rfl (rd_load Tryd.underlying3 rfl rfl (by exact ld_blk 1 rfl rfl)) ?_)
    refine gl_op (op_rd rfl (rd_eql rfl rfl) (gk_dec (fun h25 => ?_) (fun h25 => ?_)))
    · refine gl_op <| op_rd rfl (rd_move rfl) <| gl_yes rfl rfl <| op_rd rfl (rd_move rfl) <| gl_yes rfl rfl <| op_rd rfl (rd_fieldAddr rfl (fa_107_2 _)) <| gl_yes rfl rfl (op_rd rfl (rd_load Tryd.underlying3 rfl rfl (by exact ld_blk 0 rfl rfl)) ?_)
      refine gl_yes rfl rfl (op_rd rfl (rd_geq rfl rfl) (gk_dec (fun h30 => ?_) (fun h30 => ?_)))
      · refine gl_op <| op_rd rfl (rd_pick_t rfl rfl) <| gl_op <| op_rd rfl (rd_move rfl) <| gl_yes rfl rfl <| op_rd rfl (rd_move rfl) <| gl_yes rfl rfl <| op_rd rfl (rd_fieldAddr rfl (fa_107_3 _)) <| gl_yes rfl rfl (op_rd rfl (rd_load Tryd.underlying3 rfl rfl (by exact ld_blk 0 rfl rfl)) ?_)
        refine gl_yes rfl rfl (op_rd rfl (rd_leq rfl rfl) (gk_dec (fun h36 => ?_) (fun h36 => ?_)))
        · refine gl_op <| op_rd rfl (rd_pick_t rfl rfl) <| gl_op <| op_rd rfl (rd_move rfl) <| gl_yes rfl rfl <| op_rd rfl (rd_move rfl) <| gl_yes rfl rfl <| op_rd rfl (rd_fieldAddr rfl (fa_107_1 _)) <| gl_yes rfl rfl (op_rd rfl (rd_load Tryd.underlying3 rfl rfl (by exact ld_blk 0 rfl rfl)) ?_)
          refine gl_yes rfl rfl (op_rd rfl (rd_add rfl rfl (by omega) (by omega)) ?_)
          refine gl_yes rfl rfl <| op_rd rfl (rd_fieldAddr rfl (fa_42_1 _)) <| gl_yes rfl rfl (op_rd rfl (rd_load Tryd.underlying3 rfl rfl (by exact ld_blk 1 rfl rfl)) ?_)
          refine gl_yes rfl rfl (op_rd rfl (rd_eql rfl rfl) (gk_dec (fun h45 => ?_) (fun h45 => ?_)))
          · have hyes : plZ p n r0 p0 = true := by unfold plZ; simp only [Bool.and_eq_true, decide_eq_true_eq]; omega
            refine gl_op <| op_rd rfl (rd_pick_t rfl rfl) <| gl_nil <| gx_then <| gc_cond_t rfl <| gc_seq <| gc_region <| gl_op <| op_rd rfl (rd_assign rfl) <| gl_nil <| gx_then <| gc_ret <| gx_block_ret <| gx_then_ret <| gx_then_ret <| gx_block_ret <| gx_then_ret <| gx_ret1 (.inl rfl) Tryd.results23 rfl [] (by decide) ?_
            refine ⟨congrArg Value.bool (Eq.symm ?_), rfl⟩
            exact playsZ_t hp hyes
          have hno : plZ (ptA x.ps k) n r0 p0 = false := by rw [hpt]; unfold plZ; simp only [Bool.and_eq_false_iff, decide_eq_false_iff_not]; omega
          refine gl_op <| op_rd rfl (rd_pick_t rfl rfl) <| gl_nil <| gx_then <| gc_cond_f rfl <| gc_skip <| gx_block <| gx_then <| gc_region <| gl_op <| op_rd rfl (rd_move rfl) <| gl_op (op_rd rfl (by exact rd_addN (b := 1) rfl rfl (by omega)) ?_)
          refine gl_op <| op_rd rfl (rd_assign rfl) <| gl_nil <| gx_then ?_
          exact gx_cut (k + 1) ⟨⟨by omega, all_snocZ hall hno⟩, by omega⟩ ⟨rfl, rfl, rfl, rfl, trivial⟩ ⟨[1, 2], by decide, rfl⟩
        have hno : plZ (ptA x.ps k) n r0 p0 = false := by rw [hpt]; unfold plZ; simp only [Bool.and_eq_false_iff, decide_eq_false_iff_not]; omega
        refine gl_op <| op_rd rfl (rd_pick_t rfl rfl) <| gl_op <| op_rd rfl (rd_move rfl) <| gl_no rfl rfl rfl <| gl_no rfl rfl rfl <| gl_no rfl rfl rfl <| gl_no rfl rfl rfl <| gl_no rfl rfl rfl <| gl_no rfl rfl rfl <| gl_no rfl rfl rfl <| gl_op <| op_rd rfl (rd_pick_f rfl rfl) <| gl_nil <| gx_then <| gc_cond_f rfl <| gc_skip <| gx_block <| gx_then <| gc_region <| gl_op <| op_rd rfl (rd_move rfl) <| gl_op (op_rd rfl (by exact rd_addN (b := 1) rfl rfl (by omega)) ?_)
        refine gl_op <| op_rd rfl (rd_assign rfl) <| gl_nil <| gx_then ?_
        exact gx_cut (k + 1) ⟨⟨by omega, all_snocZ hall hno⟩, by omega⟩ ⟨rfl, rfl, rfl, rfl, trivial⟩ ⟨[1, 2], by decide, rfl⟩
      have hno : plZ (ptA x.ps k) n r0 p0 = false := by rw [hpt]; unfold plZ; simp only [Bool.and_eq_false_iff, decide_eq_false_iff_not]; omega
      refine gl_op <| op_rd rfl (rd_pick_t rfl rfl) <| gl_op <| op_rd rfl (rd_move rfl) <| gl_no rfl rfl rfl <| gl_no rfl rfl rfl <| gl_no rfl rfl rfl <| gl_no rfl rfl rfl <| gl_op <| op_rd rfl (rd_pick_f rfl rfl) <| gl_op <| op_rd rfl (rd_move rfl) <| gl_no rfl rfl rfl <| gl_no rfl rfl rfl <| gl_no rfl rfl rfl <| gl_no rfl rfl rfl <| gl_no rfl rfl rfl <| gl_no rfl rfl rfl <| gl_no rfl rfl rfl <| gl_op <| op_rd rfl (rd_pick_f rfl rfl) <| gl_nil <| gx_then <| gc_cond_f rfl <| gc_skip <| gx_block <| gx_then <| gc_region <| gl_op <| op_rd rfl (rd_move rfl) <| gl_op (op_rd rfl (by exact rd_addN (b := 1) rfl rfl (by omega)) ?_)
      refine gl_op <| op_rd rfl (rd_assign rfl) <| gl_nil <| gx_then ?_
      exact gx_cut (k + 1) ⟨⟨by omega, all_snocZ hall hno⟩, by omega⟩ ⟨rfl, rfl, rfl, rfl, trivial⟩ ⟨[1, 2], by decide, rfl⟩
    have hno : plZ (ptA x.ps k) n r0 p0 = false := by rw [hpt]; unfold plZ; simp only [Bool.and_eq_false_iff, decide_eq_false_iff_not]; omega
    refine gl_op <| op_rd rfl (rd_move rfl) <| gl_no rfl rfl rfl <| gl_no rfl rfl rfl <| gl_no rfl rfl rfl <| gl_no rfl rfl rfl <| gl_op <| op_rd rfl (rd_pick_f rfl rfl) <| gl_op <| op_rd rfl (rd_move rfl) <| gl_no rfl rfl rfl <| gl_no rfl rfl rfl <| gl_no rfl rfl rfl <| gl_no rfl rfl rfl <| gl_op <| op_rd rfl (rd_pick_f rfl rfl) <| gl_op <| op_rd rfl (rd_move rfl) <| gl_no rfl rfl rfl <| gl_no rfl rfl rfl <| gl_no rfl rfl rfl <| gl_no rfl rfl rfl <| gl_no rfl rfl rfl <| gl_no rfl rfl rfl <| gl_no rfl rfl rfl <| gl_op <| op_rd rfl (rd_pick_f rfl rfl) <| gl_nil <| gx_then <| gc_cond_f rfl <| gc_skip ?_
    refine gx_block <| gx_then <| gc_region <| gl_op <| op_rd rfl (rd_move rfl) <| gl_op (op_rd rfl (by exact rd_addN (b := 1) rfl rfl (by omega)) ?_)
    refine gl_op <| op_rd rfl (rd_assign rfl) <| gl_nil <| gx_then ?_
    exact gx_cut (k + 1) ⟨⟨by omega, all_snocZ hall hno⟩, by omega⟩ ⟨rfl, rfl, rfl, rfl, trivial⟩ ⟨[1, 2], by decide, rfl⟩
  refine gl_nil <| gx_then <| gc_cond_f rfl <| gc_exit <| gx_then_exit <| gx_then_exit <| gx_block_exit <| gx_then <| gc_seq <| gc_region <| gl_op <| op_rd rfl (rd_assign rfl) <| gl_nil <| gx_then <| gc_ret <| gx_ret1 (.inl rfl) Tryd.results23 rfl [] (by decide) ?_
  refine ⟨congrArg Value.bool (Eq.symm ?_), rfl⟩
  exact playsZ_f fun j hj => hall j (by omega)
set_option maxRecDepth 100000 in
set_option maxHeartbeats 1000000 in
theorem why1_ok (p : Pt) (n : Nat) (r0 p0 : Int) (hb0 : 0 ≤ p.lo) (hb1 : p.hi ≤ 127) (hb2 : -96 ≤ p.shift) (hb3 : p.shift ≤ 96) (bp bn : Nat) (w0 : World) (hbp : OldSl w0 [] (some ⟨bp, 0, none⟩) 2 1 [.int .i64 r0, .int .i64 p0]) (hbn : OldSl w0 [] (some ⟨bn, 0, none⟩) 1 1 [natV n]) : Sp Tryd.prog 41 [p.val, .pointer (some ⟨bp, 0, none⟩), .pointer (some ⟨bn, 0, none⟩)] w0 [] (RV (.bool (plZ p n r0 p0))) := by
  refine spec_enter Tryd.func41 rfl Tryd.ntmps41 rfl (Own.refl _) ?_
  simp only [argEnv]
  refine gc_seq <| gc_region <| gl_op (op_box rfl rfl rfl (fun b3 => ?_))
  refine gl_op <| op_rd rfl (rd_assign rfl) <| gl_nil <| gx_then <| gc_seq <| gc_region <| gl_op <| op_rd rfl (rd_fieldAddr rfl (fa_107_0 _)) <| gl_op (op_rd rfl (rd_load Tryd.underlying3 rfl rfl (by exact ld_blk 0 rfl rfl)) ?_)
  refine gl_op <| op_rd rfl (rd_fieldAddr rfl (fa_42_0 _)) <| gl_op <| op_rd rfl (rd_load Tryd.underlying3 rfl rfl (ld_sl hbp rfl)) <| gl_op (op_rd rfl (rd_eql rfl rfl) (gk_dec (fun h9 => ?_) (fun h9 => ?_)))
  · refine gl_op <| op_rd rfl (rd_move rfl) <| gl_yes rfl rfl <| op_rd rfl (rd_load Tryd.underlying3 rfl rfl (ld_sl (off := 0) hbn rfl)) <| gl_yes rfl rfl <| op_rd rfl (rd_fieldAddr rfl (fa_107_2 _)) <| gl_yes rfl rfl (op_rd rfl (rd_load Tryd.underlying3 rfl rfl (by exact ld_blk 0 rfl rfl)) ?_)
    refine gl_yes rfl rfl (op_rd rfl (rd_geq rfl rfl) (gk_dec (fun h14 => ?_) (fun h14 => ?_)))
    · refine gl_op <| op_rd rfl (rd_pick_t rfl rfl) <| gl_op <| op_rd rfl (rd_move rfl) <| gl_yes rfl rfl <| op_rd rfl (rd_load Tryd.underlying3 rfl rfl (ld_sl (off := 0) hbn rfl)) <| gl_yes rfl rfl <| op_rd rfl (rd_fieldAddr rfl (fa_107_3 _)) <| gl_yes rfl rfl (op_rd rfl (rd_load Tryd.underlying3 rfl rfl (by exact ld_blk 0 rfl rfl)) ?_)
      refine gl_yes rfl rfl (op_rd rfl (rd_leq rfl rfl) (gk_dec (fun h20 => ?_) (fun h20 => ?_)))
      · refine gl_op <| op_rd rfl (rd_pick_t rfl rfl) <| gl_op <| op_rd rfl (rd_move rfl) <| gl_yes rfl rfl <| op_rd rfl (rd_load Tryd.underlying3 rfl rfl (ld_sl (off := 0) hbn rfl)) <| gl_yes rfl rfl <| op_rd rfl (rd_fieldAddr rfl (fa_107_1 _)) <| gl_yes rfl rfl (op_rd rfl (rd_load Tryd.underlying3 rfl rfl (by exact ld_blk 0 rfl rfl)) ?_)
        refine gl_yes rfl rfl (op_rd rfl (rd_add rfl rfl (by omega) (by omega)) ?_)
        refine gl_yes rfl rfl <| op_rd rfl (rd_fieldAddr rfl (fa_42_1 _)) <| gl_yes rfl rfl <| op_rd rfl (rd_load Tryd.underlying3 rfl rfl (ld_sl hbp rfl)) <| gl_yes rfl rfl (op_rd rfl (rd_eql rfl rfl) (gk_dec (fun h29 => ?_) (fun h29 => ?_)))
        · have hyes : plZ p n r0 p0 = true := by unfold plZ; simp only [Bool.and_eq_true, decide_eq_true_eq]; omega
          refine gl_op <| op_rd rfl (rd_pick_t rfl rfl) <| gl_op <| op_rd rfl (rd_assign rfl) <| gl_nil <| gx_then <| gc_ret <| gx_ret1 (.inl rfl) Tryd.results41 rfl [] (by decide) ?_
          exact ⟨congrArg Value.bool (Eq.symm hyes), rfl⟩
        have hno : plZ p n r0 p0 = false := by unfold plZ; simp only [Bool.and_eq_false_iff, decide_eq_false_iff_not]; omega
        refine gl_op <| op_rd rfl (rd_pick_t rfl rfl) <| gl_op <| op_rd rfl (rd_assign rfl) <| gl_nil <| gx_then <| gc_ret <| gx_ret1 (.inl rfl) Tryd.results41 rfl [] (by decide) ?_
        exact ⟨congrArg Value.bool (Eq.symm hno), rfl⟩
      have hno : plZ p n r0 p0 = false := by unfold plZ; simp only [Bool.and_eq_false_iff, decide_eq_false_iff_not]; omega
      refine gl_op <| op_rd rfl (rd_pick_t rfl rfl) <| gl_op <| op_rd rfl (rd_move rfl) <| gl_no rfl rfl rfl <| gl_no rfl rfl rfl <| gl_no rfl rfl rfl <| gl_no rfl rfl rfl <| gl_no rfl rfl rfl <| gl_no rfl rfl rfl <| gl_no rfl rfl rfl <| gl_op <| op_rd rfl (rd_pick_f rfl rfl) <| gl_op <| op_rd rfl (rd_assign rfl) <| gl_nil <| gx_then <| gc_ret <| gx_ret1 (.inl rfl) Tryd.results41 rfl [] (by decide) ?_
      exact ⟨congrArg Value.bool (Eq.symm hno), rfl⟩
    have hno : plZ p n r0 p0 = false := by unfold plZ; simp only [Bool.and_eq_false_iff, decide_eq_false_iff_not]; omega
    refine gl_op <| op_rd rfl (rd_pick_t rfl rfl) <| gl_op <| op_rd rfl (rd_move rfl) <| gl_no rfl rfl rfl <| gl_no rfl rfl rfl <| gl_no rfl rfl rfl <| gl_no rfl rfl rfl <| gl_op <| op_rd rfl (rd_pick_f rfl rfl) <| gl_op <| op_rd rfl (rd_move rfl) <| gl_no rfl rfl rfl <| gl_no rfl rfl rfl <| gl_no rfl rfl rfl <| gl_no rfl rfl rfl <| gl_no rfl rfl rfl <| gl_no rfl rfl rfl <| gl_no rfl rfl rfl <| gl_op <| op_rd rfl (rd_pick_f rfl rfl) <| gl_op <| op_rd rfl (rd_assign rfl) <| gl_nil <| gx_then <| gc_ret <| gx_ret1 (.inl rfl) Tryd.results41 rfl [] (by decide) ?_
    exact ⟨congrArg Value.bool (Eq.symm hno), rfl⟩
  have hno : plZ p n r0 p0 = false := by unfold plZ; simp only [Bool.and_eq_false_iff, decide_eq_false_iff_not]; omega
  refine gl_op <| op_rd rfl (rd_move rfl) <| gl_no rfl rfl rfl <| gl_no rfl rfl rfl <| gl_no rfl rfl rfl <| gl_no rfl rfl rfl <| gl_op <| op_rd rfl (rd_pick_f rfl rfl) <| gl_op <| op_rd rfl (rd_move rfl) <| gl_no rfl rfl rfl <| gl_no rfl rfl rfl <| gl_no rfl rfl rfl <| gl_no rfl rfl rfl <| gl_op <| op_rd rfl (rd_pick_f rfl rfl) <| gl_op <| op_rd rfl (rd_move rfl) <| gl_no rfl rfl rfl <| gl_no rfl rfl rfl <| gl_no rfl rfl rfl <| gl_no rfl rfl rfl <| gl_no rfl rfl rfl <| gl_no rfl rfl rfl <| gl_no rfl rfl rfl <| gl_op <| op_rd rfl (rd_pick_f rfl rfl) <| gl_op <| op_rd rfl (rd_assign rfl) <| gl_nil <| gx_then <| gc_ret ?_
  refine gx_ret1 (.inl rfl) Tryd.results41 rfl [] (by decide) ?_
  exact ⟨congrArg Value.bool (Eq.symm hno), rfl⟩
set_option maxRecDepth 100000 in
set_option maxHeartbeats 1000000 in
theorem indexPt_ok (x : St) (n : Nat) (r0 p0 : Int) (hl : x.ps.length ≤ 1000) (hpb : ∀ p ∈ x.ps, 0 ≤ p.lo ∧ p.hi ≤ 127 ∧ -96 ≤ p.shift ∧ p.shift ≤ 96) (bp bn : Nat) (w0 : World) (hx : OldSl w0 [] x.pa x.ps.length 4 (x.ps.flatMap Pt.cells)) (hbp : OldSl w0 [] (some ⟨bp, 0, none⟩) 2 1 [.int .i64 r0, .int .i64 p0]) (hbn : OldSl w0 [] (some ⟨bn, 0, none⟩) 1 1 [natV n]) : Sp Tryd.prog 75 [.slice x.pa x.ps.length x.pc, .func (.func 41) #[] #[.pointer (some ⟨bp, 0, none⟩), .pointer (some ⟨bn, 0, none⟩)]] w0 [] (fun v L => ∃ r : Int, v = .int .i64 r ∧ L = [] ∧ (0 ≤ r ↔ playsZ x n r0 p0 = true)) := by
  refine spec_enter Tryd.func75 rfl Tryd.ntmps75 rfl (Own.refl _) ?_
  simp only [argEnv]
  refine gc_seq <| gc_region <| gl_op <| op_rd rfl (rd_assign rfl) <| gl_nil <| gx_then <| gc_seq <| gc_seq <| gc_region <| gl_op <| op_rd rfl (rd_move rfl) <| gl_op <| op_rd rfl (rd_lenSlice Tryd.underlying55 rfl) <| gl_op <| op_rd rfl (rd_move rfl) <| gl_nil <| gx_then <| gc_block <| gc_loopF (ι := Nat) [(0, _), (1, _), (7, _)] [] (fun k => k ≤ x.ps.length ∧ ∀ j, j < k → plZ (ptA x.ps j) n r0 p0 = false) (fun k Fr0 => ((8, natV k) :: Fr0)) (fun k Fr0 => Fr0) (fun k => x.ps.length - k) 0 (⟨Nat.zero_le _, fun j h => absurd h (Nat.not_lt_zero j)⟩) ⟨rfl, rfl, rfl, rfl, trivial⟩ ⟨[], by decide, rfl⟩ ?_
  rintro k ⟨hk, hall⟩
  refine gc_seq <| gc_region <| gl_op (op_rd rfl (rd_lss rfl rfl) (gk_dec (fun h9 => ?_) (fun h9 => ?_)))
  · obtain ⟨p, hp⟩ := get_some (show k < x.ps.length by omega)
    have hpt : ptA x.ps k = p := getD_some hp
    obtain ⟨hb0, hb1, hb2, hb3⟩ := hpb p (List.mem_of_getElem? hp)
    refine gl_nil <| gx_then <| gc_seq <| gc_cond_t rfl <| gc_skip <| gx_then <| gc_seq <| gc_block <| gc_seq <| gc_region <| gl_op <| op_rd rfl (rd_move rfl) <| gl_op <| op_rd rfl (rd_assign rfl) <| gl_nil <| gx_then <| gc_seq <| gc_region <| gl_op <| op_rd rfl (rd_move rfl) <| gl_op <| op_rd rfl (rd_move rfl) <| gl_op <| op_rd rfl (rd_move rfl) <| gl_op (op_rd rfl (rd_indexOld hx Tryd.underlying55 ty_107 rfl rfl (by omega) (by omega)) ?_)
    refine gl_op (op_rd rfl (rd_loadAgg Tryd.underlying107 rfl ty_107 rfl (cs_slN hx (flat_drop_get Pt.cells 4 (fun _ => rfl) hp)) rfl) ?_)
    simp only [Pt.cells]
    refine gl_op (op_call rfl (vf := []) (vc := [.pointer (some ⟨bp, 0, none⟩), .pointer (some ⟨bn, 0, none⟩)]) rfl rfl Tryd.call41 (fun w1 ho => why1_ok p n r0 p0 hb0 hb1 hb2 hb3 bp bn w1 (hbp.at ho) (hbn.at ho)) ?_)
    rintro _ _ ⟨rfl, rfl⟩
    refine gk_bool (fun hh => ?_) (fun hh => ?_)
    · refine gl_nil <| gx_then <| gc_cond_t rfl <| gc_seq <| gc_region <| gl_op <| op_rd rfl (rd_move rfl) <| gl_op <| op_rd rfl (rd_assign rfl) <| gl_nil <| gx_then <| gc_ret <| gx_block_ret <| gx_then_ret <| gx_then_ret <| gx_block_ret <| gx_then_ret <| gx_ret1 (.inl rfl) Tryd.results75 rfl [] (by decide) ?_
      exact ⟨_, rfl, rfl, ⟨fun _ => playsZ_t hp hh, fun _ => by omega⟩⟩
    have hno : plZ (ptA x.ps k) n r0 p0 = false := by rw [hpt]; exact hh
    refine gl_nil <| gx_then <| gc_cond_f rfl <| gc_skip <| gx_block <| gx_then <| gc_region <| gl_op (op_rd rfl (by exact rd_addN (b := 1) rfl rfl (by omega)) ?_)
    refine gl_op <| op_rd rfl (rd_move rfl) <| gl_nil <| gx_then ?_
    exact gx_cut (k + 1) ⟨⟨by omega, all_snocZ hall hno⟩, by omega⟩ ⟨rfl, rfl, rfl, rfl, trivial⟩ ⟨[], by decide, rfl⟩
  refine gl_nil <| gx_then <| gc_seq <| gc_cond_f rfl <| gc_exit <| gx_then_exit <| gx_then_exit <| gx_block_exit <| gx_then <| gc_seq <| gc_region <| gl_op <| op_rd rfl (rd_assign rfl) <| gl_nil <| gx_then <| gc_ret <| gx_ret1 (.inl rfl) Tryd.results75 rfl [] (by decide) ?_
  refine ⟨_, rfl, rfl, ⟨fun h => by omega, fun h => ?_⟩⟩
  rw [playsZ_f fun j hj => hall j (by omega)] at h; cases h
set_option maxRecDepth 100000 in
set_option maxHeartbeats 1000000 in
theorem containsPt_ok (x : St) (n : Nat) (r0 p0 : Int) (hl : x.ps.length ≤ 1000) (hpb : ∀ p ∈ x.ps, 0 ≤ p.lo ∧ p.hi ≤ 127 ∧ -96 ≤ p.shift ∧ p.shift ≤ 96) (bp bn : Nat) (w0 : World) (hx : OldSl w0 [] x.pa x.ps.length 4 (x.ps.flatMap Pt.cells)) (hbp : OldSl w0 [] (some ⟨bp, 0, none⟩) 2 1 [.int .i64 r0, .int .i64 p0]) (hbn : OldSl w0 [] (some ⟨bn, 0, none⟩) 1 1 [natV n]) : Sp Tryd.prog 40 [.slice x.pa x.ps.length x.pc, .func (.func 41) #[] #[.pointer (some ⟨bp, 0, none⟩), .pointer (some ⟨bn, 0, none⟩)]] w0 [] (RV (.bool (playsZ x n r0 p0))) := by
  refine spec_enter Tryd.func40 rfl Tryd.ntmps40 rfl (Own.refl _) ?_
  simp only [argEnv]
  refine gc_seq <| gc_region <| gl_op <| op_rd rfl (rd_assign rfl) <| gl_nil <| gx_then <| gc_seq <| gc_region <| gl_op <| op_rd rfl (rd_move rfl) <| gl_op <| op_rd rfl (rd_move rfl) <| gl_op (op_call rfl (vf := []) (vc := []) rfl rfl Tryd.call75 (fun w1 ho => indexPt_ok x n r0 p0 hl hpb bp bn w1 (hx.at ho) (hbp.at ho) (hbn.at ho)) ?_)
  rintro _ _ ⟨r, rfl, rfl, hr⟩
  refine gl_op <| op_rd rfl (rd_geq rfl rfl) <| gl_op <| op_rd rfl (rd_assign rfl) <| gl_nil <| gx_then <| gc_ret <| gx_ret1 (.inl rfl) Tryd.results40 rfl [] (by decide) ?_
  refine ⟨congrArg Value.bool ?_, rfl⟩
  rw [Bool.eq_iff_iff, ← hr]; simp
end Go.Proofs.YtbjijbbkfgcleaaDoor
