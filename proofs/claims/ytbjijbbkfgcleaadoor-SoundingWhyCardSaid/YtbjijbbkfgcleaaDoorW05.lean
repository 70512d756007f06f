import Derived.Test.YtbjijbbkfgcleaaDoorW04
import Derived.Test.YtbjijbbkfgcleaaDoorW01
import Derived.Test.YtbjijbbkfgcleaaDoorRows
import Derived.LaidMore
import Derived.MakeChecks
import Derived.Stop.Joined
import Derived.LaidHandle
import Derived.Test.YtbjijbbkfgcleaaDoorW00
/- A part of the proof: walks of the program. -/
set_option autoImplicit false
set_option linter.unusedSimpArgs false
set_option linter.unusedVariables false
set_option linter.unnecessarySimpa false
namespace Go.Proofs.YtbjijbbkfgcleaaDoor
open Go.Gv
open Go.RowKit
open Go.Sn
open Sx
set_option maxRecDepth 100000 in
set_option maxHeartbeats 1000000 in
theorem shown_ok (w0 : World) (hT : TabIn w0) : Sp Tryd.prog 11 [] w0 [] (RV (.bool true)) := by
  refine spec_enter Tryd.func11 rfl Tryd.ntmps11 rfl (Own.refl _) ?_
  simp only [argEnv]
  refine gc_seq <| gc_region <| gl_op <| op_rd rfl (rd_assign rfl) <| gl_nil <| gx_then <| gc_seq <| gc_region <| gl_op (op_buildSlice (sz := 1) rfl rfl (fun _ => bs_29_1_0 _) rfl rfl (fun b8 => ?_))
  refine gl_op (op_buildSlice (sz := 1) rfl rfl (fun _ => bs_28_1_0 _ _ _) rfl rfl (fun b9 => ?_))
  refine gl_op (op_buildSlice (sz := 1) rfl rfl (fun _ => bs_29_2_0_1 _ _) rfl rfl (fun b10 => ?_))
  refine gl_op (op_buildSlice (sz := 1) rfl rfl (fun _ => bs_29_2_0_1 _ _) rfl rfl (fun b11 => ?_))
  refine gl_op (op_rd rfl (rd_build rfl (fun _ => bd_31_0_1_2 _ _ _ _ _ _ _ _ _)) ?_)
  refine gl_op (op_alloc ty_31 rfl rfl (fun b1 => ?_))
  refine gl_op (op_storeAgg 0 ty_31 rfl rfl rfl rfl rfl rfl (by rfl) ?_)
  refine gl_nil <| gx_then <| gc_seq <| gc_drawP [0, 1, 2, 3, 4] true 7 rfl <| ga_first 1 #[false, true, false, false, false, false, false, false] rfl rfl rfl rfl (by kernel_rfl) rfl ⟨[0, 1, 2, 3, 4], by decide, rfl⟩ (qt_rd (rd_loadAgg Tryd.underlying31 rfl ty_31 rfl (by exact cs_blk 0 (off := 0) (k := 3) rfl rfl) rfl)) ?_
  refine ga_only 0 #[true, true, false, false, false, false, false, false] rfl rfl (by kernel_rfl) rfl (.inr ⟨[0, 1, 2, 3, 4], by decide, rfl⟩) (op_call rfl (vf := []) (vc := []) rfl rfl Tryd.call27 (fun w1 ho => ex12_ok w1) ?_)
  rintro _ _ ⟨be14, d14, r14, pa14, pb14, pc14, t14, c14, cc14, rfl, rfl⟩
  refine ga_only 2 #[true, true, true, false, false, false, false, false] rfl rfl (by kernel_rfl) rfl (.inr ⟨[8, 9, 10, 11, 12], by decide, rfl⟩) (op_call rfl (vf := []) (vc := []) rfl rfl Tryd.call12 (fun w1 ho => Keys_ok (ex12 d14 r14 pa14 pb14 pc14 t14 c14 cc14) (exHN (rowA (some b9)) (rowA (some b8)) (rowA (some b10)) (rowA (some b11))).hd ex_le ex_hle w1 (ex_in (ho.rowSl 7 rfl) (ho.rowSl 6 rfl) (ho.rowSl 2 rfl) (ho.rowSl 1 rfl) (ho.rowSl 5 rfl) (ho.rowSl 4 rfl) (ho.rowSl 3 rfl)) (exh_in (ho.rowSl 11 rfl) (ho.rowSl 12 rfl) (ho.rowSl 10 rfl) (ho.rowSl 9 rfl)) (hT.at ho (by decide))) ?_)
  rintro _ _ hq
  obtain ⟨r16, g16, hg16, rfl, rfl⟩ := ex_KeysR hq
  unfold KG.hl
  refine ga_first 3 #[true, true, true, true, false, false, false, false] rfl rfl rfl rfl (by kernel_rfl) rfl ⟨[10, 11, 12, 13, 14], by decide, rfl⟩ (qt_rd (rd_move rfl)) ?_
  refine ga_first 4 #[true, true, true, true, true, false, false, false] rfl rfl rfl rfl (by kernel_rfl) rfl ⟨[10, 11, 12, 13, 14], by decide, rfl⟩ (qt_rd (rd_extract rfl rfl)) ?_
  refine ga_first 5 #[true, true, true, true, true, true, false, false] rfl rfl rfl rfl (by kernel_rfl) rfl ⟨[10, 11, 12, 13, 14], by decide, rfl⟩ (qt_rd (rd_extract rfl rfl)) ?_
  refine ga_first 6 #[true, true, true, true, true, true, true, false] rfl rfl rfl rfl (by kernel_rfl) rfl ⟨[10, 11, 12, 13, 14], by decide, rfl⟩ (qt_rd (rd_assign rfl)) ?_
  refine ga_first 7 #[true, true, true, true, true, true, true, true] rfl rfl rfl rfl (by kernel_rfl) rfl ⟨[10, 11, 12, 13, 14], by decide, rfl⟩ (qt_rd (rd_assign rfl)) ?_
  refine ga_end (by kernel_rfl) (.inr ⟨[10, 11, 12, 13, 14], by decide, rfl⟩) ?_
  refine gx_then <| gc_seq <| gc_drawP [0, 1, 2, 3, 4, 5, 6, 7, 8, 9, 10, 11, 12, 13, 14] true 7 rfl <| ga_first 1 #[false, true, false, false, false, false, false, false] rfl rfl rfl rfl (by kernel_rfl) rfl ⟨[0, 1, 2, 3, 4, 5, 6, 7, 8, 9, 10, 11, 12, 13, 14], by decide, rfl⟩ (qt_rd (rd_loadAgg Tryd.underlying31 rfl ty_31 rfl (by exact cs_blk 10 (off := 0) (k := 3) rfl rfl) rfl)) ?_
  refine ga_only 0 #[true, true, false, false, false, false, false, false] rfl rfl (by kernel_rfl) rfl (.inr ⟨[0, 1, 2, 3, 4, 5, 6, 7, 8, 9, 10, 11, 12, 13, 14], by decide, rfl⟩) (op_call rfl (vf := []) (vc := []) rfl rfl Tryd.call27 (fun w1 ho => ex12_ok w1) ?_)
  rintro _ _ ⟨be20, d20, r20, pa20, pb20, pc20, t20, c20, cc20, rfl, rfl⟩
  refine ga_only 2 #[true, true, true, false, false, false, false, false] rfl rfl (by kernel_rfl) rfl (.inr ⟨[8, 9, 10, 11, 12, 13, 14, 15, 16, 17, 18, 19, 20, 21, 22], by decide, rfl⟩) (op_call rfl (vf := []) (vc := []) rfl rfl Tryd.call21 (fun w1 ho => Pipes_ok (ex12 d20 r20 pa20 pb20 pc20 t20 c20 cc20) (exHN (rowA (some b9)) (rowA (some b8)) (rowA (some b10)) (rowA (some b11))).hd ex_le ex_hle w1 (ex_in (ho.rowSl 7 rfl) (ho.rowSl 6 rfl) (ho.rowSl 2 rfl) (ho.rowSl 1 rfl) (ho.rowSl 5 rfl) (ho.rowSl 4 rfl) (ho.rowSl 3 rfl)) (exh_in (ho.rowSl 21 rfl) (ho.rowSl 22 rfl) (ho.rowSl 20 rfl) (ho.rowSl 19 rfl)) (hT.at ho (by decide))) ?_)
  rintro _ _ hq
  obtain ⟨r22, c22, rfl, rfl⟩ := ex_PipesR hq
  refine ga_first 3 #[true, true, true, true, false, false, false, false] rfl rfl rfl rfl (by kernel_rfl) rfl ⟨[9, 10, 11, 12, 13, 14, 15, 16, 17, 18, 19, 20, 21, 22, 23], by decide, rfl⟩ (qt_rd (rd_move rfl)) ?_
  refine ga_first 4 #[true, true, true, true, true, false, false, false] rfl rfl rfl rfl (by kernel_rfl) rfl ⟨[9, 10, 11, 12, 13, 14, 15, 16, 17, 18, 19, 20, 21, 22, 23], by decide, rfl⟩ (qt_rd (rd_extract rfl rfl)) ?_
  refine ga_first 5 #[true, true, true, true, true, true, false, false] rfl rfl rfl rfl (by kernel_rfl) rfl ⟨[9, 10, 11, 12, 13, 14, 15, 16, 17, 18, 19, 20, 21, 22, 23], by decide, rfl⟩ (qt_rd (rd_extract rfl rfl)) ?_
  refine ga_first 6 #[true, true, true, true, true, true, true, false] rfl rfl rfl rfl (by kernel_rfl) rfl ⟨[9, 10, 11, 12, 13, 14, 15, 16, 17, 18, 19, 20, 21, 22, 23], by decide, rfl⟩ (qt_rd (rd_assign rfl)) ?_
  refine ga_first 7 #[true, true, true, true, true, true, true, true] rfl rfl rfl rfl (by kernel_rfl) rfl ⟨[9, 10, 11, 12, 13, 14, 15, 16, 17, 18, 19, 20, 21, 22, 23], by decide, rfl⟩ (qt_rd (rd_assign rfl)) ?_
  refine ga_end (by kernel_rfl) (.inr ⟨[9, 10, 11, 12, 13, 14, 15, 16, 17, 18, 19, 20, 21, 22, 23], by decide, rfl⟩) ?_
  refine gx_then <| gc_seq <| gc_drawP [0, 1, 2, 3, 4, 5, 6, 7, 8, 9, 10, 11, 12, 13, 14, 15, 16, 17, 18, 19, 20, 21, 22, 23] false 9 rfl <| ga_first 1 #[false, true, false, false, false, false, false, false, false, false] rfl rfl rfl rfl (by kernel_rfl) rfl ⟨[0, 1, 2, 3, 4, 5, 6, 7, 8, 9, 10, 11, 12, 13, 14, 15, 16, 17, 18, 19, 20, 21, 22, 23], by decide, rfl⟩ (qt_rd (rd_loadAgg Tryd.underlying31 rfl ty_31 rfl (by exact cs_blk 19 (off := 0) (k := 3) rfl rfl) rfl)) ?_
  refine ga_first 2 #[false, true, true, false, false, false, false, false, false, false] rfl rfl rfl rfl (by kernel_rfl) rfl ⟨[0, 1, 2, 3, 4, 5, 6, 7, 8, 9, 10, 11, 12, 13, 14, 15, 16, 17, 18, 19, 20, 21, 22, 23], by decide, rfl⟩ (qt_rd (rd_build rfl (fun _ => bd_42_1 _))) ?_
  refine ga_two 0 7 #[true, true, true, false, false, false, false, false, false, false] #[false, true, true, false, false, false, false, true, false, false] rfl rfl rfl rfl (by kernel_rfl) rfl rfl (.inr ⟨[0, 1, 2, 3, 4, 5, 6, 7, 8, 9, 10, 11, 12, 13, 14, 15, 16, 17, 18, 19, 20, 21, 22, 23], by decide, rfl⟩) ?_ ?_
  · refine (op_call rfl (vf := []) (vc := []) rfl rfl Tryd.call27 (fun w1 ho => ex12_ok w1) ?_)
    rintro _ _ ⟨be26, d26, r26, pa26, pb26, pc26, t26, c26, cc26, rfl, rfl⟩
    refine ga_two 3 7 #[true, true, true, true, false, false, false, false, false, false] #[true, true, true, false, false, false, false, true, false, false] rfl rfl rfl rfl (by kernel_rfl) rfl rfl (.inr ⟨[8, 9, 10, 11, 12, 13, 14, 15, 16, 17, 18, 19, 20, 21, 22, 23, 24, 25, 26, 27, 28, 29, 30, 31], by decide, rfl⟩) ?_ ?_
    · refine (op_call rfl (vf := []) (vc := []) rfl rfl Tryd.call17 (fun w1 ho => Why_ok (ex12 d26 r26 pa26 pb26 pc26 t26 c26 cc26) (exHN (rowA (some b9)) (rowA (some b8)) (rowA (some b10)) (rowA (some b11))).hd ex_le ex_hle 0 72 w1 (ex_in (ho.rowSl 7 rfl) (ho.rowSl 6 rfl) (ho.rowSl 2 rfl) (ho.rowSl 1 rfl) (ho.rowSl 5 rfl) (ho.rowSl 4 rfl) (ho.rowSl 3 rfl)) (exh_in (ho.rowSl 30 rfl) (ho.rowSl 31 rfl) (ho.rowSl 29 rfl) (ho.rowSl 28 rfl)) (hT.at ho (by decide))) ?_)
      rintro _ _ hq
      obtain ⟨b29, r29, c29, rfl, rfl⟩ := ex_WhyR hq
      refine ga_first 4 #[true, true, true, true, true, false, false, false, false, false] rfl rfl rfl rfl (by kernel_rfl) rfl ⟨[10, 11, 12, 13, 14, 15, 16, 17, 18, 19, 20, 21, 22, 23, 24, 25, 26, 27, 28, 29, 30, 31, 32, 33], by decide, rfl⟩ (qt_rd (rd_move rfl)) ?_
      refine ga_first 5 #[true, true, true, true, true, true, false, false, false, false] rfl rfl rfl rfl (by kernel_rfl) rfl ⟨[10, 11, 12, 13, 14, 15, 16, 17, 18, 19, 20, 21, 22, 23, 24, 25, 26, 27, 28, 29, 30, 31, 32, 33], by decide, rfl⟩ (qt_rd (rd_extract rfl rfl)) ?_
      refine ga_first 6 #[true, true, true, true, true, true, true, false, false, false] rfl rfl rfl rfl (by kernel_rfl) rfl ⟨[10, 11, 12, 13, 14, 15, 16, 17, 18, 19, 20, 21, 22, 23, 24, 25, 26, 27, 28, 29, 30, 31, 32, 33], by decide, rfl⟩ (qt_rd (rd_extract rfl rfl)) ?_
      refine ga_only 7 #[true, true, true, true, true, true, true, true, false, false] rfl rfl (by kernel_rfl) rfl (.inr ⟨[10, 11, 12, 13, 14, 15, 16, 17, 18, 19, 20, 21, 22, 23, 24, 25, 26, 27, 28, 29, 30, 31, 32, 33], by decide, rfl⟩) (op_alloc ty_44 rfl rfl (fun b6 => ?_))
      refine ga_only 8 #[true, true, true, true, true, true, true, true, true, false] rfl rfl (by kernel_rfl) rfl (.inr ⟨[11, 12, 13, 14, 15, 16, 17, 18, 19, 20, 21, 22, 23, 24, 25, 26, 27, 28, 29, 30, 31, 32, 33, 34], by decide, rfl⟩) (op_storeAgg 0 ty_44 rfl rfl rfl rfl rfl rfl (by rfl) ?_)
      refine ga_only 9 #[true, true, true, true, true, true, true, true, true, true] rfl rfl (by kernel_rfl) rfl (.inr ⟨[11, 12, 13, 14, 15, 16, 17, 18, 19, 20, 21, 22, 23, 24, 25, 26, 27, 28, 29, 30, 31, 32, 33, 34], by decide, rfl⟩) (op_rd rfl (rd_assign rfl) ?_)
      refine ga_end (by kernel_rfl) (.inl (by kernel_rfl)) ?_
      refine gx_then <| gc_seq <| gc_region <| gl_op <| op_rd rfl (rd_move rfl) <| gl_op <| op_rd rfl (rd_lenSlice Tryd.underlying28 rfl) <| gl_op (op_rd rfl (rd_eql rfl rfl) (gk_dec (fun h34 => ?_) (fun h34 => ?_)))
      · refine gl_op <| op_rd rfl (rd_move rfl) <| gl_yes rfl rfl <| op_rd rfl (rd_move rfl) <| gl_yes rfl rfl (op_rd rfl (rd_indexRow1 20 rfl Tryd.underlying28 ty_29 rfl rfl (by omega) (by omega)) ?_)
        refine gl_yes rfl rfl <| op_rd rfl (rd_load Tryd.underlying29 rfl rfl (ld_rowN 20 (off := 0) rfl rfl)) <| gl_yes rfl rfl (op_buildSlice (sz := 1) rfl rfl (fun _ => bs_29_3_0_1_2 _ _ _) rfl rfl (fun b39 => ?_))
        unfold KG.cell
        refine gl_yes rfl rfl (op_call rfl (vf := []) (vc := []) rfl rfl Tryd.call16 (fun w1 ho => sameIntsN_ok g16.ks [36, 48, 60] _ _ _ _ (by rw [hg16]; decide) w1 (ho.rowSl 22 rfl) (ho.rowSl 0 rfl)) ?_)
        rintro _ _ ⟨rfl, rfl⟩
        refine gk_bool (fun h40 => ?_) (fun h40 => ?_)
        · refine gl_op <| op_rd rfl (rd_pick_t rfl rfl) <| gl_op <| op_rd rfl (rd_move rfl) <| gl_yes rfl rfl <| op_rd rfl (rd_move rfl) <| gl_yes rfl rfl (op_buildSlice (sz := 1) rfl rfl (fun _ => bs_29_4_0_1_2_3 _ _ _ _) rfl rfl (fun b44 => ?_))
          refine gl_yes rfl rfl (op_call rfl (vf := []) (vc := []) rfl rfl Tryd.call30 (fun w1 ho => flutes_ok [36, 48, 60, 72] _ _ (by decide) w1 (ho.rowSl 0 rfl)) ?_)
          rintro _ _ ⟨r45, c45, rfl, rfl⟩
          refine gl_yes rfl rfl (op_call rfl (vf := []) (vc := []) rfl rfl Tryd.call29 (fun w1 ho => SamePipes_ok (flutesP [36, 48, 60, 72]) (flutesP [36, 48, 60, 72]) _ _ _ _ (by decide) w1 (ho.rowSl 14 rfl) (ho.rowSl 0 rfl)) ?_)
          rintro _ _ ⟨rfl, rfl⟩
          refine gk_bool (fun h46 => ?_) (fun h46 => ?_)
          · refine gl_op <| op_rd rfl (rd_pick_t rfl rfl) <| gl_op <| op_rd rfl (rd_move rfl) <| gl_yes rfl rfl (op_rd rfl (rd_loadAgg Tryd.underlying44 rfl ty_44 rfl (by exact cs_blk 3 (off := 0) (k := 6) rfl rfl) rfl) ?_)
            refine gl_yes rfl rfl (op_buildSlice (sz := 1) rfl rfl (fun _ => bs_29_2_0_1 _ _) rfl rfl (fun b50 => ?_))
            refine gl_yes rfl rfl (op_rd rfl (rd_build rfl (fun _ => bd_44_1_2_4_5 _ _ _ _ _ _)) ?_)
            refine gl_yes rfl rfl (op_call rfl (vf := []) (vc := []) rfl rfl Tryd.call19 (fun w1 ho => SameReason_ok ⟨0, 36, [0, 3], 0, 60, 1⟩ ⟨0, 36, [0, 3], 0, 60, 1⟩ (rowA r29) (rowA (some b50)) c29 2 (by decide) w1 (ho.rowSl 6 rfl) (ho.rowSl 0 rfl)) ?_)
            rintro _ _ ⟨rfl, rfl⟩
            refine gk_bool (fun h52 => ?_) (fun h52 => ?_)
            · refine gl_op <| op_rd rfl (rd_pick_t rfl rfl) <| gl_op <| op_rd rfl (rd_move rfl) <| gl_yes rfl rfl <| op_rd rfl (rd_move rfl) <| gl_yes rfl rfl (op_rd rfl (rd_eql rfl rfl) (gk_dec (fun h56 => ?_) (fun h56 => ?_)))
              · refine gl_op <| op_rd rfl (rd_pick_t rfl rfl) <| gl_op <| op_rd rfl (rd_move rfl) <| gl_yes rfl rfl <| op_rd rfl (rd_move rfl) <| gl_yes rfl rfl (op_rd rfl (rd_eql rfl rfl) (gk_dec (fun h60 => ?_) (fun h60 => ?_)))
                · refine gl_op <| op_rd rfl (rd_pick_t rfl rfl) <| gl_op <| op_rd rfl (rd_move rfl) <| gl_yes rfl rfl <| op_rd rfl (rd_move rfl) <| gl_yes rfl rfl (op_rd rfl (rd_eql rfl rfl) (gk_dec (fun h64 => ?_) (fun h64 => ?_)))
                  · refine gl_op <| op_rd rfl (rd_pick_t rfl rfl) <| gl_op <| op_rd rfl (rd_assign rfl) <| gl_nil <| gx_then <| gc_ret <| gx_ret1 (.inl rfl) Tryd.results11 rfl [] (by decide) ?_
                    exact ⟨rfl, rfl⟩
                  refine gl_op <| op_rd rfl (rd_pick_t rfl rfl) <| gl_op <| op_rd rfl (rd_assign rfl) <| gl_nil <| gx_then <| gc_ret <| gx_ret1 (.inl rfl) Tryd.results11 rfl [] (by decide) ?_
                  exact absurd rfl h64
                refine gl_op <| op_rd rfl (rd_pick_t rfl rfl) <| gl_op <| op_rd rfl (rd_move rfl) <| gl_no rfl rfl rfl <| gl_no rfl rfl rfl <| gl_op <| op_rd rfl (rd_pick_f rfl rfl) <| gl_op <| op_rd rfl (rd_assign rfl) <| gl_nil <| gx_then <| gc_ret <| gx_ret1 (.inl rfl) Tryd.results11 rfl [] (by decide) ?_
                exact absurd rfl h60
              refine gl_op <| op_rd rfl (rd_pick_t rfl rfl) <| gl_op <| op_rd rfl (rd_move rfl) <| gl_no rfl rfl rfl <| gl_no rfl rfl rfl <| gl_op <| op_rd rfl (rd_pick_f rfl rfl) <| gl_op <| op_rd rfl (rd_move rfl) <| gl_no rfl rfl rfl <| gl_no rfl rfl rfl <| gl_op <| op_rd rfl (rd_pick_f rfl rfl) <| gl_op <| op_rd rfl (rd_assign rfl) <| gl_nil <| gx_then <| gc_ret <| gx_ret1 (.inl rfl) Tryd.results11 rfl [] (by decide) ?_
              exact absurd rfl h56
            refine gl_op <| op_rd rfl (rd_pick_t rfl rfl) <| gl_op <| op_rd rfl (rd_move rfl) <| gl_no rfl rfl rfl <| gl_no rfl rfl rfl <| gl_op <| op_rd rfl (rd_pick_f rfl rfl) <| gl_op <| op_rd rfl (rd_move rfl) <| gl_no rfl rfl rfl <| gl_no rfl rfl rfl <| gl_op <| op_rd rfl (rd_pick_f rfl rfl) <| gl_op <| op_rd rfl (rd_move rfl) <| gl_no rfl rfl rfl <| gl_no rfl rfl rfl <| gl_op <| op_rd rfl (rd_pick_f rfl rfl) <| gl_op <| op_rd rfl (rd_assign rfl) <| gl_nil <| gx_then <| gc_ret <| gx_ret1 (.inl rfl) Tryd.results11 rfl [] (by decide) ?_
            rw [decide_eq_true rfl] at h52; cases h52
          refine gl_op <| op_rd rfl (rd_pick_t rfl rfl) <| gl_op <| op_rd rfl (rd_move rfl) <| gl_no rfl rfl rfl <| gl_no rfl rfl rfl <| gl_no rfl rfl rfl <| gl_no rfl rfl rfl <| gl_op <| op_rd rfl (rd_pick_f rfl rfl) <| gl_op <| op_rd rfl (rd_move rfl) <| gl_no rfl rfl rfl <| gl_no rfl rfl rfl <| gl_op <| op_rd rfl (rd_pick_f rfl rfl) <| gl_op <| op_rd rfl (rd_move rfl) <| gl_no rfl rfl rfl <| gl_no rfl rfl rfl <| gl_op <| op_rd rfl (rd_pick_f rfl rfl) <| gl_op <| op_rd rfl (rd_move rfl) <| gl_no rfl rfl rfl <| gl_no rfl rfl rfl <| gl_op <| op_rd rfl (rd_pick_f rfl rfl) <| gl_op <| op_rd rfl (rd_assign rfl) <| gl_nil <| gx_then <| gc_ret <| gx_ret1 (.inl rfl) Tryd.results11 rfl [] (by decide) ?_
          rw [decide_eq_true rfl] at h46; cases h46
        refine gl_op <| op_rd rfl (rd_pick_t rfl rfl) <| gl_op <| op_rd rfl (rd_move rfl) <| gl_no rfl rfl rfl <| gl_no rfl rfl rfl <| gl_no rfl rfl rfl <| gl_no rfl rfl rfl <| gl_op <| op_rd rfl (rd_pick_f rfl rfl) <| gl_op <| op_rd rfl (rd_move rfl) <| gl_no rfl rfl rfl <| gl_no rfl rfl rfl <| gl_no rfl rfl rfl <| gl_no rfl rfl rfl <| gl_op <| op_rd rfl (rd_pick_f rfl rfl) <| gl_op <| op_rd rfl (rd_move rfl) <| gl_no rfl rfl rfl <| gl_no rfl rfl rfl <| gl_op <| op_rd rfl (rd_pick_f rfl rfl) <| gl_op <| op_rd rfl (rd_move rfl) <| gl_no rfl rfl rfl <| gl_no rfl rfl rfl <| gl_op <| op_rd rfl (rd_pick_f rfl rfl) <| gl_op <| op_rd rfl (rd_move rfl) <| gl_no rfl rfl rfl <| gl_no rfl rfl rfl <| gl_op <| op_rd rfl (rd_pick_f rfl rfl) ?_
        refine gl_op <| op_rd rfl (rd_assign rfl) <| gl_nil <| gx_then <| gc_ret <| gx_ret1 (.inl rfl) Tryd.results11 rfl [] (by decide) ?_
        rw [decide_eq_true hg16] at h40; cases h40
      refine gl_op <| op_rd rfl (rd_move rfl) <| gl_no rfl rfl rfl <| gl_no rfl rfl rfl <| gl_no rfl rfl rfl <| gl_no rfl rfl rfl <| gl_no rfl rfl rfl <| gl_op <| op_rd rfl (rd_pick_f rfl rfl) <| gl_op <| op_rd rfl (rd_move rfl) <| gl_no rfl rfl rfl <| gl_no rfl rfl rfl <| gl_no rfl rfl rfl <| gl_no rfl rfl rfl <| gl_op <| op_rd rfl (rd_pick_f rfl rfl) <| gl_op <| op_rd rfl (rd_move rfl) <| gl_no rfl rfl rfl <| gl_no rfl rfl rfl <| gl_no rfl rfl rfl <| gl_no rfl rfl rfl <| gl_op <| op_rd rfl (rd_pick_f rfl rfl) <| gl_op <| op_rd rfl (rd_move rfl) <| gl_no rfl rfl rfl <| gl_no rfl rfl rfl <| gl_op <| op_rd rfl (rd_pick_f rfl rfl) <| gl_op <| op_rd rfl (rd_move rfl) <| gl_no rfl rfl rfl ?_
      refine gl_no rfl rfl rfl <| gl_op <| op_rd rfl (rd_pick_f rfl rfl) <| gl_op <| op_rd rfl (rd_move rfl) <| gl_no rfl rfl rfl <| gl_no rfl rfl rfl <| gl_op <| op_rd rfl (rd_pick_f rfl rfl) <| gl_op <| op_rd rfl (rd_assign rfl) <| gl_nil <| gx_then <| gc_ret <| gx_ret1 (.inl rfl) Tryd.results11 rfl [] (by decide) ?_
      exact absurd rfl h34
    refine (op_alloc ty_44 rfl rfl (fun b6 => ?_))
    refine ga_only 3 #[true, true, true, true, false, false, false, true, false, false] rfl rfl (by kernel_rfl) rfl (.inr ⟨[9, 10, 11, 12, 13, 14, 15, 16, 17, 18, 19, 20, 21, 22, 23, 24, 25, 26, 27, 28, 29, 30, 31, 32], by decide, rfl⟩) (op_call rfl (vf := []) (vc := []) rfl rfl Tryd.call17 (fun w1 ho => Why_ok (ex12 d26 r26 pa26 pb26 pc26 t26 c26 cc26) (exHN (rowA (some b9)) (rowA (some b8)) (rowA (some b10)) (rowA (some b11))).hd ex_le ex_hle 0 72 w1 (ex_in (ho.rowSl 8 rfl) (ho.rowSl 7 rfl) (ho.rowSl 3 rfl) (ho.rowSl 2 rfl) (ho.rowSl 6 rfl) (ho.rowSl 5 rfl) (ho.rowSl 4 rfl)) (exh_in (ho.rowSl 31 rfl) (ho.rowSl 32 rfl) (ho.rowSl 30 rfl) (ho.rowSl 29 rfl)) (hT.at ho (by decide))) ?_)
    rintro _ _ hq
    obtain ⟨b29, r29, c29, rfl, rfl⟩ := ex_WhyR hq
    refine ga_first 4 #[true, true, true, true, true, false, false, true, false, false] rfl rfl rfl rfl (by kernel_rfl) rfl ⟨[11, 12, 13, 14, 15, 16, 17, 18, 19, 20, 21, 22, 23, 24, 25, 26, 27, 28, 29, 30, 31, 32, 33, 34], by decide, rfl⟩ (qt_rd (rd_move rfl)) ?_
    refine ga_first 5 #[true, true, true, true, true, true, false, true, false, false] rfl rfl rfl rfl (by kernel_rfl) rfl ⟨[11, 12, 13, 14, 15, 16, 17, 18, 19, 20, 21, 22, 23, 24, 25, 26, 27, 28, 29, 30, 31, 32, 33, 34], by decide, rfl⟩ (qt_rd (rd_extract rfl rfl)) ?_
    refine ga_first 6 #[true, true, true, true, true, true, true, true, false, false] rfl rfl rfl rfl (by kernel_rfl) rfl ⟨[11, 12, 13, 14, 15, 16, 17, 18, 19, 20, 21, 22, 23, 24, 25, 26, 27, 28, 29, 30, 31, 32, 33, 34], by decide, rfl⟩ (qt_rd (rd_extract rfl rfl)) ?_
    refine ga_only 8 #[true, true, true, true, true, true, true, true, true, false] rfl rfl (by kernel_rfl) rfl (.inr ⟨[11, 12, 13, 14, 15, 16, 17, 18, 19, 20, 21, 22, 23, 24, 25, 26, 27, 28, 29, 30, 31, 32, 33, 34], by decide, rfl⟩) (op_storeAgg 2 ty_44 rfl rfl rfl rfl rfl rfl (by rfl) ?_)
    refine ga_only 9 #[true, true, true, true, true, true, true, true, true, true] rfl rfl (by kernel_rfl) rfl (.inr ⟨[11, 12, 13, 14, 15, 16, 17, 18, 19, 20, 21, 22, 23, 24, 25, 26, 27, 28, 29, 30, 31, 32, 33, 34], by decide, rfl⟩) (op_rd rfl (rd_assign rfl) ?_)
    refine ga_end (by kernel_rfl) (.inl (by kernel_rfl)) ?_
    refine gx_then <| gc_seq <| gc_region <| gl_op <| op_rd rfl (rd_move rfl) <| gl_op <| op_rd rfl (rd_lenSlice Tryd.underlying28 rfl) <| gl_op (op_rd rfl (rd_eql rfl rfl) (gk_dec (fun h34 => ?_) (fun h34 => ?_)))
    · refine gl_op <| op_rd rfl (rd_move rfl) <| gl_yes rfl rfl <| op_rd rfl (rd_move rfl) <| gl_yes rfl rfl (op_rd rfl (rd_indexRow1 20 rfl Tryd.underlying28 ty_29 rfl rfl (by omega) (by omega)) ?_)
      refine gl_yes rfl rfl <| op_rd rfl (rd_load Tryd.underlying29 rfl rfl (ld_rowN 20 (off := 0) rfl rfl)) <| gl_yes rfl rfl (op_buildSlice (sz := 1) rfl rfl (fun _ => bs_29_3_0_1_2 _ _ _) rfl rfl (fun b39 => ?_))
      unfold KG.cell
      refine gl_yes rfl rfl (op_call rfl (vf := []) (vc := []) rfl rfl Tryd.call16 (fun w1 ho => sameIntsN_ok g16.ks [36, 48, 60] _ _ _ _ (by rw [hg16]; decide) w1 (ho.rowSl 22 rfl) (ho.rowSl 0 rfl)) ?_)
      rintro _ _ ⟨rfl, rfl⟩
      refine gk_bool (fun h40 => ?_) (fun h40 => ?_)
      · refine gl_op <| op_rd rfl (rd_pick_t rfl rfl) <| gl_op <| op_rd rfl (rd_move rfl) <| gl_yes rfl rfl <| op_rd rfl (rd_move rfl) <| gl_yes rfl rfl (op_buildSlice (sz := 1) rfl rfl (fun _ => bs_29_4_0_1_2_3 _ _ _ _) rfl rfl (fun b44 => ?_))
        refine gl_yes rfl rfl (op_call rfl (vf := []) (vc := []) rfl rfl Tryd.call30 (fun w1 ho => flutes_ok [36, 48, 60, 72] _ _ (by decide) w1 (ho.rowSl 0 rfl)) ?_)
        rintro _ _ ⟨r45, c45, rfl, rfl⟩
        refine gl_yes rfl rfl (op_call rfl (vf := []) (vc := []) rfl rfl Tryd.call29 (fun w1 ho => SamePipes_ok (flutesP [36, 48, 60, 72]) (flutesP [36, 48, 60, 72]) _ _ _ _ (by decide) w1 (ho.rowSl 14 rfl) (ho.rowSl 0 rfl)) ?_)
        rintro _ _ ⟨rfl, rfl⟩
        refine gk_bool (fun h46 => ?_) (fun h46 => ?_)
        · refine gl_op <| op_rd rfl (rd_pick_t rfl rfl) <| gl_op <| op_rd rfl (rd_move rfl) <| gl_yes rfl rfl (op_rd rfl (rd_loadAgg Tryd.underlying44 rfl ty_44 rfl (by exact cs_blk 5 (off := 0) (k := 6) rfl rfl) rfl) ?_)
          refine gl_yes rfl rfl (op_buildSlice (sz := 1) rfl rfl (fun _ => bs_29_2_0_1 _ _) rfl rfl (fun b50 => ?_))
          refine gl_yes rfl rfl (op_rd rfl (rd_build rfl (fun _ => bd_44_1_2_4_5 _ _ _ _ _ _)) ?_)
          refine gl_yes rfl rfl (op_call rfl (vf := []) (vc := []) rfl rfl Tryd.call19 (fun w1 ho => SameReason_ok ⟨0, 36, [0, 3], 0, 60, 1⟩ ⟨0, 36, [0, 3], 0, 60, 1⟩ (rowA r29) (rowA (some b50)) c29 2 (by decide) w1 (ho.rowSl 5 rfl) (ho.rowSl 0 rfl)) ?_)
          rintro _ _ ⟨rfl, rfl⟩
          refine gk_bool (fun h52 => ?_) (fun h52 => ?_)
          · refine gl_op <| op_rd rfl (rd_pick_t rfl rfl) <| gl_op <| op_rd rfl (rd_move rfl) <| gl_yes rfl rfl <| op_rd rfl (rd_move rfl) <| gl_yes rfl rfl (op_rd rfl (rd_eql rfl rfl) (gk_dec (fun h56 => ?_) (fun h56 => ?_)))
            · refine gl_op <| op_rd rfl (rd_pick_t rfl rfl) <| gl_op <| op_rd rfl (rd_move rfl) <| gl_yes rfl rfl <| op_rd rfl (rd_move rfl) <| gl_yes rfl rfl (op_rd rfl (rd_eql rfl rfl) (gk_dec (fun h60 => ?_) (fun h60 => ?_)))
              · refine gl_op <| op_rd rfl (rd_pick_t rfl rfl) <| gl_op <| op_rd rfl (rd_move rfl) <| gl_yes rfl rfl <| op_rd rfl (rd_move rfl) <| gl_yes rfl rfl (op_rd rfl (rd_eql rfl rfl) (gk_dec (fun h64 => ?_) (fun h64 => ?_)))
                · refine gl_op <| op_rd rfl (rd_pick_t rfl rfl) <| gl_op <| op_rd rfl (rd_assign rfl) <| gl_nil <| gx_then <| gc_ret <| gx_ret1 (.inl rfl) Tryd.results11 rfl [] (by decide) ?_
                  exact ⟨rfl, rfl⟩
                refine gl_op <| op_rd rfl (rd_pick_t rfl rfl) <| gl_op <| op_rd rfl (rd_assign rfl) <| gl_nil <| gx_then <| gc_ret <| gx_ret1 (.inl rfl) Tryd.results11 rfl [] (by decide) ?_
                exact absurd rfl h64
              refine gl_op <| op_rd rfl (rd_pick_t rfl rfl) <| gl_op <| op_rd rfl (rd_move rfl) <| gl_no rfl rfl rfl <| gl_no rfl rfl rfl <| gl_op <| op_rd rfl (rd_pick_f rfl rfl) <| gl_op <| op_rd rfl (rd_assign rfl) <| gl_nil <| gx_then <| gc_ret <| gx_ret1 (.inl rfl) Tryd.results11 rfl [] (by decide) ?_
              exact absurd rfl h60
            refine gl_op <| op_rd rfl (rd_pick_t rfl rfl) <| gl_op <| op_rd rfl (rd_move rfl) <| gl_no rfl rfl rfl <| gl_no rfl rfl rfl <| gl_op <| op_rd rfl (rd_pick_f rfl rfl) <| gl_op <| op_rd rfl (rd_move rfl) <| gl_no rfl rfl rfl <| gl_no rfl rfl rfl <| gl_op <| op_rd rfl (rd_pick_f rfl rfl) <| gl_op <| op_rd rfl (rd_assign rfl) <| gl_nil <| gx_then <| gc_ret <| gx_ret1 (.inl rfl) Tryd.results11 rfl [] (by decide) ?_
            exact absurd rfl h56
          refine gl_op <| op_rd rfl (rd_pick_t rfl rfl) <| gl_op <| op_rd rfl (rd_move rfl) <| gl_no rfl rfl rfl <| gl_no rfl rfl rfl <| gl_op <| op_rd rfl (rd_pick_f rfl rfl) <| gl_op <| op_rd rfl (rd_move rfl) <| gl_no rfl rfl rfl <| gl_no rfl rfl rfl <| gl_op <| op_rd rfl (rd_pick_f rfl rfl) <| gl_op <| op_rd rfl (rd_move rfl) <| gl_no rfl rfl rfl <| gl_no rfl rfl rfl <| gl_op <| op_rd rfl (rd_pick_f rfl rfl) <| gl_op <| op_rd rfl (rd_assign rfl) <| gl_nil <| gx_then <| gc_ret <| gx_ret1 (.inl rfl) Tryd.results11 rfl [] (by decide) ?_
          rw [decide_eq_true rfl] at h52; cases h52
        refine gl_op <| op_rd rfl (rd_pick_t rfl rfl) <| gl_op <| op_rd rfl (rd_move rfl) <| gl_no rfl rfl rfl <| gl_no rfl rfl rfl <| gl_no rfl rfl rfl <| gl_no rfl rfl rfl <| gl_op <| op_rd rfl (rd_pick_f rfl rfl) <| gl_op <| op_rd rfl (rd_move rfl) <| gl_no rfl rfl rfl <| gl_no rfl rfl rfl <| gl_op <| op_rd rfl (rd_pick_f rfl rfl) <| gl_op <| op_rd rfl (rd_move rfl) <| gl_no rfl rfl rfl <| gl_no rfl rfl rfl <| gl_op <| op_rd rfl (rd_pick_f rfl rfl) <| gl_op <| op_rd rfl (rd_move rfl) <| gl_no rfl rfl rfl <| gl_no rfl rfl rfl <| gl_op <| op_rd rfl (rd_pick_f rfl rfl) <| gl_op <| op_rd rfl (rd_assign rfl) <| gl_nil <| gx_then <| gc_ret <| gx_ret1 (.inl rfl) Tryd.results11 rfl [] (by decide) ?_
        rw [decide_eq_true rfl] at h46; cases h46
      refine gl_op <| op_rd rfl (rd_pick_t rfl rfl) <| gl_op <| op_rd rfl (rd_move rfl) <| gl_no rfl rfl rfl <| gl_no rfl rfl rfl <| gl_no rfl rfl rfl <| gl_no rfl rfl rfl <| gl_op <| op_rd rfl (rd_pick_f rfl rfl) <| gl_op <| op_rd rfl (rd_move rfl) <| gl_no rfl rfl rfl <| gl_no rfl rfl rfl <| gl_no rfl rfl rfl <| gl_no rfl rfl rfl <| gl_op <| op_rd rfl (rd_pick_f rfl rfl) <| gl_op <| op_rd rfl (rd_move rfl) <| gl_no rfl rfl rfl <| gl_no rfl rfl rfl <| gl_op <| op_rd rfl (rd_pick_f rfl rfl) <| gl_op <| op_rd rfl (rd_move rfl) <| gl_no rfl rfl rfl <| gl_no rfl rfl rfl <| gl_op <| op_rd rfl (rd_pick_f rfl rfl) <| gl_op <| op_rd rfl (rd_move rfl) <| gl_no rfl rfl rfl <| gl_no rfl rfl rfl <| gl_op <| op_rd rfl (rd_pick_f rfl rfl) ?_
      refine gl_op <| op_rd rfl (rd_assign rfl) <| gl_nil <| gx_then <| gc_ret <| gx_ret1 (.inl rfl) Tryd.results11 rfl [] (by decide) ?_
      rw [decide_eq_true hg16] at h40; cases h40
    refine gl_op <| op_rd rfl (rd_move rfl) <| gl_no rfl rfl rfl <| gl_no rfl rfl rfl <| gl_no rfl rfl rfl <| gl_no rfl rfl rfl <| gl_no rfl rfl rfl <| gl_op <| op_rd rfl (rd_pick_f rfl rfl) <| gl_op <| op_rd rfl (rd_move rfl) <| gl_no rfl rfl rfl <| gl_no rfl rfl rfl <| gl_no rfl rfl rfl <| gl_no rfl rfl rfl <| gl_op <| op_rd rfl (rd_pick_f rfl rfl) <| gl_op <| op_rd rfl (rd_move rfl) <| gl_no rfl rfl rfl <| gl_no rfl rfl rfl <| gl_no rfl rfl rfl <| gl_no rfl rfl rfl <| gl_op <| op_rd rfl (rd_pick_f rfl rfl) <| gl_op <| op_rd rfl (rd_move rfl) <| gl_no rfl rfl rfl <| gl_no rfl rfl rfl <| gl_op <| op_rd rfl (rd_pick_f rfl rfl) <| gl_op <| op_rd rfl (rd_move rfl) <| gl_no rfl rfl rfl ?_
    refine gl_no rfl rfl rfl <| gl_op <| op_rd rfl (rd_pick_f rfl rfl) <| gl_op <| op_rd rfl (rd_move rfl) <| gl_no rfl rfl rfl <| gl_no rfl rfl rfl <| gl_op <| op_rd rfl (rd_pick_f rfl rfl) <| gl_op <| op_rd rfl (rd_assign rfl) <| gl_nil <| gx_then <| gc_ret <| gx_ret1 (.inl rfl) Tryd.results11 rfl [] (by decide) ?_
    exact absurd rfl h34
  refine (op_alloc ty_44 rfl rfl (fun b6 => ?_))
  refine ga_only 0 #[true, true, true, false, false, false, false, true, false, false] rfl rfl (by kernel_rfl) rfl (.inr ⟨[1, 2, 3, 4, 5, 6, 7, 8, 9, 10, 11, 12, 13, 14, 15, 16, 17, 18, 19, 20, 21, 22, 23, 24], by decide, rfl⟩) (op_call rfl (vf := []) (vc := []) rfl rfl Tryd.call27 (fun w1 ho => ex12_ok w1) ?_)
  rintro _ _ ⟨be26, d26, r26, pa26, pb26, pc26, t26, c26, cc26, rfl, rfl⟩
  refine ga_only 3 #[true, true, true, true, false, false, false, true, false, false] rfl rfl (by kernel_rfl) rfl (.inr ⟨[9, 10, 11, 12, 13, 14, 15, 16, 17, 18, 19, 20, 21, 22, 23, 24, 25, 26, 27, 28, 29, 30, 31, 32], by decide, rfl⟩) (op_call rfl (vf := []) (vc := []) rfl rfl Tryd.call17 (fun w1 ho => Why_ok (ex12 d26 r26 pa26 pb26 pc26 t26 c26 cc26) (exHN (rowA (some b9)) (rowA (some b8)) (rowA (some b10)) (rowA (some b11))).hd ex_le ex_hle 0 72 w1 (ex_in (ho.rowSl 7 rfl) (ho.rowSl 6 rfl) (ho.rowSl 2 rfl) (ho.rowSl 1 rfl) (ho.rowSl 5 rfl) (ho.rowSl 4 rfl) (ho.rowSl 3 rfl)) (exh_in (ho.rowSl 31 rfl) (ho.rowSl 32 rfl) (ho.rowSl 30 rfl) (ho.rowSl 29 rfl)) (hT.at ho (by decide))) ?_)
  rintro _ _ hq
  obtain ⟨b29, r29, c29, rfl, rfl⟩ := ex_WhyR hq
  refine ga_first 4 #[true, true, true, true, true, false, false, true, false, false] rfl rfl rfl rfl (by kernel_rfl) rfl ⟨[11, 12, 13, 14, 15, 16, 17, 18, 19, 20, 21, 22, 23, 24, 25, 26, 27, 28, 29, 30, 31, 32, 33, 34], by decide, rfl⟩ (qt_rd (rd_move rfl)) ?_
  refine ga_first 5 #[true, true, true, true, true, true, false, true, false, false] rfl rfl rfl rfl (by kernel_rfl) rfl ⟨[11, 12, 13, 14, 15, 16, 17, 18, 19, 20, 21, 22, 23, 24, 25, 26, 27, 28, 29, 30, 31, 32, 33, 34], by decide, rfl⟩ (qt_rd (rd_extract rfl rfl)) ?_
  refine ga_first 6 #[true, true, true, true, true, true, true, true, false, false] rfl rfl rfl rfl (by kernel_rfl) rfl ⟨[11, 12, 13, 14, 15, 16, 17, 18, 19, 20, 21, 22, 23, 24, 25, 26, 27, 28, 29, 30, 31, 32, 33, 34], by decide, rfl⟩ (qt_rd (rd_extract rfl rfl)) ?_
  refine ga_only 8 #[true, true, true, true, true, true, true, true, true, false] rfl rfl (by kernel_rfl) rfl (.inr ⟨[11, 12, 13, 14, 15, 16, 17, 18, 19, 20, 21, 22, 23, 24, 25, 26, 27, 28, 29, 30, 31, 32, 33, 34], by decide, rfl⟩) (op_storeAgg 10 ty_44 rfl rfl rfl rfl rfl rfl (by rfl) ?_)
  refine ga_only 9 #[true, true, true, true, true, true, true, true, true, true] rfl rfl (by kernel_rfl) rfl (.inr ⟨[11, 12, 13, 14, 15, 16, 17, 18, 19, 20, 21, 22, 23, 24, 25, 26, 27, 28, 29, 30, 31, 32, 33, 34], by decide, rfl⟩) (op_rd rfl (rd_assign rfl) ?_)
  refine ga_end (by kernel_rfl) (.inl (by kernel_rfl)) ?_
  refine gx_then <| gc_seq <| gc_region <| gl_op <| op_rd rfl (rd_move rfl) <| gl_op <| op_rd rfl (rd_lenSlice Tryd.underlying28 rfl) <| gl_op (op_rd rfl (rd_eql rfl rfl) (gk_dec (fun h34 => ?_) (fun h34 => ?_)))
  · refine gl_op <| op_rd rfl (rd_move rfl) <| gl_yes rfl rfl <| op_rd rfl (rd_move rfl) <| gl_yes rfl rfl (op_rd rfl (rd_indexRow1 20 rfl Tryd.underlying28 ty_29 rfl rfl (by omega) (by omega)) ?_)
    refine gl_yes rfl rfl <| op_rd rfl (rd_load Tryd.underlying29 rfl rfl (ld_rowN 20 (off := 0) rfl rfl)) <| gl_yes rfl rfl (op_buildSlice (sz := 1) rfl rfl (fun _ => bs_29_3_0_1_2 _ _ _) rfl rfl (fun b39 => ?_))
    unfold KG.cell
    refine gl_yes rfl rfl (op_call rfl (vf := []) (vc := []) rfl rfl Tryd.call16 (fun w1 ho => sameIntsN_ok g16.ks [36, 48, 60] _ _ _ _ (by rw [hg16]; decide) w1 (ho.rowSl 22 rfl) (ho.rowSl 0 rfl)) ?_)
    rintro _ _ ⟨rfl, rfl⟩
    refine gk_bool (fun h40 => ?_) (fun h40 => ?_)
    · refine gl_op <| op_rd rfl (rd_pick_t rfl rfl) <| gl_op <| op_rd rfl (rd_move rfl) <| gl_yes rfl rfl <| op_rd rfl (rd_move rfl) <| gl_yes rfl rfl (op_buildSlice (sz := 1) rfl rfl (fun _ => bs_29_4_0_1_2_3 _ _ _ _) rfl rfl (fun b44 => ?_))
      refine gl_yes rfl rfl (op_call rfl (vf := []) (vc := []) rfl rfl Tryd.call30 (fun w1 ho => flutes_ok [36, 48, 60, 72] _ _ (by decide) w1 (ho.rowSl 0 rfl)) ?_)
      rintro _ _ ⟨r45, c45, rfl, rfl⟩
      refine gl_yes rfl rfl (op_call rfl (vf := []) (vc := []) rfl rfl Tryd.call29 (fun w1 ho => SamePipes_ok (flutesP [36, 48, 60, 72]) (flutesP [36, 48, 60, 72]) _ _ _ _ (by decide) w1 (ho.rowSl 14 rfl) (ho.rowSl 0 rfl)) ?_)
      rintro _ _ ⟨rfl, rfl⟩
      refine gk_bool (fun h46 => ?_) (fun h46 => ?_)
      · refine gl_op <| op_rd rfl (rd_pick_t rfl rfl) <| gl_op <| op_rd rfl (rd_move rfl) <| gl_yes rfl rfl (op_rd rfl (rd_loadAgg Tryd.underlying44 rfl ty_44 rfl (by exact cs_blk 13 (off := 0) (k := 6) rfl rfl) rfl) ?_)
        refine gl_yes rfl rfl (op_buildSlice (sz := 1) rfl rfl (fun _ => bs_29_2_0_1 _ _) rfl rfl (fun b50 => ?_))
        refine gl_yes rfl rfl (op_rd rfl (rd_build rfl (fun _ => bd_44_1_2_4_5 _ _ _ _ _ _)) ?_)
        refine gl_yes rfl rfl (op_call rfl (vf := []) (vc := []) rfl rfl Tryd.call19 (fun w1 ho => SameReason_ok ⟨0, 36, [0, 3], 0, 60, 1⟩ ⟨0, 36, [0, 3], 0, 60, 1⟩ (rowA r29) (rowA (some b50)) c29 2 (by decide) w1 (ho.rowSl 5 rfl) (ho.rowSl 0 rfl)) ?_)
        rintro _ _ ⟨rfl, rfl⟩
        refine gk_bool (fun h52 => ?_) (fun h52 => ?_)
        · refine gl_op <| op_rd rfl (rd_pick_t rfl rfl) <| gl_op <| op_rd rfl (rd_move rfl) <| gl_yes rfl rfl <| op_rd rfl (rd_move rfl) <| gl_yes rfl rfl (op_rd rfl (rd_eql rfl rfl) (gk_dec (fun h56 => ?_) (fun h56 => ?_)))
          · refine gl_op <| op_rd rfl (rd_pick_t rfl rfl) <| gl_op <| op_rd rfl (rd_move rfl) <| gl_yes rfl rfl <| op_rd rfl (rd_move rfl) <| gl_yes rfl rfl (op_rd rfl (rd_eql rfl rfl) (gk_dec (fun h60 => ?_) (fun h60 => ?_)))
            · refine gl_op <| op_rd rfl (rd_pick_t rfl rfl) <| gl_op <| op_rd rfl (rd_move rfl) <| gl_yes rfl rfl <| op_rd rfl (rd_move rfl) <| gl_yes rfl rfl (op_rd rfl (rd_eql rfl rfl) (gk_dec (fun h64 => ?_) (fun h64 => ?_)))
              · refine gl_op <| op_rd rfl (rd_pick_t rfl rfl) <| gl_op <| op_rd rfl (rd_assign rfl) <| gl_nil <| gx_then <| gc_ret <| gx_ret1 (.inl rfl) Tryd.results11 rfl [] (by decide) ?_
                exact ⟨rfl, rfl⟩
              refine gl_op <| op_rd rfl (rd_pick_t rfl rfl) <| gl_op <| op_rd rfl (rd_assign rfl) <| gl_nil <| gx_then <| gc_ret <| gx_ret1 (.inl rfl) Tryd.results11 rfl [] (by decide) ?_
              exact absurd rfl h64
            refine gl_op <| op_rd rfl (rd_pick_t rfl rfl) <| gl_op <| op_rd rfl (rd_move rfl) <| gl_no rfl rfl rfl <| gl_no rfl rfl rfl <| gl_op <| op_rd rfl (rd_pick_f rfl rfl) <| gl_op <| op_rd rfl (rd_assign rfl) <| gl_nil <| gx_then <| gc_ret <| gx_ret1 (.inl rfl) Tryd.results11 rfl [] (by decide) ?_
            exact absurd rfl h60
          refine gl_op <| op_rd rfl (rd_pick_t rfl rfl) <| gl_op <| op_rd rfl (rd_move rfl) <| gl_no rfl rfl rfl <| gl_no rfl rfl rfl <| gl_op <| op_rd rfl (rd_pick_f rfl rfl) <| gl_op <| op_rd rfl (rd_move rfl) <| gl_no rfl rfl rfl <| gl_no rfl rfl rfl <| gl_op <| op_rd rfl (rd_pick_f rfl rfl) <| gl_op <| op_rd rfl (rd_assign rfl) <| gl_nil <| gx_then <| gc_ret <| gx_ret1 (.inl rfl) Tryd.results11 rfl [] (by decide) ?_
          exact absurd rfl h56
        refine gl_op <| op_rd rfl (rd_pick_t rfl rfl) <| gl_op <| op_rd rfl (rd_move rfl) <| gl_no rfl rfl rfl <| gl_no rfl rfl rfl <| gl_op <| op_rd rfl (rd_pick_f rfl rfl) <| gl_op <| op_rd rfl (rd_move rfl) <| gl_no rfl rfl rfl <| gl_no rfl rfl rfl <| gl_op <| op_rd rfl (rd_pick_f rfl rfl) <| gl_op <| op_rd rfl (rd_move rfl) <| gl_no rfl rfl rfl <| gl_no rfl rfl rfl <| gl_op <| op_rd rfl (rd_pick_f rfl rfl) <| gl_op <| op_rd rfl (rd_assign rfl) <| gl_nil <| gx_then <| gc_ret <| gx_ret1 (.inl rfl) Tryd.results11 rfl [] (by decide) ?_
        rw [decide_eq_true rfl] at h52; cases h52
      refine gl_op <| op_rd rfl (rd_pick_t rfl rfl) <| gl_op <| op_rd rfl (rd_move rfl) <| gl_no rfl rfl rfl <| gl_no rfl rfl rfl <| gl_no rfl rfl rfl <| gl_no rfl rfl rfl <| gl_op <| op_rd rfl (rd_pick_f rfl rfl) <| gl_op <| op_rd rfl (rd_move rfl) <| gl_no rfl rfl rfl <| gl_no rfl rfl rfl <| gl_op <| op_rd rfl (rd_pick_f rfl rfl) <| gl_op <| op_rd rfl (rd_move rfl) <| gl_no rfl rfl rfl <| gl_no rfl rfl rfl <| gl_op <| op_rd rfl (rd_pick_f rfl rfl) <| gl_op <| op_rd rfl (rd_move rfl) <| gl_no rfl rfl rfl <| gl_no rfl rfl rfl <| gl_op <| op_rd rfl (rd_pick_f rfl rfl) <| gl_op <| op_rd rfl (rd_assign rfl) <| gl_nil <| gx_then <| gc_ret <| gx_ret1 (.inl rfl) Tryd.results11 rfl [] (by decide) ?_
      rw [decide_eq_true rfl] at h46; cases h46
    refine gl_op <| op_rd rfl (rd_pick_t rfl rfl) <| gl_op <| op_rd rfl (rd_move rfl) <| gl_no rfl rfl rfl <| gl_no rfl rfl rfl <| gl_no rfl rfl rfl <| gl_no rfl rfl rfl <| gl_op <| op_rd rfl (rd_pick_f rfl rfl) <| gl_op <| op_rd rfl (rd_move rfl) <| gl_no rfl rfl rfl <| gl_no rfl rfl rfl <| gl_no rfl rfl rfl <| gl_no rfl rfl rfl <| gl_op <| op_rd rfl (rd_pick_f rfl rfl) <| gl_op <| op_rd rfl (rd_move rfl) <| gl_no rfl rfl rfl <| gl_no rfl rfl rfl <| gl_op <| op_rd rfl (rd_pick_f rfl rfl) <| gl_op <| op_rd rfl (rd_move rfl) <| gl_no rfl rfl rfl <| gl_no rfl rfl rfl <| gl_op <| op_rd rfl (rd_pick_f rfl rfl) <| gl_op <| op_rd rfl (rd_move rfl) <| gl_no rfl rfl rfl <| gl_no rfl rfl rfl <| gl_op <| op_rd rfl (rd_pick_f rfl rfl) ?_
    refine gl_op <| op_rd rfl (rd_assign rfl) <| gl_nil <| gx_then <| gc_ret <| gx_ret1 (.inl rfl) Tryd.results11 rfl [] (by decide) ?_
    rw [decide_eq_true hg16] at h40; cases h40
  refine gl_op <| op_rd rfl (rd_move rfl) <| gl_no rfl rfl rfl <| gl_no rfl rfl rfl <| gl_no rfl rfl rfl <| gl_no rfl rfl rfl <| gl_no rfl rfl rfl <| gl_op <| op_rd rfl (rd_pick_f rfl rfl) <| gl_op <| op_rd rfl (rd_move rfl) <| gl_no rfl rfl rfl <| gl_no rfl rfl rfl <| gl_no rfl rfl rfl <| gl_no rfl rfl rfl <| gl_op <| op_rd rfl (rd_pick_f rfl rfl) <| gl_op <| op_rd rfl (rd_move rfl) <| gl_no rfl rfl rfl <| gl_no rfl rfl rfl <| gl_no rfl rfl rfl <| gl_no rfl rfl rfl <| gl_op <| op_rd rfl (rd_pick_f rfl rfl) <| gl_op <| op_rd rfl (rd_move rfl) <| gl_no rfl rfl rfl <| gl_no rfl rfl rfl <| gl_op <| op_rd rfl (rd_pick_f rfl rfl) <| gl_op <| op_rd rfl (rd_move rfl) <| gl_no rfl rfl rfl ?_
  refine gl_no rfl rfl rfl <| gl_op <| op_rd rfl (rd_pick_f rfl rfl) <| gl_op <| op_rd rfl (rd_move rfl) <| gl_no rfl rfl rfl <| gl_no rfl rfl rfl <| gl_op <| op_rd rfl (rd_pick_f rfl rfl) <| gl_op <| op_rd rfl (rd_assign rfl) <| gl_nil <| gx_then <| gc_ret <| gx_ret1 (.inl rfl) Tryd.results11 rfl [] (by decide) ?_
  exact absurd rfl h34
end Go.Proofs.YtbjijbbkfgcleaaDoor
namespace Go.Proofs.YtbjijbbkfgcleaaDoor
open Go.Gv
open Go.RowKit
open Go.Sn
open Sx
end Go.Proofs.YtbjijbbkfgcleaaDoor
namespace Go.Proofs.YtbjijbbkfgcleaaDoor
open Go.Gv
open Go.RowKit
open Go.Sn
open Go.Deep Go.ChangeShapes Go.WideShapes
namespace Sx
section
variable {H : Type} {enc : TypeId × Value → H} {W : World} {base : Nat} {sp : Nat → Bool} {held : Bool}
theorem openFeet {n : Nat} {u v : Value} {x : DataW H × List MemPlace} (h : DataW.trod enc Tryd.prog W base sp held n 54 [u, v] = some x) (hw : ∀ b ∈ x.1.weights Tryd.prog 54, b ≤ reachBytes) : ∃ p q : Int, [u, v] = [.int .i64 p, .int .i64 q] := by
  obtain ⟨k, hl, hf⟩ := fld Tryd.underlying54 h hw
  obtain ⟨y0, t0, _⟩ := hf 0 _ 1 rfl (by kernel_rfl)
  obtain ⟨y1, t1, _⟩ := hf 1 _ 1 rfl (by kernel_rfl)
  obtain ⟨p, rfl⟩ := leafI Tryd.underlying3 (show DataW.trod enc Tryd.prog W base sp held k 3 [u] = some y0 from t0)
  obtain ⟨q, rfl⟩ := leafI Tryd.underlying3 (show DataW.trod enc Tryd.prog W base sp held k 3 [v] = some y1 from t1)
  exact ⟨p, q, rfl⟩
theorem openDv {n : Nat} {cs : List Value} {x : DataW H × List MemPlace} (h : DataW.trod enc Tryd.prog W base sp held n 65 cs = some x) (hw : ∀ b ∈ x.1.weights Tryd.prog 65, b ≤ reachBytes) : ∃ g : Dv, cs = g.cells ∧ g.name.size ≤ 140737488355328 := by
  obtain ⟨k, hl, hf⟩ := fld Tryd.underlying65 h hw
  rw [show Tryd.prog.cellsOf 65 = 3 by kernel_rfl] at hl
  obtain ⟨u0, u1, u2, rfl⟩ := len3 hl
  obtain ⟨y0, t0, w0⟩ := hf 0 _ 1 rfl (by kernel_rfl)
  replace t0 : DataW.trod enc Tryd.prog W base sp held k 9 [u0] = some y0 := t0
  obtain ⟨z0, rfl, b0⟩ := leafS Tryd.underlying9 t0 w0
  obtain ⟨y1, t1, w1⟩ := hf 1 _ 1 rfl (by kernel_rfl)
  replace t1 : DataW.trod enc Tryd.prog W base sp held k 3 [u1] = some y1 := t1
  obtain ⟨z1, rfl⟩ := leafI Tryd.underlying3 t1
  obtain ⟨y2, t2, w2⟩ := hf 2 _ 1 rfl (by kernel_rfl)
  replace t2 : DataW.trod enc Tryd.prog W base sp held k 3 [u2] = some y2 := t2
  obtain ⟨z2, rfl⟩ := leafI Tryd.underlying3 t2
  exact ⟨⟨z0, z1, z2⟩, rfl, b0⟩
theorem openRk {n : Nat} {cs : List Value} {x : DataW H × List MemPlace} (h : DataW.trod enc Tryd.prog W base sp held n 81 cs = some x) (hw : ∀ b ∈ x.1.weights Tryd.prog 81, b ≤ reachBytes) : ∃ g : Rk, cs = g.cells ∧ g.name.size ≤ 140737488355328 := by
  obtain ⟨k, hl, hf⟩ := fld Tryd.underlying81 h hw
  rw [show Tryd.prog.cellsOf 81 = 6 by kernel_rfl] at hl
  obtain ⟨u0, u1, u2, u3, u4, u5, rfl⟩ := len6 hl
  obtain ⟨y0, t0, w0⟩ := hf 0 _ 1 rfl (by kernel_rfl)
  replace t0 : DataW.trod enc Tryd.prog W base sp held k 9 [u0] = some y0 := t0
  obtain ⟨z0, rfl, b0⟩ := leafS Tryd.underlying9 t0 w0
  obtain ⟨y1, t1, w1⟩ := hf 1 _ 1 rfl (by kernel_rfl)
  replace t1 : DataW.trod enc Tryd.prog W base sp held k 3 [u1] = some y1 := t1
  obtain ⟨z1, rfl⟩ := leafI Tryd.underlying3 t1
  obtain ⟨y2, t2, w2⟩ := hf 2 _ 2 rfl (by kernel_rfl)
  replace t2 : DataW.trod enc Tryd.prog W base sp held k 54 [u2, u3] = some y2 := t2
  obtain ⟨p2, q2, e2⟩ := openFeet t2 w2
  simp only [List.cons.injEq, and_true] at e2
  obtain ⟨rfl, rfl⟩ := e2
  obtain ⟨y3, t3, w3⟩ := hf 3 _ 1 rfl (by kernel_rfl)
  replace t3 : DataW.trod enc Tryd.prog W base sp held k 3 [u4] = some y3 := t3
  obtain ⟨z3, rfl⟩ := leafI Tryd.underlying3 t3
  obtain ⟨y4, t4, w4⟩ := hf 4 _ 1 rfl (by kernel_rfl)
  replace t4 : DataW.trod enc Tryd.prog W base sp held k 3 [u5] = some y4 := t4
  obtain ⟨z4, rfl⟩ := leafI Tryd.underlying3 t4
  exact ⟨⟨z0, z1, p2, q2, z3, z4⟩, rfl, b0⟩
theorem openPt {n : Nat} {cs : List Value} {x : DataW H × List MemPlace} (h : DataW.trod enc Tryd.prog W base sp held n 107 cs = some x) (hw : ∀ b ∈ x.1.weights Tryd.prog 107, b ≤ reachBytes) : ∃ g : Pt, cs = g.cells ∧ True := by
  obtain ⟨k, hl, hf⟩ := fld Tryd.underlying107 h hw
  rw [show Tryd.prog.cellsOf 107 = 4 by kernel_rfl] at hl
  obtain ⟨u0, u1, u2, u3, rfl⟩ := len4 hl
  obtain ⟨y0, t0, w0⟩ := hf 0 _ 1 rfl (by kernel_rfl)
  replace t0 : DataW.trod enc Tryd.prog W base sp held k 3 [u0] = some y0 := t0
  obtain ⟨z0, rfl⟩ := leafI Tryd.underlying3 t0
  obtain ⟨y1, t1, w1⟩ := hf 1 _ 1 rfl (by kernel_rfl)
  replace t1 : DataW.trod enc Tryd.prog W base sp held k 3 [u1] = some y1 := t1
  obtain ⟨z1, rfl⟩ := leafI Tryd.underlying3 t1
  obtain ⟨y2, t2, w2⟩ := hf 2 _ 1 rfl (by kernel_rfl)
  replace t2 : DataW.trod enc Tryd.prog W base sp held k 3 [u2] = some y2 := t2
  obtain ⟨z2, rfl⟩ := leafI Tryd.underlying3 t2
  obtain ⟨y3, t3, w3⟩ := hf 3 _ 1 rfl (by kernel_rfl)
  replace t3 : DataW.trod enc Tryd.prog W base sp held k 3 [u3] = some y3 := t3
  obtain ⟨z3, rfl⟩ := leafI Tryd.underlying3 t3
  exact ⟨⟨z0, z1, z2, z3⟩, rfl, trivial⟩
theorem openPts {n : Nat} {cs : List Value} {x : DataW H × List MemPlace} (h : DataW.trod enc Tryd.prog W base sp held n 55 cs = some x) (hw : ∀ b ∈ x.1.weights Tryd.prog 55, b ≤ reachBytes) :
    ∃ (a : Option Addr) (gs : List Pt) (cp : Nat), cs = [.slice a gs.length cp] ∧ OldSl W [] a gs.length 4 (gs.flatMap Pt.cells) ∧ gs.length ≤ 140737488355328 ∧ gs.length ≤ cp ∧ ∀ g ∈ gs, (fun _ => True) g :=
  openSlW Pt.cells (fun _ => True) 4 55 107 32 (fun _ => rfl) (by decide) Tryd.underlying55 (by kernel_rfl) (by kernel_rfl) (by decide) (fun n cs x h hw => openPt h hw) h hw
def StG (W : World) (g : St) : Prop := g.name.size ≤ 140737488355328 ∧ OldSl W [] g.pa g.ps.length 4 (g.ps.flatMap Pt.cells) ∧ g.ps.length ≤ 140737488355328 ∧ g.ps.length ≤ g.pc
theorem openSt {n : Nat} {cs : List Value} {x : DataW H × List MemPlace} (h : DataW.trod enc Tryd.prog W base sp held n 57 cs = some x) (hw : ∀ b ∈ x.1.weights Tryd.prog 57, b ≤ reachBytes) : ∃ g : St, cs = g.cells ∧ StG W g := by
  obtain ⟨k, hl, hf⟩ := fld Tryd.underlying57 h hw
  rw [show Tryd.prog.cellsOf 57 = 5 by kernel_rfl] at hl
  obtain ⟨u0, u1, u2, u3, u4, rfl⟩ := len5 hl
  obtain ⟨y0, t0, w0⟩ := hf 0 _ 1 rfl (by kernel_rfl)
  replace t0 : DataW.trod enc Tryd.prog W base sp held k 9 [u0] = some y0 := t0
  obtain ⟨z0, rfl, b0⟩ := leafS Tryd.underlying9 t0 w0
  obtain ⟨y1, t1, w1⟩ := hf 1 _ 1 rfl (by kernel_rfl)
  replace t1 : DataW.trod enc Tryd.prog W base sp held k 3 [u1] = some y1 := t1
  obtain ⟨z1, rfl⟩ := leafI Tryd.underlying3 t1
  obtain ⟨y2, t2, w2⟩ := hf 2 _ 2 rfl (by kernel_rfl)
  replace t2 : DataW.trod enc Tryd.prog W base sp held k 54 [u2, u3] = some y2 := t2
  obtain ⟨p2, q2, e2⟩ := openFeet t2 w2
  simp only [List.cons.injEq, and_true] at e2
  obtain ⟨rfl, rfl⟩ := e2
  obtain ⟨y3, t3, w3⟩ := hf 3 _ 1 rfl (by kernel_rfl)
  replace t3 : DataW.trod enc Tryd.prog W base sp held k 55 [u4] = some y3 := t3
  obtain ⟨a3, l3, c3, e3, s3, m3, o3, g3⟩ := openPts t3 w3
  simp only [List.cons.injEq, and_true] at e3
  subst e3
  exact ⟨⟨z0, z1, p2, q2, a3, c3, l3⟩, rfl, b0, s3, m3, o3⟩
theorem openCp {n : Nat} {cs : List Value} {x : DataW H × List MemPlace} (h : DataW.trod enc Tryd.prog W base sp held n 67 cs = some x) (hw : ∀ b ∈ x.1.weights Tryd.prog 67, b ≤ reachBytes) : ∃ g : Cp, cs = g.cells ∧ g.name.size ≤ 140737488355328 := by
  obtain ⟨k, hl, hf⟩ := fld Tryd.underlying67 h hw
  rw [show Tryd.prog.cellsOf 67 = 6 by kernel_rfl] at hl
  obtain ⟨u0, u1, u2, u3, u4, u5, rfl⟩ := len6 hl
  obtain ⟨y0, t0, w0⟩ := hf 0 _ 1 rfl (by kernel_rfl)
  replace t0 : DataW.trod enc Tryd.prog W base sp held k 9 [u0] = some y0 := t0
  obtain ⟨z0, rfl, b0⟩ := leafS Tryd.underlying9 t0 w0
  obtain ⟨y1, t1, w1⟩ := hf 1 _ 1 rfl (by kernel_rfl)
  replace t1 : DataW.trod enc Tryd.prog W base sp held k 3 [u1] = some y1 := t1
  obtain ⟨z1, rfl⟩ := leafI Tryd.underlying3 t1
  obtain ⟨y2, t2, w2⟩ := hf 2 _ 1 rfl (by kernel_rfl)
  replace t2 : DataW.trod enc Tryd.prog W base sp held k 3 [u2] = some y2 := t2
  obtain ⟨z2, rfl⟩ := leafI Tryd.underlying3 t2
  obtain ⟨y3, t3, w3⟩ := hf 3 _ 1 rfl (by kernel_rfl)
  replace t3 : DataW.trod enc Tryd.prog W base sp held k 3 [u3] = some y3 := t3
  obtain ⟨z3, rfl⟩ := leafI Tryd.underlying3 t3
  obtain ⟨y4, t4, w4⟩ := hf 4 _ 1 rfl (by kernel_rfl)
  replace t4 : DataW.trod enc Tryd.prog W base sp held k 3 [u4] = some y4 := t4
  obtain ⟨z4, rfl⟩ := leafI Tryd.underlying3 t4
  obtain ⟨y5, t5, w5⟩ := hf 5 _ 1 rfl (by kernel_rfl)
  replace t5 : DataW.trod enc Tryd.prog W base sp held k 4 [u5] = some y5 := t5
  obtain ⟨z5, rfl⟩ := leafB Tryd.underlying4 t5
  exact ⟨⟨z0, z1, z2, z3, z4, z5⟩, rfl, b0⟩
theorem openDvs {n : Nat} {cs : List Value} {x : DataW H × List MemPlace} (h : DataW.trod enc Tryd.prog W base sp held n 22 cs = some x) (hw : ∀ b ∈ x.1.weights Tryd.prog 22, b ≤ reachBytes) :
    ∃ (a : Option Addr) (gs : List Dv) (cp : Nat), cs = [.slice a gs.length cp] ∧ OldSl W [] a gs.length 3 (gs.flatMap Dv.cells) ∧ gs.length ≤ 140737488355328 ∧ gs.length ≤ cp ∧ ∀ g ∈ gs, (fun g : Dv => g.name.size ≤ 140737488355328) g :=
  openSlW Dv.cells (fun g : Dv => g.name.size ≤ 140737488355328) 3 22 65 32 (fun _ => rfl) (by decide) Tryd.underlying22 (by kernel_rfl) (by kernel_rfl) (by decide) (fun n cs x h hw => openDv h hw) h hw
theorem openRks {n : Nat} {cs : List Value} {x : DataW H × List MemPlace} (h : DataW.trod enc Tryd.prog W base sp held n 23 cs = some x) (hw : ∀ b ∈ x.1.weights Tryd.prog 23, b ≤ reachBytes) :
    ∃ (a : Option Addr) (gs : List Rk) (cp : Nat), cs = [.slice a gs.length cp] ∧ OldSl W [] a gs.length 6 (gs.flatMap Rk.cells) ∧ gs.length ≤ 140737488355328 ∧ gs.length ≤ cp ∧ ∀ g ∈ gs, (fun g : Rk => g.name.size ≤ 140737488355328) g :=
  openSlW Rk.cells (fun g : Rk => g.name.size ≤ 140737488355328) 6 23 81 56 (fun _ => rfl) (by decide) Tryd.underlying23 (by kernel_rfl) (by kernel_rfl) (by decide) (fun n cs x h hw => openRk h hw) h hw
theorem openSts {n : Nat} {cs : List Value} {x : DataW H × List MemPlace} (h : DataW.trod enc Tryd.prog W base sp held n 24 cs = some x) (hw : ∀ b ∈ x.1.weights Tryd.prog 24, b ≤ reachBytes) :
    ∃ (a : Option Addr) (gs : List St) (cp : Nat), cs = [.slice a gs.length cp] ∧ OldSl W [] a gs.length 5 (gs.flatMap St.cells) ∧ gs.length ≤ 140737488355328 ∧ gs.length ≤ cp ∧ ∀ g ∈ gs, (StG W) g :=
  openSlW St.cells (StG W) 5 24 57 64 (fun _ => rfl) (by decide) Tryd.underlying24 (by kernel_rfl) (by kernel_rfl) (by decide) (fun n cs x h hw => openSt h hw) h hw
theorem openCps {n : Nat} {cs : List Value} {x : DataW H × List MemPlace} (h : DataW.trod enc Tryd.prog W base sp held n 25 cs = some x) (hw : ∀ b ∈ x.1.weights Tryd.prog 25, b ≤ reachBytes) :
    ∃ (a : Option Addr) (gs : List Cp) (cp : Nat), cs = [.slice a gs.length cp] ∧ OldSl W [] a gs.length 6 (gs.flatMap Cp.cells) ∧ gs.length ≤ 140737488355328 ∧ gs.length ≤ cp ∧ ∀ g ∈ gs, (fun g : Cp => g.name.size ≤ 140737488355328) g :=
  openSlW Cp.cells (fun g : Cp => g.name.size ≤ 140737488355328) 6 25 67 56 (fun _ => rfl) (by decide) Tryd.underlying25 (by kernel_rfl) (by kernel_rfl) (by decide) (fun n cs x h hw => openCp h hw) h hw
theorem openOrg {n : Nat} {cs : List Value} {x : DataW H × List MemPlace} (h : DataW.trod enc Tryd.prog W base sp held n 27 cs = some x) (hw : ∀ b ∈ x.1.weights Tryd.prog 27, b ≤ reachBytes) : ∃ g : Org, cs = g.cells ∧ OrgIn g W [] ∧ OrgLe g := by
  obtain ⟨k, hl, hf⟩ := fld Tryd.underlying27 h hw
  rw [show Tryd.prog.cellsOf 27 = 4 by kernel_rfl] at hl
  obtain ⟨u0, u1, u2, u3, rfl⟩ := len4 hl
  obtain ⟨y0, t0, w0⟩ := hf 0 _ 1 rfl (by kernel_rfl)
  replace t0 : DataW.trod enc Tryd.prog W base sp held k 22 [u0] = some y0 := t0
  obtain ⟨a0, l0, c0, e0, s0, m0, o0, g0⟩ := openDvs t0 w0
  simp only [List.cons.injEq, and_true] at e0
  subst e0
  obtain ⟨y1, t1, w1⟩ := hf 1 _ 1 rfl (by kernel_rfl)
  replace t1 : DataW.trod enc Tryd.prog W base sp held k 23 [u1] = some y1 := t1
  obtain ⟨a1, l1, c1, e1, s1, m1, o1, g1⟩ := openRks t1 w1
  simp only [List.cons.injEq, and_true] at e1
  subst e1
  obtain ⟨y2, t2, w2⟩ := hf 2 _ 1 rfl (by kernel_rfl)
  replace t2 : DataW.trod enc Tryd.prog W base sp held k 24 [u2] = some y2 := t2
  obtain ⟨a2, l2, c2, e2, s2, m2, o2, g2⟩ := openSts t2 w2
  simp only [List.cons.injEq, and_true] at e2
  subst e2
  obtain ⟨y3, t3, w3⟩ := hf 3 _ 1 rfl (by kernel_rfl)
  replace t3 : DataW.trod enc Tryd.prog W base sp held k 25 [u3] = some y3 := t3
  obtain ⟨a3, l3, c3, e3, s3, m3, o3, g3⟩ := openCps t3 w3
  simp only [List.cons.injEq, and_true] at e3
  subst e3
  exact ⟨⟨a0, c0, l0, a1, c1, l1, a2, c2, l2, a3, c3, l3⟩, rfl, ⟨s0, s1, s2, s3, fun x hx => (g2 x hx).2.1⟩, ⟨m0, m1, m2, m3, fun x hx => (g2 x hx).2.2.1, fun x hx => (g2 x hx).2.2.2, g0, g1, fun x hx => (g2 x hx).1, g3⟩⟩
theorem openIntsW {n : Nat} {cs : List Value} {x : DataW H × List MemPlace} (h : DataW.trod enc Tryd.prog W base sp held n 29 cs = some x) (hw : ∀ b ∈ x.1.weights Tryd.prog 29, b ≤ reachBytes) :
    ∃ (a : Option Addr) (gs : List Int) (cp : Nat), cs = [.slice a gs.length cp] ∧ OldSl W [] a gs.length 1 (gs.flatMap (fun z : Int => [intV z])) ∧ gs.length ≤ 140737488355328 ∧ gs.length ≤ cp ∧ ∀ g ∈ gs, (fun _ => True) g :=
  openSlW (fun z : Int => [intV z]) (fun _ => True) 1 29 3 8 (fun _ => rfl) (by decide) Tryd.underlying29 (by kernel_rfl) (by kernel_rfl) (by decide) (fun n cs x h hw => by
    obtain ⟨z, e, _⟩ := DataW.trod_int Tryd.underlying3 h
    exact ⟨z, e, trivial⟩) h hw
def KRG (W : World) (g : KR) : Prop := OldSl W [] g.a g.ks.length 1 (g.ks.map intV) ∧ g.ks.length ≤ 140737488355328 ∧ g.ks.length ≤ g.c
theorem openKRs {n : Nat} {cs : List Value} {x : DataW H × List MemPlace} (h : DataW.trod enc Tryd.prog W base sp held n 28 cs = some x) (hw : ∀ b ∈ x.1.weights Tryd.prog 28, b ≤ reachBytes) :
    ∃ (a : Option Addr) (gs : List KR) (cp : Nat), cs = [.slice a gs.length cp] ∧ OldSl W [] a gs.length 1 (gs.flatMap (fun g : KR => [g.cell])) ∧ gs.length ≤ 140737488355328 ∧ gs.length ≤ cp ∧ ∀ g ∈ gs, (KRG W) g :=
  openSlW (fun g : KR => [g.cell]) (KRG W) 1 28 29 24 (fun _ => rfl) (by decide) Tryd.underlying28 (by kernel_rfl) (by kernel_rfl) (by decide) (fun n cs x h hw => by
    obtain ⟨a, gs, cp, rfl, h1, h2, h3, _⟩ := openIntsW h hw
    rw [flat_one intV] at h1
    exact ⟨⟨a, cp, gs⟩, rfl, h1, h2, h3⟩) h hw
theorem openHd {n : Nat} {cs : List Value} {x : DataW H × List MemPlace} (h : DataW.trod enc Tryd.prog W base sp held n 31 cs = some x) (hw : ∀ b ∈ x.1.weights Tryd.prog 31, b ≤ reachBytes) : ∃ g : Hd, cs = g.cells ∧ HdIn g W [] ∧ HdLe g := by
  obtain ⟨k, hl, hf⟩ := fld Tryd.underlying31 h hw
  rw [show Tryd.prog.cellsOf 31 = 3 by kernel_rfl] at hl
  obtain ⟨u0, u1, u2, rfl⟩ := len3 hl
  obtain ⟨y0, t0, w0⟩ := hf 0 _ 1 rfl (by kernel_rfl)
  replace t0 : DataW.trod enc Tryd.prog W base sp held k 28 [u0] = some y0 := t0
  obtain ⟨a0, l0, c0, e0, s0, m0, o0, g0⟩ := openKRs t0 w0
  simp only [List.cons.injEq, and_true] at e0
  subst e0
  obtain ⟨y1, t1, w1⟩ := hf 1 _ 1 rfl (by kernel_rfl)
  replace t1 : DataW.trod enc Tryd.prog W base sp held k 29 [u1] = some y1 := t1
  obtain ⟨a1, l1, c1, e1, s1, m1, o1, g1⟩ := openIntsW t1 w1
  simp only [List.cons.injEq, and_true] at e1
  subst e1
  obtain ⟨y2, t2, w2⟩ := hf 2 _ 1 rfl (by kernel_rfl)
  replace t2 : DataW.trod enc Tryd.prog W base sp held k 29 [u2] = some y2 := t2
  obtain ⟨a2, l2, c2, e2, s2, m2, o2, g2⟩ := openIntsW t2 w2
  simp only [List.cons.injEq, and_true] at e2
  subst e2
  exact ⟨⟨a0, c0, l0, a1, c1, l1, a2, c2, l2⟩, rfl, ⟨by rw [← flat_one KR.cell]; exact s0, fun x hx => (g0 x hx).1, by rw [← flat_one intV]; exact s1, by rw [← flat_one intV]; exact s2⟩, ⟨m0, fun x hx => (g0 x hx).2.1, fun x hx => (g0 x hx).2.2, m1, m2⟩⟩
theorem openPi {n : Nat} {cs : List Value} {x : DataW H × List MemPlace} (h : DataW.trod enc Tryd.prog W base sp held n 42 cs = some x) (hw : ∀ b ∈ x.1.weights Tryd.prog 42, b ≤ reachBytes) : ∃ r0 p0 : Int, cs = [.int .i64 r0, .int .i64 p0] := by
  obtain ⟨k, hl, hf⟩ := fld Tryd.underlying42 h hw
  rw [show Tryd.prog.cellsOf 42 = 2 by kernel_rfl] at hl
  obtain ⟨u, v, rfl⟩ := len2 hl
  obtain ⟨y0, t0, _⟩ := hf 0 _ 1 rfl (by kernel_rfl)
  obtain ⟨y1, t1, _⟩ := hf 1 _ 1 rfl (by kernel_rfl)
  obtain ⟨p, rfl⟩ := leafI Tryd.underlying3 (show DataW.trod enc Tryd.prog W base sp held k 3 [u] = some y0 from t0)
  obtain ⟨q, rfl⟩ := leafI Tryd.underlying3 (show DataW.trod enc Tryd.prog W base sp held k 3 [v] = some y1 from t1)
  exact ⟨p, q, rfl⟩
end
end Sx
end Go.Proofs.YtbjijbbkfgcleaaDoor
namespace Go.Proofs.YtbjijbbkfgcleaaDoor
open Go.Gv
open Go.RowKit
open Go.Sn
open Go.ChangeShapes Go.WideShapes Go.ChangeAt Go.WideMaps Go.WideElems
namespace Sx
theorem tryLaid : laidOutB Tryd.prog = true := by kernel_rfl
theorem tryOwn : ownKnob Tryd.prog.godebug = none := by kernel_rfl
theorem stays {H : Type} {enc : TypeId × Value → H} {W W' : World} (hb : Below W.heap.size W W') {sp : Nat → Bool} : ∀ {ts : List TypeId} {vs : List Value} {ds : List (DataW H)} {p : List MemPlace},
    DataW.TrodAll enc Tryd.prog W 0 (fun _ => true) true ts vs ds p → (∀ t ∈ ts, Tryd.prog.readableRec t = true ∧ t < Tryd.prog.types.size) → (∀ x ∈ p, x.block < W.heap.size) → (∀ x ∈ p, sp x.block = true) → DataW.TrodAll enc Tryd.prog W' 0 sp true ts vs ds p
  | [], _, _, _, h, _, _, _ => by
    obtain ⟨rfl, rfl, rfl⟩ := trodAll_nil h
    exact h
  | t :: ts, _, _, _, h, hr, hlt, hsp => by
    obtain ⟨v, vs1, d, ds1, a, b, rfl, rfl, rfl, h1, h2⟩ := trodAll_cons h
    have hr1 := hr t (by simp)
    exact ⟨a, b, WideElems.Trod_stays tryLaid hr1.1 hr1.2 h1 (fun x hx => hb.same (hlt x (List.mem_append_left _ hx))) (fun x hx => hsp x (List.mem_append_left _ hx)),
      stays hb h2 (fun u hu => hr u (List.mem_cons_of_mem _ hu)) (fun x hx => hlt x (List.mem_append_right _ hx)) (fun x hx => hsp x (List.mem_append_right _ hx)), rfl⟩
set_option maxRecDepth 100000 in
/-- the law's row: it returned true, and nothing that was there has turned -/
theorem law_post {H : Type} {enc : TypeId × Value → H} {f : Func} {s : ChangeSpec} {fresh handsOn again : Bool} {W W' : World} {args : Array Value} {ds gs : List (DataW H)} {before : List MemPlace}
    (hW : DataW.Whole enc Tryd.prog f.params.toList s.vars false W args.toList ds gs before) (hv : s.vars = []) (hb : Below W.heap.size W W')
    (hrt : f.resultTypes = #[4]) (hres : (s.fn H ds).results = [.lit (.bool true)]) (hargs : (s.fn H ds).args = ds) (hvars : (s.fn H ds).vars = []) (hr : ∀ t ∈ f.params.toList, Tryd.prog.readableRec t = true ∧ t < Tryd.prog.types.size) :
    s.post enc Tryd.prog f false fresh handsOn again W args (.bool true) W' := by
  have hlt : ∀ x ∈ before, x.block < W.heap.size := fun x hx => by simpa using hW.lt x hx
  have hW0 := hW
  obtain ⟨p, q, hA, hV, rfl, hz, hn⟩ := hW
  rw [hv] at hV
  obtain ⟨rfl, rfl⟩ := trodVars_none hV
  simp only [List.append_nil] at hz hlt hW0
  have hR : ∀ (b : Nat) (sp : Nat → Bool) (hd : Bool), DataW.TrodAll enc Tryd.prog W' b sp hd f.resultTypes.toList ((Value.bool true).resultList f.resultTypes.size) (s.fn H (ds ++ [])).results [] := fun b sp hd => by
    rw [List.append_nil, hres, hrt]
    exact trodAll_cons_mk (shut_bool Tryd.underlying4 _) trodAll_mk0
  have hA' : ∀ sp : Nat → Bool, (∀ x ∈ p, sp x.block = true) → DataW.TrodAll enc Tryd.prog W' 0 sp true f.params.toList args.toList (s.fn H (ds ++ [])).args p := fun sp hsp => by
    rw [List.append_nil, hargs]; exact stays hb hA hr hlt hsp
  have hVv : ∀ sp : Nat → Bool, DataW.TrodVars enc Tryd.prog W' sp s.vars (s.fn H (ds ++ [])).vars [] := fun sp => by
    rw [List.append_nil, hv, hvars]; rfl
  have hok : ∀ (j : Nat) (t : TypeId) (r : Value), f.resultTypes[j]? = some t → ((Value.bool true).resultList f.resultTypes.size)[j]? = some r → Value.okWide Tryd.prog W' .any 0 t r := ok_one hrt rfl (okWide_bool_mk Tryd.underlying4 _)
  refine ⟨ds, [], p, [], p, [], hW0, hR _ _ _, hA' _ (fun x hx => by simpa using hlt x hx), hVv _, World.keptBut_mono (fun x hx => ⟨hx, .inr (by simpa using hx)⟩) (hb.frame _), fun _ => ?_⟩
  refine ⟨hok, _, _, ([] ++ p) ++ [], ⟨[] ++ p, [], trodAll_append (hA' (fun _ => true) (fun _ _ => rfl)) (hR _ _ _), hVv _, rfl, ?_, fun h => by cases h⟩, ?_⟩
  · intro b off hp
    have hp' : MemPlace.cell b off ∈ p := by simpa using hp
    rw [hb.frozen (p := ⟨b, off, none⟩) (hlt _ hp')]
    exact hz b off hp'
  · intro x hx _
    simpa using hx
set_option maxRecDepth 100000
def laidL : List (String × DataW Unit) := [("math/bits.deBruijn32tab", Rows.laid_math_bits_deBruijn32tab), ("math/bits.deBruijn64tab", Rows.laid_math_bits_deBruijn64tab), ("internal/strconv.uint64pow10", Rows.laid_internal_strconv_uint64pow10)]
theorem door_met (os : Os) (args : Array Value) : laidMetH Tryd.prog laidL ((World.doorLaid Tryd.prog 400 os).forCall (fun _ _ => 0) ⟨#[], args, []⟩).memory :=
  laidMetH_of_parts3 (fuel := 8) (laidMet_of_run' 8 (by kernel_rfl) (by kernel_rfl)) (by kernel_rfl) (by kernel_rfl)
theorem tab_of {W : World} (h : laidMetH Tryd.prog laidL W) : TabIn W := by
  rw [MakeChecks.laidMetH_plain _ _ _ (by kernel_rfl)] at h
  obtain ⟨ps, ⟨g0, t0, cs0, f0, p0, q0, hg0, ht0, hv0, hd0, ⟨g1, t1, cs1, f1, p1, q1, hg1, ht1, hv1, hd1, ⟨g2, t2, cs2, f2, p2, q2, hg2, ht2, hv2, hd2, _⟩, _⟩, _⟩, _, _⟩ := h
  obtain rfl := Option.some.inj ((show Tryd.prog.globalNamed "math/bits.deBruijn64tab" = some 0 by kernel_rfl).symm.trans hg1)
  obtain rfl := Option.some.inj ((show (Tryd.prog.globals[0]?).map (·.type) = some 162 by kernel_rfl).symm.trans ht1)
  intro i hi
  have h1 := arr_cells (l := tab64) Tryd.underlying162 Tryd.underlying5 (by kernel_rfl) hd1 i hi
  have h2 := World.var?_cell hg1 hv1 i
  rw [show ((⟨0, 0, none⟩ : Addr).add i) = ⟨0, i, none⟩ by rw [Addr.add_lit, Nat.zero_add], h2, ← Array.getElem?_toList]
  exact h1
end Sx
end Go.Proofs.YtbjijbbkfgcleaaDoor
namespace Go.Proofs.YtbjijbbkfgcleaaDoor
open Go.Gv
open Go.RowKit
open Go.Sn
open Sx
set_option maxRecDepth 100000 in
set_option maxHeartbeats 1000000 in
theorem rWhy_ok (s : Org) (h : Hd) (hle : OrgLe s) (hhe : HdLe h) (r0 p0 : Int) (w0 : World) (hS : OrgIn s w0 []) (hH : HdIn h w0 []) : Sp Tryd.prog 18 [s.val, h.val, .agg #[.int .i64 r0, .int .i64 p0]] w0 [] (WhyR 3 44 s h r0 p0) := by
  refine spec_enter Tryd.func18 rfl Tryd.ntmps18 rfl (Own.refl _) ?_
  simp only [argEnv]
  refine gc_seq <| gc_region <| gl_op (op_box rfl rfl rfl (fun b3 => ?_))
  refine gl_op (op_box rfl rfl rfl (fun b4 => ?_))
  refine gl_op (op_box rfl rfl rfl (fun b5 => ?_))
  refine gl_op (op_alloc ty_44 rfl rfl (fun b6 => ?_))
  refine gl_op <| op_rd rfl (rd_assign rfl) <| gl_nil <| gx_then <| gc_seq <| gc_region <| gl_op (op_rd rfl (rd_loadAgg Tryd.underlying27 rfl ty_27 rfl (by exact cs_blk 3 (off := 0) (k := 4) rfl rfl) rfl) ?_)
  refine gl_op (op_rd rfl (rd_loadAgg Tryd.underlying31 rfl ty_31 rfl (by exact cs_blk 2 (off := 0) (k := 3) rfl rfl) rfl) ?_)
  refine gl_op (op_call rfl (vf := []) (vc := []) rfl rfl Tryd.call15 (fun w1 ho => rChk_ok s h hle hhe w1 (hS.at ho) (hH.at ho)) ?_)
  rintro _ _ ⟨rfl, rfl⟩
  refine gl_op <| op_rd rfl (rd_assign rfl) <| gl_nil <| gx_then <| gc_seq <| gc_seq <| gc_region <| gl_op <| op_rd rfl (rd_move rfl) <| gl_op (op_rd rfl (rd_neq rfl rfl) (gk_dec (fun h21 => ?_) (fun h21 => ?_)))
  · refine gl_nil <| gx_then <| gc_cond_t rfl <| gc_seq <| gc_region <| gl_op (op_rd rfl (rd_build rfl (fun _ => bd_44_)) ?_)
    refine gl_op <| op_rd rfl (rd_move rfl) <| gl_op (op_storeAgg 0 ty_44 rfl rfl rfl rfl rfl rfl (by rfl) ?_)
    refine gl_op <| op_rd rfl (rd_assign rfl) <| gl_nil <| gx_then <| gc_ret <| gx_then_ret <| gx_retV2S (.inl rfl) Tryd.results18 (rv_agg Tryd.underlying44 rfl ty_44 rfl (by rfl) (cs_blk 0 (off := 0) (k := 6) rfl rfl)) (rv_tmp rfl) ⟨[0], by decide, rfl⟩ ?_
    exact ⟨b6, .inl ⟨h21, rfl, rfl⟩⟩
  obtain ⟨h, rfl, hg⟩ := good_of (s := s) hhe (by omega)
  have hH := HNIn.of hH
  simp only [HN.hd_val]
  have hA := hg.cx
  have hnd : s.ds.length ≤ 6 := hA.nd
  have hns := hg.ns
  have hss : h.ss.length ≤ s.ss.length := asc_len hg.ssA hg.ssN
  obtain ⟨e0, he0⟩ : ∃ e0, handErr s h.hd = e0 := ⟨_, rfl⟩
  refine gl_nil <| gx_then <| gc_cond_f rfl <| gc_skip <| gx_then <| gc_seq <| gc_region <| gl_op (op_rd rfl (rd_loadAgg Tryd.underlying27 rfl ty_27 rfl (by exact cs_blk 3 (off := 0) (k := 4) rfl rfl) rfl) ?_)
  refine gl_op (op_rd rfl (rd_loadAgg Tryd.underlying31 rfl ty_31 rfl (by exact cs_blk 2 (off := 0) (k := 3) rfl rfl) rfl) ?_)
  refine gl_op (op_call rfl (vf := []) (vc := []) rfl rfl Tryd.call34 (fun w1 ho => chains_ok s h hle hg w1 (hS.at ho) (hH.at ho)) ?_)
  rintro _ _ ⟨b5, gs, tb, TC, rfl, rfl, hgs, htb, hces, hch⟩
  unfold R5
  refine gk_mid [_] (TR gs tb ++ TC) [_, _, _, _] <| gl_op <| op_rd rfl (rd_assign rfl) <| gl_nil <| gx_then <| gc_seq <| gc_region <| gl_op (op_rd rfl (rd_build rfl (fun _ => bd_44_)) ?_)
  refine gl_op (op_alloc ty_44 rfl rfl (fun b10 => ?_))
  refine gl_op (op_storeAgg 0 ty_44 rfl rfl rfl rfl rfl rfl (by rfl) ?_)
  refine gl_nil <| gx_then <| gc_seq <| gc_region <| gl_op <| op_rd rfl (rd_assign rfl) <| gl_nil <| gx_then <| gc_seq <| gc_seq <| gc_region <| gl_op <| op_rd rfl (rd_assign rfl) <| gl_nil <| gx_then <| gc_block <| gk_nil 3 1 <| gc_loopF (ι := Nat × Option Nat × Nat) [(3, _), (4, _), (5, _), (6, _), (9, _), (10, _)] (_ :: _ :: _ :: _ :: _ :: (TR gs tb ++ TC)) (fun q => q.1 ≤ h.ss.length) (fun q Fr0 => ((11, .bool (whyK s h r0 p0 q.1).isSome) :: (12, natV q.1) :: Fr0)) (fun q Fr0 => (.blk b10 ((bestR (whyK s h r0 p0 q.1)).cells (rowA q.2.1) q.2.2) 44 :: .row 3 1 q.2.1 (bestR (whyK s h r0 p0 q.1)).ch.length q.2.2 ((bestR (whyK s h r0 p0 q.1)).ch.map natV) :: Fr0)) (fun q => h.ss.length - q.1) (0, none, 0) (Nat.zero_le _) ⟨rfl, rfl, rfl, rfl, rfl, rfl, rfl, rfl, trivial⟩ (sub_tail (A := [_, _, _, _, _, _, _]) (B := [_, _, _, _, _, _, _]) (T := (TR gs tb ++ TC)) [1, 0, 2, 3, 4, 5, 6] 7 (by decide) (by decide) rfl rfl) ?_
  rintro ⟨k, rB, cB⟩ hk
  simp only at hk ⊢
  refine gc_seq <| gc_seq <| gc_region <| gl_op <| op_rd rfl (rd_move rfl) <| gl_op <| op_rd rfl (rd_fieldAddr rfl (fa_31_1 _)) <| gl_op (op_rd rfl (rd_load Tryd.underlying29 rfl rfl (by exact ld_blk 5 rfl rfl)) ?_)
  refine gl_op <| op_rd rfl (rd_lenSlice Tryd.underlying29 rfl) <| gl_op (op_rd rfl (rd_lss rfl rfl) (gk_dec (fun h32 => ?_) (fun h32 => ?_)))
  · obtain ⟨i0, hi0⟩ := get_some (show k < h.ss.length by omega)
    obtain ⟨x, hx⟩ := get_some (hg.ssN i0 (List.mem_of_getElem? hi0))
    have hxm := List.mem_of_getElem? hx
    obtain ⟨hv0, hv1, hpo, hp12, hpb⟩ := Go.Sn.stop_ok hg hx
    have hil : i0 < s.ss.length := (List.getElem?_eq_some_iff.1 hx).1
    have hdn : x.div = ((x.div.toNat : Nat) : Int) := by omega
    have hdl : x.div.toNat < s.ds.length := by omega
    obtain ⟨d, hd⟩ := get_some hdl
    have hdi : (cxN s h).dv x.div.toNat = d := getD_some hd
    have hrg := hA.rng x.div.toNat hdl
    rw [hdi] at hrg
    obtain ⟨lo, hlo⟩ : ∃ lo : Nat, d.lo = lo := ⟨d.lo.toNat, by omega⟩
    obtain ⟨hi, hhi⟩ : ∃ hi : Nat, d.hi = hi := ⟨d.hi.toNat, by omega⟩
    obtain ⟨g5, hg5⟩ := get_some (show x.div.toNat < gs.length by omega)
    have hnlo : (whyN (tabR tb) i0 x r0 p0 (whyK s h r0 p0 k) x.div.toNat lo) = (whyK s h r0 p0 k) := whyN_lo hA hch hdl (by rw [hdi]; exact hlo)
    have hnhi : (whyN (tabR tb) i0 x r0 p0 (whyK s h r0 p0 k) x.div.toNat (hi + 1)) = (whyK s h r0 p0 (k + 1)) := whyN_hi hA hch hdl (by rw [hdi]; omega) (by omega) hi0 hx
    refine gl_nil <| gx_then <| gc_cond_t rfl <| gc_skip <| gx_then <| gc_seq <| gc_block <| gc_seq <| gc_drawP [0, 1, 2, 3, 4, 5, 6] false 10 rfl <| ga_first 0 #[true, false, false, false, false, false, false, false, false, false, false] rfl rfl rfl rfl (by kernel_rfl) rfl ⟨[0, 1, 2, 3, 4, 5, 6], by decide, rfl⟩ (qt_rd (rd_fieldAddr rfl (fa_27_2 _))) ?_
    refine ga_first 1 #[true, true, false, false, false, false, false, false, false, false, false] rfl rfl rfl rfl (by kernel_rfl) rfl ⟨[0, 1, 2, 3, 4, 5, 6], by decide, rfl⟩ (qt_rd (rd_load Tryd.underlying24 rfl rfl (by exact ld_blk 6 rfl rfl))) ?_
    refine ga_first 2 #[true, true, true, false, false, false, false, false, false, false, false] rfl rfl rfl rfl (by kernel_rfl) rfl ⟨[0, 1, 2, 3, 4, 5, 6], by decide, rfl⟩ (qt_rd (rd_fieldAddr rfl (fa_31_1 _))) ?_
    refine ga_first 3 #[true, true, true, true, false, false, false, false, false, false, false] rfl rfl rfl rfl (by kernel_rfl) rfl ⟨[0, 1, 2, 3, 4, 5, 6], by decide, rfl⟩ (qt_rd (rd_load Tryd.underlying29 rfl rfl (by exact ld_blk 5 rfl rfl))) ?_
    refine ga_first 4 #[true, true, true, true, true, false, false, false, false, false, false] rfl rfl rfl rfl (by kernel_rfl) rfl ⟨[0, 1, 2, 3, 4, 5, 6], by decide, rfl⟩ (qt_rd (rd_move rfl)) ?_
    refine ga_first 5 #[true, true, true, true, true, true, false, false, false, false, false] rfl rfl rfl rfl (by kernel_rfl) rfl ⟨[0, 1, 2, 3, 4, 5, 6], by decide, rfl⟩ (qt_rd (rd_indexOld1 hH.t Tryd.underlying29 ty_3 rfl rfl (by omega) (by omega))) ?_
    refine ga_first 6 #[true, true, true, true, true, true, true, false, false, false, false] rfl rfl rfl rfl (by kernel_rfl) rfl ⟨[0, 1, 2, 3, 4, 5, 6], by decide, rfl⟩ (qt_rd (rd_load Tryd.underlying3 rfl rfl (ld_slN hH.t (get_nz hi0)))) ?_
    refine ga_first 7 #[true, true, true, true, true, true, true, true, false, false, false] rfl rfl rfl rfl (by kernel_rfl) rfl ⟨[0, 1, 2, 3, 4, 5, 6], by decide, rfl⟩ (qt_rd (rd_indexOld hS.t Tryd.underlying24 ty_57 rfl rfl (by omega) (by omega))) ?_
    refine ga_first 8 #[true, true, true, true, true, true, true, true, true, false, false] rfl rfl rfl rfl (by kernel_rfl) rfl ⟨[0, 1, 2, 3, 4, 5, 6], by decide, rfl⟩ (qt_rd (rd_loadAgg Tryd.underlying57 rfl ty_57 rfl (cs_slN hS.t (flat_drop_get St.cells 5 (fun _ => rfl) hx)) rfl)) ?_
    refine ga_only 9 #[true, true, true, true, true, true, true, true, true, true, false] rfl rfl (by kernel_rfl) rfl (.inr ⟨[0, 1, 2, 3, 4, 5, 6], by decide, rfl⟩) (op_alloc ty_57 rfl rfl (fun b13 => ?_))
    refine ga_only 10 #[true, true, true, true, true, true, true, true, true, true, true] rfl rfl (by kernel_rfl) rfl (.inr ⟨[1, 2, 3, 4, 5, 6, 7], by decide, rfl⟩) (op_storeAgg 0 ty_57 rfl rfl rfl rfl rfl rfl (by rfl) ?_)
    refine ga_end (by kernel_rfl) (.inl (by kernel_rfl)) ?_
    refine gx_then <| gc_seq ?_
    simp only [St.cells]
    refine gc_region <| gl_op <| op_rd rfl (rd_fieldAddr rfl (fa_27_0 _)) <| gl_op (op_rd rfl (rd_load Tryd.underlying22 rfl rfl (by exact ld_blk 7 rfl rfl)) ?_)
    refine gl_op <| op_rd rfl (rd_fieldAddr rfl (fa_57_1 _)) <| gl_op (op_rd rfl (rd_load Tryd.underlying3 rfl rfl (by exact ld_blk 0 rfl rfl)) ?_)
    refine gl_op (op_rd rfl (rd_indexOld hS.d Tryd.underlying22 ty_65 rfl rfl (by omega) (by omega)) ?_)
    refine gl_op (op_rd rfl (rd_loadAgg Tryd.underlying65 rfl ty_65 rfl (cs_slN hS.d (flat_drop_get Dv.cells 3 (fun _ => rfl) hd)) rfl) ?_)
    refine gl_op (op_alloc ty_65 rfl rfl (fun b14 => ?_))
    refine gl_op (op_storeAgg 0 ty_65 rfl rfl rfl rfl rfl rfl (by rfl) ?_)
    refine gl_nil <| gx_then <| gc_seq ?_
    simp only [Dv.cells]
    rw [hlo, hhi]
    refine gc_region <| gl_op <| op_rd rfl (rd_fieldAddr rfl (fa_65_1 _)) <| gl_op (op_rd rfl (rd_load Tryd.underlying3 rfl rfl (by exact ld_blk 0 rfl rfl)) ?_)
    refine gl_op <| op_rd rfl (rd_assign rfl) <| gl_nil <| gx_then <| gc_block ?_
    rw [← hnlo]
    refine gc_loopF (ι := Nat × Option Nat × Nat) [(3, _), (4, _), (5, _), (6, _), (9, _), (10, _), (12, _), (13, _), (14, _)] (_ :: _ :: _ :: _ :: _ :: _ :: _ :: (TR gs tb ++ TC)) (fun q => lo ≤ q.1 ∧ q.1 ≤ hi + 1) (fun q Fr0 => ((11, .bool (whyN (tabR tb) i0 x r0 p0 (whyK s h r0 p0 k) x.div.toNat q.1).isSome) :: (15, natV q.1) :: Fr0)) (fun q Fr0 => (.blk b10 ((bestR (whyN (tabR tb) i0 x r0 p0 (whyK s h r0 p0 k) x.div.toNat q.1)).cells (rowA q.2.1) q.2.2) 44 :: .row 3 1 q.2.1 (bestR (whyN (tabR tb) i0 x r0 p0 (whyK s h r0 p0 k) x.div.toNat q.1)).ch.length q.2.2 ((bestR (whyN (tabR tb) i0 x r0 p0 (whyK s h r0 p0 k) x.div.toNat q.1)).ch.map natV) :: Fr0)) (fun q => hi + 1 - q.1) (lo, rB, cB) (⟨Nat.le_refl _, by simp only; omega⟩) ⟨rfl, rfl, rfl, rfl, rfl, rfl, rfl, rfl, rfl, rfl, rfl, trivial⟩ (sub_tail (A := [_, _, _, _, _, _, _, _, _]) (B := [_, _, _, _, _, _, _, _, _]) (T := (TR gs tb ++ TC)) [2, 3, 0, 1, 4, 5, 6, 7, 8] 9 (by decide) (by decide) rfl rfl) ?_
    rintro ⟨n, r, c⟩ ⟨hn0, hn1⟩
    simp only at hn0 hn1 ⊢
    refine gc_seq <| gc_seq <| gc_region <| gl_op <| op_rd rfl (rd_move rfl) <| gl_op <| op_rd rfl (rd_fieldAddr rfl (fa_65_2 _)) <| gl_op (op_rd rfl (rd_load Tryd.underlying3 rfl rfl (by exact ld_blk 2 rfl rfl)) ?_)
    refine gl_op (op_rd rfl (rd_leq rfl rfl) (gk_dec (fun h55 => ?_) (fun h55 => ?_)))
    · obtain ⟨row, hrm, hrk⟩ := tr_ent htb hgs hdl (show n < 128 by omega) hg5
      have hmem : HL.row 96 4 (some g5) 128 128 (row.flatMap ceC) ∈ (TR gs tb ++ TC) := List.mem_append_left _ hrm
      obtain ⟨en, hent⟩ : ∃ en, entR tb (x.div.toNat, n) = en := ⟨_, rfl⟩
      rw [hent] at hrk
      refine gl_nil <| gx_then <| gc_cond_t rfl <| gc_skip <| gx_then <| gc_seq <| gc_block <| gc_seq <| gc_region <| gl_op <| op_rd rfl (rd_move rfl) <| gl_op <| op_rd rfl (rd_fieldAddr rfl (fa_57_1 _)) <| gl_op (op_rd rfl (rd_load Tryd.underlying3 rfl rfl (by exact ld_blk 3 rfl rfl)) ?_)
      refine gl_op (op_rd rfl (rd_indexRow1 4 rfl Tryd.underlying92 ty_94 rfl rfl (by omega) (by omega)) ?_)
      refine gl_op <| op_rd rfl (rd_load Tryd.underlying94 rfl rfl (ld_rowN 4 rfl (gsC_get hg5))) <| gl_op <| op_rd rfl (rd_move rfl) <| gl_op (op_rd rfl (rd_indexS Tryd.underlying94 ty_96 rfl rfl (by omega) (by omega)) ?_)
      refine gl_op (op_rd rfl (rd_loadAgg Tryd.underlying96 rfl ty_96 rfl (cs_memRow (r := some g5) (List.mem_append_right [_, _, _, _, _, _, _, _, _] hmem) (flat_drop_get ceC 4 (fun _ => rfl) hrk)) rfl) ?_)
      refine gl_op (op_alloc ty_96 rfl rfl (fun b16 => ?_))
      refine gl_op (op_storeAgg 0 ty_96 rfl rfl rfl rfl rfl rfl (by rfl) ?_)
      refine gl_nil <| gx_then <| gc_seq ?_
      simp only [ceC]
      refine gc_region <| gl_op <| op_rd rfl (rd_fieldAddr rfl (fa_96_0 _)) <| gl_op (op_rd rfl (rd_load Tryd.underlying4 rfl rfl (by exact ld_blk 0 rfl rfl)) ?_)
      refine gk_bool (fun h67 => ?_) (fun h67 => ?_)
      · have hTC := tabR_some (tb := tb) (q := (x.div.toNat, n)) (by rw [hent]; exact h67)
        rw [hent] at hTC
        have hcen := hces (x.div.toNat, n) (by rw [hent]; exact h67)
        rw [hent] at hcen
        have hshort := ((hch.best _ _ hTC).short hA)
        simp only at hshort
        refine gl_op <| op_rd rfl (rd_move rfl) <| gl_yes rfl rfl (op_rd rfl (rd_loadAgg Tryd.underlying57 rfl ty_57 rfl (by exact cs_blk 4 (off := 0) (k := 5) rfl rfl) rfl) ?_)
        refine gl_yes rfl rfl <| op_rd rfl (rd_move rfl) <| gl_yes rfl rfl (op_rd rfl (rd_loadAgg Tryd.underlying42 rfl ty_42 rfl (by exact cs_blk 7 (off := 0) (k := 2) rfl rfl) rfl) ?_)
        refine gl_yes rfl rfl (op_call rfl (vf := []) (vc := []) rfl rfl Tryd.call23 (fun w1 ho => Plays_ok x n r0 p0 (by omega) hpb w1 ((hS.p x hxm).at ho)) ?_)
        rintro _ _ ⟨rfl, rfl⟩
        refine gk_bool (fun hpz => ?_) (fun hpz => ?_)
        · refine gl_op <| op_rd rfl (rd_pick_t rfl rfl) <| gl_op <| op_rd rfl (rd_move rfl) <| gl_yes rfl rfl <| op_rd rfl (rd_move rfl) <| gk_bool (fun h75 => ?_) (fun h75 => ?_)
          · refine gl_yes rfl rfl <| op_rd rfl (rd_not rfl) <| gl_yes rfl rfl <| op_rd rfl (rd_move rfl) <| gl_yes rfl rfl <| op_rd rfl (rd_fieldAddr rfl (fa_96_3 _)) <| gl_yes rfl rfl (op_rd rfl (rd_load Tryd.underlying29 rfl rfl (by exact ld_blk 0 rfl rfl)) ?_)
            refine gl_yes rfl rfl <| op_rd rfl (rd_lenSlice Tryd.underlying29 rfl) <| gl_yes rfl rfl <| op_rd rfl (rd_fieldAddr rfl (fa_44_2 _)) <| gl_yes rfl rfl (op_rd rfl (rd_load Tryd.underlying29 rfl rfl (by exact ld_blk 1 rfl rfl)) ?_)
            refine gl_yes rfl rfl <| op_rd rfl (rd_lenSlice Tryd.underlying29 rfl) <| gl_yes rfl rfl (op_rd rfl (rd_lss rfl rfl) (gk_dec (fun h84 => ?_) (fun h84 => ?_)))
            · have hch9 : (whyN (tabR tb) i0 x r0 p0 (whyK s h r0 p0 k) x.div.toNat n) = none ∨ en.ch.length < (bestR (whyN (tabR tb) i0 x r0 p0 (whyK s h r0 p0 k) x.div.toNat n)).ch.length := .inr (by omega)
              refine gl_yes rfl rfl <| op_rd rfl (rd_pick_f rfl rfl) <| gl_op <| op_rd rfl (rd_pick_t rfl rfl) <| gl_nil <| gx_then <| gc_cond_t rfl <| gc_seq <| gc_region <| gl_op <| op_rd rfl (rd_assign rfl) <| gl_nil <| gx_then ?_
              rw [show Value.int .i64 x.div = natV x.div.toNat from congrArg (Value.int .i64) hdn]
              refine gc_drawP [0, 1, 2, 3, 4, 5, 6, 7, 8, 9] false 17 rfl <| ga_first 0 #[true, false, false, false, false, false, false, false, false, false, false, false, false, false, false, false, false, false] rfl rfl rfl rfl (by kernel_rfl) rfl ⟨[0, 1, 2, 3, 4, 5, 6, 7, 8, 9], by decide, rfl⟩ (qt_rd (rd_fieldAddr rfl (fa_96_2 _))) ?_
              refine ga_first 1 #[true, true, false, false, false, false, false, false, false, false, false, false, false, false, false, false, false, false] rfl rfl rfl rfl (by kernel_rfl) rfl ⟨[0, 1, 2, 3, 4, 5, 6, 7, 8, 9], by decide, rfl⟩ (qt_rd (rd_load Tryd.underlying3 rfl rfl (by exact ld_blk 0 rfl rfl))) ?_
              refine ga_first 2 #[true, true, true, false, false, false, false, false, false, false, false, false, false, false, false, false, false, false] rfl rfl rfl rfl (by kernel_rfl) rfl ⟨[0, 1, 2, 3, 4, 5, 6, 7, 8, 9], by decide, rfl⟩ (qt_rd (rd_fieldAddr rfl (fa_96_1 _))) ?_
              refine ga_first 3 #[true, true, true, true, false, false, false, false, false, false, false, false, false, false, false, false, false, false] rfl rfl rfl rfl (by kernel_rfl) rfl ⟨[0, 1, 2, 3, 4, 5, 6, 7, 8, 9], by decide, rfl⟩ (qt_rd (rd_load Tryd.underlying3 rfl rfl (by exact ld_blk 0 rfl rfl))) ?_
              refine ga_first 5 #[true, true, true, true, false, true, false, false, false, false, false, false, false, false, false, false, false, false] rfl rfl rfl rfl (by kernel_rfl) rfl ⟨[0, 1, 2, 3, 4, 5, 6, 7, 8, 9], by decide, rfl⟩ (qt_rd (rd_fieldAddr rfl (fa_96_3 _))) ?_
              refine ga_first 6 #[true, true, true, true, false, true, true, false, false, false, false, false, false, false, false, false, false, false] rfl rfl rfl rfl (by kernel_rfl) rfl ⟨[0, 1, 2, 3, 4, 5, 6, 7, 8, 9], by decide, rfl⟩ (qt_rd (rd_load Tryd.underlying29 rfl rfl (by exact ld_blk 0 rfl rfl))) ?_
              refine ga_first 8 #[true, true, true, true, false, true, true, false, true, false, false, false, false, false, false, false, false, false] rfl rfl rfl rfl (by kernel_rfl) rfl ⟨[0, 1, 2, 3, 4, 5, 6, 7, 8, 9], by decide, rfl⟩ (qt_rd (rd_fieldAddr rfl (fa_57_1 _))) ?_
              refine ga_first 9 #[true, true, true, true, false, true, true, false, true, true, false, false, false, false, false, false, false, false] rfl rfl rfl rfl (by kernel_rfl) rfl ⟨[0, 1, 2, 3, 4, 5, 6, 7, 8, 9], by decide, rfl⟩ (qt_rd (rd_load Tryd.underlying3 rfl rfl (by exact ld_blk 4 rfl rfl))) ?_
              refine ga_first 10 #[true, true, true, true, false, true, true, false, true, true, true, false, false, false, false, false, false, false] rfl rfl rfl rfl (by kernel_rfl) rfl ⟨[0, 1, 2, 3, 4, 5, 6, 7, 8, 9], by decide, rfl⟩ (qt_rd (rd_move rfl)) ?_
              refine ga_first 11 #[true, true, true, true, false, true, true, false, true, true, true, true, false, false, false, false, false, false] rfl rfl rfl rfl (by kernel_rfl) rfl ⟨[0, 1, 2, 3, 4, 5, 6, 7, 8, 9], by decide, rfl⟩ (qt_rd (rd_fieldAddr rfl (fa_31_1 _))) ?_
              refine ga_first 12 #[true, true, true, true, false, true, true, false, true, true, true, true, true, false, false, false, false, false] rfl rfl rfl rfl (by kernel_rfl) rfl ⟨[0, 1, 2, 3, 4, 5, 6, 7, 8, 9], by decide, rfl⟩ (qt_rd (rd_load Tryd.underlying29 rfl rfl (by exact ld_blk 8 rfl rfl))) ?_
              refine ga_first 13 #[true, true, true, true, false, true, true, false, true, true, true, true, true, true, false, false, false, false] rfl rfl rfl rfl (by kernel_rfl) rfl ⟨[0, 1, 2, 3, 4, 5, 6, 7, 8, 9], by decide, rfl⟩ (qt_rd (rd_move rfl)) ?_
              refine ga_first 14 #[true, true, true, true, false, true, true, false, true, true, true, true, true, true, true, false, false, false] rfl rfl rfl rfl (by kernel_rfl) rfl ⟨[0, 1, 2, 3, 4, 5, 6, 7, 8, 9], by decide, rfl⟩ (qt_rd (rd_indexOld1 hH.t Tryd.underlying29 ty_3 rfl rfl (by omega) (by omega))) ?_
              refine ga_first 15 #[true, true, true, true, false, true, true, false, true, true, true, true, true, true, true, true, false, false] rfl rfl rfl rfl (by kernel_rfl) rfl ⟨[0, 1, 2, 3, 4, 5, 6, 7, 8, 9], by decide, rfl⟩ (qt_rd (rd_load Tryd.underlying3 rfl rfl (ld_slN hH.t (get_nz hi0)))) ?_
              refine ga_only 4 #[true, true, true, true, true, true, true, false, true, true, true, true, true, true, true, true, false, false] rfl rfl (by kernel_rfl) rfl (.inr ⟨[0, 1, 2, 3, 4, 5, 6, 7, 8, 9], by decide, rfl⟩) (op_buildSlice (sz := 1) rfl rfl (fun _ => bs_29_0_) rfl rfl (fun b91 => ?_))
              refine ga_only 7 #[true, true, true, true, true, true, true, true, true, true, true, true, true, true, true, true, false, false] rfl rfl (by kernel_rfl) rfl (.inr ⟨[1, 2, 3, 4, 5, 6, 7, 8, 9, 10], by decide, rfl⟩) (op_appendMem 0 (fun w ho => hcen.1.sl ho (fun y hy => List.mem_append_right [_, _, _, _, _, _, _, _, _, _, _] (List.mem_append_right _ hy))) Tryd.underlying29 ty_3 rfl (by decide) rfl rfl rfl rfl (nat_one en.ch) (by omega) (by omega) (fun _ => (by rfl)) (fun r94 c94 => ?_))
              refine ga_first 16 #[true, true, true, true, true, true, true, true, true, true, true, true, true, true, true, true, true, false] rfl rfl rfl rfl (by kernel_rfl) rfl ⟨[1, 2, 3, 4, 5, 6, 7, 8, 9, 10], by decide, rfl⟩ (qt_rd (rd_build rfl (fun _ => bd_44_0_1_2_3_4_5 _ _ _ _ _ _ _ _))) ?_
              refine ga_only 17 #[true, true, true, true, true, true, true, true, true, true, true, true, true, true, true, true, true, true] rfl rfl (by kernel_rfl) rfl (.inr ⟨[1, 2, 3, 4, 5, 6, 7, 8, 9, 10], by decide, rfl⟩) (op_storeAgg 2 ty_44 rfl rfl rfl rfl rfl rfl (by rfl) ?_)
              refine ga_end (by kernel_rfl) (.inl (by kernel_rfl)) ?_
              refine gx_block <| gx_then <| gc_region <| gl_op <| op_rd rfl (rd_move rfl) <| gl_op (op_rd rfl (by exact rd_addN (b := 1) rfl rfl (by omega)) ?_)
              refine gl_op <| op_rd rfl (rd_assign rfl) <| gl_nil <| gx_then ?_
              have hth : (tabR tb (x.div.toNat, n)).isSome = true := by rw [tabR_isSome, hent]; exact h67
              have hws : (whyN (tabR tb) i0 x r0 p0 (whyK s h r0 p0 k) x.div.toNat (n + 1)) = some ⟨en.src, en.pl, en.ch, x.div.toNat, n, i0⟩ := by rw [whyN_t hth]; exact stepW_yes hpz hTC hch9
              rw [show HL.blk b10 [natV en.src, natV en.pl, .slice (rowA r94) (0 + en.ch.length) c94, natV x.div.toNat, natV n, natV i0] 44 = HL.blk b10 ((bestR (whyN (tabR tb) i0 x r0 p0 (whyK s h r0 p0 k) x.div.toNat (n + 1))).cells (rowA r94) c94) 44 by rw [hws, Nat.zero_add]; rfl, show HL.row 3 1 r94 (0 + en.ch.length) c94 ([] ++ en.ch.map natV) = HL.row 3 1 r94 (bestR (whyN (tabR tb) i0 x r0 p0 (whyK s h r0 p0 k) x.div.toNat (n + 1))).ch.length c94 ((bestR (whyN (tabR tb) i0 x r0 p0 (whyK s h r0 p0 k) x.div.toNat (n + 1))).ch.map natV) by rw [hws, Nat.zero_add]; rfl, show Value.bool true = .bool (whyN (tabR tb) i0 x r0 p0 (whyK s h r0 p0 k) x.div.toNat (n + 1)).isSome by rw [hws]; rfl]
              exact gx_cut ((n + 1, r94, c94)) ⟨⟨by simp only; omega, by simp only; omega⟩, by simp only; omega⟩ ⟨rfl, rfl, rfl, rfl, rfl, rfl, rfl, rfl, rfl, rfl, rfl, trivial⟩ (sub_tail (A := [_, _, _, _, _, _, _, _, _]) (B := [_, _, _, _, _, _, _, _, _, _, _]) (T := (TR gs tb ++ TC)) [2, 0, 4, 5, 6, 7, 8, 9, 10] 11 (by decide) (by decide) rfl rfl)
            obtain ⟨u, hbu⟩ : ∃ u, (whyN (tabR tb) i0 x r0 p0 (whyK s h r0 p0 k) x.div.toNat n) = some u := Option.isSome_iff_exists.1 h75
            have hch9 : ¬ en.ch.length < u.ch.length := by rw [hbu] at h84; have h9 : (bestR (some u)) = u := rfl; rw [h9] at h84; omega
            refine gl_yes rfl rfl <| op_rd rfl (rd_pick_f rfl rfl) <| gl_op <| op_rd rfl (rd_pick_t rfl rfl) <| gl_nil <| gx_then <| gc_cond_f rfl <| gc_skip <| gx_block <| gx_then <| gc_region <| gl_op <| op_rd rfl (rd_move rfl) <| gl_op (op_rd rfl (by exact rd_addN (b := 1) rfl rfl (by omega)) ?_)
            refine gl_op <| op_rd rfl (rd_assign rfl) <| gl_nil <| gx_then ?_
            have hth : (tabR tb (x.div.toNat, n)).isSome = true := by rw [tabR_isSome, hent]; exact h67
            have hws : (whyN (tabR tb) i0 x r0 p0 (whyK s h r0 p0 k) x.div.toNat (n + 1)) = (whyN (tabR tb) i0 x r0 p0 (whyK s h r0 p0 k) x.div.toNat n) := by rw [whyN_t hth, hbu]; exact stepW_old hpz hTC hch9
            rw [← hws]
            exact gx_cut ((n + 1, r, c)) ⟨⟨by simp only; omega, by simp only; omega⟩, by simp only; omega⟩ ⟨rfl, rfl, rfl, rfl, rfl, rfl, rfl, rfl, rfl, rfl, rfl, trivial⟩ (sub_tail (A := [_, _, _, _, _, _, _, _, _]) (B := [_, _, _, _, _, _, _, _, _, _]) (T := (TR gs tb ++ TC)) [1, 2, 3, 4, 5, 6, 7, 8, 9] 10 (by decide) (by decide) rfl rfl)
          have hch9 : (whyN (tabR tb) i0 x r0 p0 (whyK s h r0 p0 k) x.div.toNat n) = none ∨ en.ch.length < (bestR (whyN (tabR tb) i0 x r0 p0 (whyK s h r0 p0 k) x.div.toNat n)).ch.length := .inl (by cases hq : (whyN (tabR tb) i0 x r0 p0 (whyK s h r0 p0 k) x.div.toNat n) with
            | none => rfl
            | some u => rw [hq] at h75; cases h75)
          refine gl_yes rfl rfl <| op_rd rfl (rd_not rfl) <| gl_yes rfl rfl <| op_rd rfl (rd_move rfl) <| gl_no rfl rfl rfl <| gl_no rfl rfl rfl <| gl_no rfl rfl rfl <| gl_no rfl rfl rfl <| gl_no rfl rfl rfl <| gl_no rfl rfl rfl <| gl_no rfl rfl rfl <| gl_yes rfl rfl <| op_rd rfl (rd_pick_t rfl rfl) <| gl_op <| op_rd rfl (rd_pick_t rfl rfl) <| gl_nil <| gx_then <| gc_cond_t rfl <| gc_seq <| gc_region <| gl_op <| op_rd rfl (rd_assign rfl) <| gl_nil <| gx_then ?_
          rw [show Value.int .i64 x.div = natV x.div.toNat from congrArg (Value.int .i64) hdn]
          refine gc_drawP [0, 1, 2, 3, 4, 5, 6, 7, 8, 9] false 17 rfl <| ga_first 0 #[true, false, false, false, false, false, false, false, false, false, false, false, false, false, false, false, false, false] rfl rfl rfl rfl (by kernel_rfl) rfl ⟨[0, 1, 2, 3, 4, 5, 6, 7, 8, 9], by decide, rfl⟩ (qt_rd (rd_fieldAddr rfl (fa_96_2 _))) ?_
          refine ga_first 1 #[true, true, false, false, false, false, false, false, false, false, false, false, false, false, false, false, false, false] rfl rfl rfl rfl (by kernel_rfl) rfl ⟨[0, 1, 2, 3, 4, 5, 6, 7, 8, 9], by decide, rfl⟩ (qt_rd (rd_load Tryd.underlying3 rfl rfl (by exact ld_blk 0 rfl rfl))) ?_
          refine ga_first 2 #[true, true, true, false, false, false, false, false, false, false, false, false, false, false, false, false, false, false] rfl rfl rfl rfl (by kernel_rfl) rfl ⟨[0, 1, 2, 3, 4, 5, 6, 7, 8, 9], by decide, rfl⟩ (qt_rd (rd_fieldAddr rfl (fa_96_1 _))) ?_
          refine ga_first 3 #[true, true, true, true, false, false, false, false, false, false, false, false, false, false, false, false, false, false] rfl rfl rfl rfl (by kernel_rfl) rfl ⟨[0, 1, 2, 3, 4, 5, 6, 7, 8, 9], by decide, rfl⟩ (qt_rd (rd_load Tryd.underlying3 rfl rfl (by exact ld_blk 0 rfl rfl))) ?_
          refine ga_first 5 #[true, true, true, true, false, true, false, false, false, false, false, false, false, false, false, false, false, false] rfl rfl rfl rfl (by kernel_rfl) rfl ⟨[0, 1, 2, 3, 4, 5, 6, 7, 8, 9], by decide, rfl⟩ (qt_rd (rd_fieldAddr rfl (fa_96_3 _))) ?_
          refine ga_first 6 #[true, true, true, true, false, true, true, false, false, false, false, false, false, false, false, false, false, false] rfl rfl rfl rfl (by kernel_rfl) rfl ⟨[0, 1, 2, 3, 4, 5, 6, 7, 8, 9], by decide, rfl⟩ (qt_rd (rd_load Tryd.underlying29 rfl rfl (by exact ld_blk 0 rfl rfl))) ?_
          refine ga_first 8 #[true, true, true, true, false, true, true, false, true, false, false, false, false, false, false, false, false, false] rfl rfl rfl rfl (by kernel_rfl) rfl ⟨[0, 1, 2, 3, 4, 5, 6, 7, 8, 9], by decide, rfl⟩ (qt_rd (rd_fieldAddr rfl (fa_57_1 _))) ?_
          refine ga_first 9 #[true, true, true, true, false, true, true, false, true, true, false, false, false, false, false, false, false, false] rfl rfl rfl rfl (by kernel_rfl) rfl ⟨[0, 1, 2, 3, 4, 5, 6, 7, 8, 9], by decide, rfl⟩ (qt_rd (rd_load Tryd.underlying3 rfl rfl (by exact ld_blk 4 rfl rfl))) ?_
          refine ga_first 10 #[true, true, true, true, false, true, true, false, true, true, true, false, false, false, false, false, false, false] rfl rfl rfl rfl (by kernel_rfl) rfl ⟨[0, 1, 2, 3, 4, 5, 6, 7, 8, 9], by decide, rfl⟩ (qt_rd (rd_move rfl)) ?_
          refine ga_first 11 #[true, true, true, true, false, true, true, false, true, true, true, true, false, false, false, false, false, false] rfl rfl rfl rfl (by kernel_rfl) rfl ⟨[0, 1, 2, 3, 4, 5, 6, 7, 8, 9], by decide, rfl⟩ (qt_rd (rd_fieldAddr rfl (fa_31_1 _))) ?_
          refine ga_first 12 #[true, true, true, true, false, true, true, false, true, true, true, true, true, false, false, false, false, false] rfl rfl rfl rfl (by kernel_rfl) rfl ⟨[0, 1, 2, 3, 4, 5, 6, 7, 8, 9], by decide, rfl⟩ (qt_rd (rd_load Tryd.underlying29 rfl rfl (by exact ld_blk 8 rfl rfl))) ?_
          refine ga_first 13 #[true, true, true, true, false, true, true, false, true, true, true, true, true, true, false, false, false, false] rfl rfl rfl rfl (by kernel_rfl) rfl ⟨[0, 1, 2, 3, 4, 5, 6, 7, 8, 9], by decide, rfl⟩ (qt_rd (rd_move rfl)) ?_
          refine ga_first 14 #[true, true, true, true, false, true, true, false, true, true, true, true, true, true, true, false, false, false] rfl rfl rfl rfl (by kernel_rfl) rfl ⟨[0, 1, 2, 3, 4, 5, 6, 7, 8, 9], by decide, rfl⟩ (qt_rd (rd_indexOld1 hH.t Tryd.underlying29 ty_3 rfl rfl (by omega) (by omega))) ?_
          refine ga_first 15 #[true, true, true, true, false, true, true, false, true, true, true, true, true, true, true, true, false, false] rfl rfl rfl rfl (by kernel_rfl) rfl ⟨[0, 1, 2, 3, 4, 5, 6, 7, 8, 9], by decide, rfl⟩ (qt_rd (rd_load Tryd.underlying3 rfl rfl (ld_slN hH.t (get_nz hi0)))) ?_
          refine ga_only 4 #[true, true, true, true, true, true, true, false, true, true, true, true, true, true, true, true, false, false] rfl rfl (by kernel_rfl) rfl (.inr ⟨[0, 1, 2, 3, 4, 5, 6, 7, 8, 9], by decide, rfl⟩) (op_buildSlice (sz := 1) rfl rfl (fun _ => bs_29_0_) rfl rfl (fun b91 => ?_))
          refine ga_only 7 #[true, true, true, true, true, true, true, true, true, true, true, true, true, true, true, true, false, false] rfl rfl (by kernel_rfl) rfl (.inr ⟨[1, 2, 3, 4, 5, 6, 7, 8, 9, 10], by decide, rfl⟩) (op_appendMem 0 (fun w ho => hcen.1.sl ho (fun y hy => List.mem_append_right [_, _, _, _, _, _, _, _, _, _, _] (List.mem_append_right _ hy))) Tryd.underlying29 ty_3 rfl (by decide) rfl rfl rfl rfl (nat_one en.ch) (by omega) (by omega) (fun _ => (by rfl)) (fun r94 c94 => ?_))
          refine ga_first 16 #[true, true, true, true, true, true, true, true, true, true, true, true, true, true, true, true, true, false] rfl rfl rfl rfl (by kernel_rfl) rfl ⟨[1, 2, 3, 4, 5, 6, 7, 8, 9, 10], by decide, rfl⟩ (qt_rd (rd_build rfl (fun _ => bd_44_0_1_2_3_4_5 _ _ _ _ _ _ _ _))) ?_
          refine ga_only 17 #[true, true, true, true, true, true, true, true, true, true, true, true, true, true, true, true, true, true] rfl rfl (by kernel_rfl) rfl (.inr ⟨[1, 2, 3, 4, 5, 6, 7, 8, 9, 10], by decide, rfl⟩) (op_storeAgg 2 ty_44 rfl rfl rfl rfl rfl rfl (by rfl) ?_)
          refine ga_end (by kernel_rfl) (.inl (by kernel_rfl)) ?_
          refine gx_block <| gx_then <| gc_region <| gl_op <| op_rd rfl (rd_move rfl) <| gl_op (op_rd rfl (by exact rd_addN (b := 1) rfl rfl (by omega)) ?_)
          refine gl_op <| op_rd rfl (rd_assign rfl) <| gl_nil <| gx_then ?_
          have hth : (tabR tb (x.div.toNat, n)).isSome = true := by rw [tabR_isSome, hent]; exact h67
          have hws : (whyN (tabR tb) i0 x r0 p0 (whyK s h r0 p0 k) x.div.toNat (n + 1)) = some ⟨en.src, en.pl, en.ch, x.div.toNat, n, i0⟩ := by rw [whyN_t hth]; exact stepW_yes hpz hTC hch9
          rw [show HL.blk b10 [natV en.src, natV en.pl, .slice (rowA r94) (0 + en.ch.length) c94, natV x.div.toNat, natV n, natV i0] 44 = HL.blk b10 ((bestR (whyN (tabR tb) i0 x r0 p0 (whyK s h r0 p0 k) x.div.toNat (n + 1))).cells (rowA r94) c94) 44 by rw [hws, Nat.zero_add]; rfl, show HL.row 3 1 r94 (0 + en.ch.length) c94 ([] ++ en.ch.map natV) = HL.row 3 1 r94 (bestR (whyN (tabR tb) i0 x r0 p0 (whyK s h r0 p0 k) x.div.toNat (n + 1))).ch.length c94 ((bestR (whyN (tabR tb) i0 x r0 p0 (whyK s h r0 p0 k) x.div.toNat (n + 1))).ch.map natV) by rw [hws, Nat.zero_add]; rfl, show Value.bool true = .bool (whyN (tabR tb) i0 x r0 p0 (whyK s h r0 p0 k) x.div.toNat (n + 1)).isSome by rw [hws]; rfl]
          exact gx_cut ((n + 1, r94, c94)) ⟨⟨by simp only; omega, by simp only; omega⟩, by simp only; omega⟩ ⟨rfl, rfl, rfl, rfl, rfl, rfl, rfl, rfl, rfl, rfl, rfl, trivial⟩ (sub_tail (A := [_, _, _, _, _, _, _, _, _]) (B := [_, _, _, _, _, _, _, _, _, _, _]) (T := (TR gs tb ++ TC)) [2, 0, 4, 5, 6, 7, 8, 9, 10] 11 (by decide) (by decide) rfl rfl)
        refine gl_op <| op_rd rfl (rd_pick_t rfl rfl) <| gl_op <| op_rd rfl (rd_move rfl) <| gl_no rfl rfl rfl <| gl_no rfl rfl rfl <| gl_no rfl rfl rfl <| gl_noU rfl rfl rfl <| gl_noU rfl rfl rfl <| gl_noU rfl rfl rfl <| gl_noU rfl rfl rfl <| gl_noU rfl rfl rfl <| gl_noU rfl rfl rfl <| gl_noU rfl rfl rfl <| gl_no rfl rfl rfl <| gl_op <| op_rd rfl (rd_pick_f rfl rfl) <| gl_nil <| gx_then <| gc_cond_f rfl <| gc_skip <| gx_block <| gx_then <| gc_region <| gl_op <| op_rd rfl (rd_move rfl) <| gl_op (op_rd rfl (by exact rd_addN (b := 1) rfl rfl (by omega)) ?_)
        refine gl_op <| op_rd rfl (rd_assign rfl) <| gl_nil <| gx_then ?_
        have hth : (tabR tb (x.div.toNat, n)).isSome = true := by rw [tabR_isSome, hent]; exact h67
        have hws : (whyN (tabR tb) i0 x r0 p0 (whyK s h r0 p0 k) x.div.toNat (n + 1)) = (whyN (tabR tb) i0 x r0 p0 (whyK s h r0 p0 k) x.div.toNat n) := by rw [whyN_t hth]; exact stepW_no hpz
        rw [← hws]
        exact gx_cut ((n + 1, r, c)) ⟨⟨by simp only; omega, by simp only; omega⟩, by simp only; omega⟩ ⟨rfl, rfl, rfl, rfl, rfl, rfl, rfl, rfl, rfl, rfl, rfl, trivial⟩ (sub_tail (A := [_, _, _, _, _, _, _, _, _]) (B := [_, _, _, _, _, _, _, _, _, _]) (T := (TR gs tb ++ TC)) [1, 2, 3, 4, 5, 6, 7, 8, 9] 10 (by decide) (by decide) rfl rfl)
      refine gl_op <| op_rd rfl (rd_move rfl) <| gl_no rfl rfl rfl <| gl_no rfl rfl rfl <| gl_no rfl rfl rfl <| gl_no rfl rfl rfl <| gl_op <| op_rd rfl (rd_pick_f rfl rfl) <| gl_op <| op_rd rfl (rd_move rfl) <| gl_no rfl rfl rfl <| gl_no rfl rfl rfl <| gl_no rfl rfl rfl <| gl_noU rfl rfl rfl <| gl_noU rfl rfl rfl <| gl_noU rfl rfl rfl <| gl_noU rfl rfl rfl <| gl_noU rfl rfl rfl <| gl_noU rfl rfl rfl <| gl_noU rfl rfl rfl <| gl_no rfl rfl rfl <| gl_op <| op_rd rfl (rd_pick_f rfl rfl) <| gl_nil <| gx_then <| gc_cond_f rfl <| gc_skip <| gx_block <| gx_then ?_
      refine gc_region <| gl_op <| op_rd rfl (rd_move rfl) <| gl_op (op_rd rfl (by exact rd_addN (b := 1) rfl rfl (by omega)) ?_)
      refine gl_op <| op_rd rfl (rd_assign rfl) <| gl_nil <| gx_then ?_
      have hws : (whyN (tabR tb) i0 x r0 p0 (whyK s h r0 p0 k) x.div.toNat (n + 1)) = (whyN (tabR tb) i0 x r0 p0 (whyK s h r0 p0 k) x.div.toNat n) := whyN_f (by rw [tabR_isSome, hent]; exact h67)
      rw [← hws]
      exact gx_cut ((n + 1, r, c)) ⟨⟨by simp only; omega, by simp only; omega⟩, by simp only; omega⟩ ⟨rfl, rfl, rfl, rfl, rfl, rfl, rfl, rfl, rfl, rfl, rfl, trivial⟩ (sub_tail (A := [_, _, _, _, _, _, _, _, _]) (B := [_, _, _, _, _, _, _, _, _, _]) (T := (TR gs tb ++ TC)) [1, 2, 3, 4, 5, 6, 7, 8, 9] 10 (by decide) (by decide) rfl rfl)
    have hn9 : n = hi + 1 := by omega
    subst hn9
    rw [hnhi]
    refine gl_nil <| gx_then <| gc_cond_f rfl <| gc_exit <| gx_then_exit <| gx_then_exit <| gx_block_exit <| gx_block <| gx_then <| gc_region <| gl_op <| op_rd rfl (rd_move rfl) <| gl_op (op_rd rfl (by exact rd_addN (b := 1) rfl rfl (by omega)) ?_)
    refine gl_op <| op_rd rfl (rd_assign rfl) <| gl_nil <| gx_then ?_
    exact gx_cut ((k + 1, r, c)) ⟨by simp only; omega, by simp only; omega⟩ ⟨rfl, rfl, rfl, rfl, rfl, rfl, rfl, rfl, trivial⟩ (sub_tail (A := [_, _, _, _, _, _, _]) (B := [_, _, _, _, _, _, _, _, _]) (T := (TR gs tb ++ TC)) [0, 1, 4, 5, 6, 7, 8] 9 (by decide) (by decide) rfl rfl)
  refine gl_nil <| gx_then <| gc_cond_f rfl <| gc_exit <| gx_then_exit <| gx_then_exit <| gx_block_exit <| gx_then <| gc_seq <| gc_seq <| gc_region <| gl_op <| op_rd rfl (rd_move rfl) <| gk_bool (fun h104 => ?_) (fun h104 => ?_)
  · refine gl_op <| op_rd rfl (rd_not rfl) <| gl_nil <| gx_then <| gc_cond_f rfl <| gc_skip <| gx_then <| gc_seq <| gc_region <| gl_op (op_rd rfl (rd_loadAgg Tryd.underlying44 rfl ty_44 rfl (by exact cs_blk 0 (off := 0) (k := 6) rfl rfl) rfl) ?_)
    refine gl_op (op_storeAgg 3 ty_44 rfl rfl rfl rfl rfl rfl (by rfl) ?_)
    refine gl_op <| op_rd rfl (rd_assign rfl) <| gl_nil <| gx_then <| gc_ret ?_
    have hk9 : k = h.ss.length := by omega
    subst hk9
    obtain ⟨u, hbu⟩ : ∃ u, (whyK s h r0 p0 h.ss.length) = some u := Option.isSome_iff_exists.1 h104
    rw [hbu]
    refine gx_retV2S (.inl rfl) Tryd.results18 (rv_agg Tryd.underlying44 rfl ty_44 rfl (by rfl) (cs_blk 3 (off := 0) (k := 6) rfl rfl)) (rv_tmp rfl) (sub_drop (A := [_, _]) (B := [_, _, _, _, _, _, _]) (T := (TR gs tb ++ TC)) [3, 1] 7 (by decide) (by decide) rfl rfl) ?_
    exact ⟨b6, .inr ⟨by omega, h, rfl, hg, .inr ⟨u, rB, cB, hbu, rfl, rfl⟩⟩⟩
  refine gl_op <| op_rd rfl (rd_not rfl) <| gl_nil <| gx_then <| gc_cond_t rfl <| gc_seq <| gc_region <| gl_op (op_rd rfl (rd_build rfl (fun _ => bd_44_)) ?_)
  refine gl_op (op_storeAgg 3 ty_44 rfl rfl rfl rfl rfl rfl (by rfl) ?_)
  refine gl_op <| op_rd rfl (rd_assign rfl) <| gl_nil <| gx_then <| gc_ret <| gx_then_ret ?_
  have hk9 : k = h.ss.length := by omega
  subst hk9
  refine gx_retV2S (.inl rfl) Tryd.results18 (rv_agg Tryd.underlying44 rfl ty_44 rfl (by rfl) (cs_blk 3 (off := 0) (k := 6) rfl rfl)) (rv_tmp rfl) (sub_drop (A := [_]) (B := [_, _, _, _, _, _, _]) (T := (TR gs tb ++ TC)) [3] 7 (by decide) (by decide) rfl rfl) ?_
  refine ⟨b6, .inr ⟨by omega, h, rfl, hg, .inl ⟨?_, rfl, rfl⟩⟩⟩
  cases hq : (whyK s h r0 p0 h.ss.length) with
  | none => rfl
  | some u => rw [hq] at h104; cases h104
end Go.Proofs.YtbjijbbkfgcleaaDoor
namespace Go.Proofs.YtbjijbbkfgcleaaDoor
open Go.Gv
open Go.RowKit
open Go.Sn
open Sx
set_option maxRecDepth 100000 in
set_option maxHeartbeats 1000000 in
theorem lawWhy_ok (s : Org) (h : Hd) (hle : OrgLe s) (hhe : HdLe h) (r0 p0 : Int) (w0 : World) (hS : OrgIn s w0 []) (hH : HdIn h w0 []) (hT : TabIn w0) : Sp Tryd.prog 4 [s.val, h.val, .agg #[.int .i64 r0, .int .i64 p0]] w0 [] (RV (.bool true)) := by
  refine spec_enter Tryd.func4 rfl Tryd.ntmps4 rfl (Own.refl _) ?_
  simp only [argEnv]
  refine gc_seq <| gc_region <| gl_op (op_box rfl rfl rfl (fun b3 => ?_))
  refine gl_op (op_box rfl rfl rfl (fun b4 => ?_))
  refine gl_op (op_box rfl rfl rfl (fun b5 => ?_))
  refine gl_op <| op_rd rfl (rd_assign rfl) <| gl_nil <| gx_then <| gc_seq <| gc_seq <| gc_region <| gl_op (op_rd rfl (rd_loadAgg Tryd.underlying27 rfl ty_27 rfl (by exact cs_blk 2 (off := 0) (k := 4) rfl rfl) rfl) ?_)
  refine gl_op (op_call rfl (vf := []) (vc := []) rfl rfl Tryd.call9 (fun w1 ho => far10_ok s hle w1 (hS.at ho)) ?_)
  rintro _ _ ⟨fa, rfl, rfl⟩
  refine gl_op <| op_rd rfl (rd_move rfl) <| gk_bool (fun h13 => ?_) (fun h13 => ?_)
  · refine gl_no rfl rfl rfl <| gl_no rfl rfl rfl <| gl_op <| op_rd rfl (rd_pick_t rfl rfl) <| gk_bool (fun h16 => ?_) (fun h16 => ?_)
    · refine gl_nil <| gx_then <| gc_cond_t rfl <| gc_seq <| gc_region <| gl_op (op_call rfl (vf := []) (vc := []) rfl rfl Tryd.call11 (fun w1 ho => shown_ok w1 (hT.at ho (by decide))) ?_)
      rintro _ _ ⟨rfl, rfl⟩
      refine gl_op <| op_rd rfl (rd_assign rfl) <| gl_nil <| gx_then <| gc_ret <| gx_then_ret <| gx_ret1 (.inl rfl) Tryd.results4 rfl [] (by decide) ?_
      exact ⟨rfl, rfl⟩
    refine gl_nil <| gx_then <| gc_cond_f rfl <| gc_skip <| gx_then <| gc_seq <| gc_region <| gl_op (op_rd rfl (rd_loadAgg Tryd.underlying27 rfl ty_27 rfl (by exact cs_blk 2 (off := 0) (k := 4) rfl rfl) rfl) ?_)
    refine gl_op (op_rd rfl (rd_loadAgg Tryd.underlying31 rfl ty_31 rfl (by exact cs_blk 1 (off := 0) (k := 3) rfl rfl) rfl) ?_)
    refine gl_op (op_rd rfl (rd_loadAgg Tryd.underlying42 rfl ty_42 rfl (by exact cs_blk 0 (off := 0) (k := 2) rfl rfl) rfl) ?_)
    refine gl_op (op_call rfl (vf := []) (vc := []) rfl rfl Tryd.call17 (fun w1 ho => whyQ_sp (Why_ok s h hle hhe r0 p0 w1 (hS.at ho) (hH.at ho) (hT.at ho (by decide)))) ?_)
    rintro _ _ ⟨b22, r22, c22, rfl, rfl⟩
    refine gl_op <| op_rd rfl (rd_move rfl) <| gl_op <| op_rd rfl (rd_extract rfl rfl) <| gl_op <| op_rd rfl (rd_extract rfl rfl) <| gl_op (op_alloc ty_44 rfl rfl (fun b7 => ?_))
    refine gl_op (op_storeAgg 0 ty_44 rfl rfl rfl rfl rfl rfl (by rfl) ?_)
    refine gl_op <| op_rd rfl (rd_assign rfl) <| gl_nil <| gx_then <| gc_seq <| gc_region <| gl_op (op_rd rfl (rd_loadAgg Tryd.underlying27 rfl ty_27 rfl (by exact cs_blk 5 (off := 0) (k := 4) rfl rfl) rfl) ?_)
    refine gl_op (op_rd rfl (rd_loadAgg Tryd.underlying31 rfl ty_31 rfl (by exact cs_blk 4 (off := 0) (k := 3) rfl rfl) rfl) ?_)
    refine gl_op (op_rd rfl (rd_loadAgg Tryd.underlying42 rfl ty_42 rfl (by exact cs_blk 3 (off := 0) (k := 2) rfl rfl) rfl) ?_)
    refine gl_op (op_call rfl (vf := []) (vc := []) rfl rfl Tryd.call18 (fun w1 ho => whyQ_sp (rWhy_ok s h hle hhe r0 p0 w1 (hS.at ho) (hH.at ho))) ?_)
    rintro _ _ ⟨b29, r29, c29, rfl, rfl⟩
    refine gl_op <| op_rd rfl (rd_move rfl) <| gl_op <| op_rd rfl (rd_extract rfl rfl) <| gl_op <| op_rd rfl (rd_extract rfl rfl) <| gl_op (op_alloc ty_44 rfl rfl (fun b9 => ?_))
    refine gl_op (op_storeAgg 0 ty_44 rfl rfl rfl rfl rfl rfl (by rfl) ?_)
    refine gl_op <| op_rd rfl (rd_assign rfl) <| gl_nil <| gx_then <| gc_seq <| gc_region <| gl_op (op_rd rfl (rd_loadAgg Tryd.underlying44 rfl ty_44 rfl (by exact cs_blk 3 (off := 0) (k := 6) rfl rfl) rfl) ?_)
    refine gl_op (op_rd rfl (rd_loadAgg Tryd.underlying44 rfl ty_44 rfl (by exact cs_blk 0 (off := 0) (k := 6) rfl rfl) rfl) ?_)
    refine gl_op (op_call rfl (vf := []) (vc := []) rfl rfl Tryd.call19 (fun w1 ho => SameReason_ok (whyA s h r0 p0).1 (whyA s h r0 p0).1 (rowA r22) (rowA r29) c22 c29 (whyA_len hhe r0 p0) w1 (ho.rowSl 4 rfl) (ho.rowSl 1 rfl)) ?_)
    rintro _ _ ⟨rfl, rfl⟩
    refine gk_bool (fun h34 => ?_) (fun h34 => ?_)
    · refine gl_op <| op_rd rfl (rd_move rfl) <| gl_yes rfl rfl <| op_rd rfl (rd_move rfl) <| gl_yes rfl rfl <| op_rd rfl (rd_move rfl) <| gl_yes rfl rfl (op_rd rfl (rd_eql rfl rfl) (gk_dec (fun h38 => ?_) (fun h38 => ?_)))
      · refine gl_op <| op_rd rfl (rd_pick_t rfl rfl) <| gl_op <| op_rd rfl (rd_move rfl) <| gl_yes rfl rfl (op_call rfl (vf := []) (vc := []) rfl rfl Tryd.call11 (fun w1 ho => shown_ok w1 (hT.at ho (by decide))) ?_)
        rintro _ _ ⟨rfl, rfl⟩
        refine gl_op <| op_rd rfl (rd_pick_t rfl rfl) <| gl_op <| op_rd rfl (rd_assign rfl) <| gl_nil <| gx_then <| gc_ret <| gx_ret1 (.inl rfl) Tryd.results4 rfl [] (by decide) ?_
        exact ⟨rfl, rfl⟩
      exact absurd rfl h38
    rw [decide_eq_true rfl] at h34; cases h34
  refine gl_yes rfl rfl (op_rd rfl (rd_loadAgg Tryd.underlying31 rfl ty_31 rfl (by exact cs_blk 1 (off := 0) (k := 3) rfl rfl) rfl) ?_)
  refine gl_yes rfl rfl (op_call rfl (vf := []) (vc := []) rfl rfl Tryd.call10 (fun w1 ho => far12_ok h hhe w1 (hH.at ho)) ?_)
  rintro _ _ ⟨fb, rfl, rfl⟩
  refine gl_op <| op_rd rfl (rd_pick_f rfl rfl) <| gk_bool (fun h16 => ?_) (fun h16 => ?_)
  · refine gl_nil <| gx_then <| gc_cond_t rfl <| gc_seq <| gc_region <| gl_op (op_call rfl (vf := []) (vc := []) rfl rfl Tryd.call11 (fun w1 ho => shown_ok w1 (hT.at ho (by decide))) ?_)
    rintro _ _ ⟨rfl, rfl⟩
    refine gl_op <| op_rd rfl (rd_assign rfl) <| gl_nil <| gx_then <| gc_ret <| gx_then_ret <| gx_ret1 (.inl rfl) Tryd.results4 rfl [] (by decide) ?_
    exact ⟨rfl, rfl⟩
  refine gl_nil <| gx_then <| gc_cond_f rfl <| gc_skip <| gx_then <| gc_seq <| gc_region <| gl_op (op_rd rfl (rd_loadAgg Tryd.underlying27 rfl ty_27 rfl (by exact cs_blk 2 (off := 0) (k := 4) rfl rfl) rfl) ?_)
  refine gl_op (op_rd rfl (rd_loadAgg Tryd.underlying31 rfl ty_31 rfl (by exact cs_blk 1 (off := 0) (k := 3) rfl rfl) rfl) ?_)
  refine gl_op (op_rd rfl (rd_loadAgg Tryd.underlying42 rfl ty_42 rfl (by exact cs_blk 0 (off := 0) (k := 2) rfl rfl) rfl) ?_)
  refine gl_op (op_call rfl (vf := []) (vc := []) rfl rfl Tryd.call17 (fun w1 ho => whyQ_sp (Why_ok s h hle hhe r0 p0 w1 (hS.at ho) (hH.at ho) (hT.at ho (by decide)))) ?_)
  rintro _ _ ⟨b22, r22, c22, rfl, rfl⟩
  refine gl_op <| op_rd rfl (rd_move rfl) <| gl_op <| op_rd rfl (rd_extract rfl rfl) <| gl_op <| op_rd rfl (rd_extract rfl rfl) <| gl_op (op_alloc ty_44 rfl rfl (fun b7 => ?_))
  refine gl_op (op_storeAgg 0 ty_44 rfl rfl rfl rfl rfl rfl (by rfl) ?_)
  refine gl_op <| op_rd rfl (rd_assign rfl) <| gl_nil <| gx_then <| gc_seq <| gc_region <| gl_op (op_rd rfl (rd_loadAgg Tryd.underlying27 rfl ty_27 rfl (by exact cs_blk 5 (off := 0) (k := 4) rfl rfl) rfl) ?_)
  refine gl_op (op_rd rfl (rd_loadAgg Tryd.underlying31 rfl ty_31 rfl (by exact cs_blk 4 (off := 0) (k := 3) rfl rfl) rfl) ?_)
  refine gl_op (op_rd rfl (rd_loadAgg Tryd.underlying42 rfl ty_42 rfl (by exact cs_blk 3 (off := 0) (k := 2) rfl rfl) rfl) ?_)
  refine gl_op (op_call rfl (vf := []) (vc := []) rfl rfl Tryd.call18 (fun w1 ho => whyQ_sp (rWhy_ok s h hle hhe r0 p0 w1 (hS.at ho) (hH.at ho))) ?_)
  rintro _ _ ⟨b29, r29, c29, rfl, rfl⟩
  refine gl_op <| op_rd rfl (rd_move rfl) <| gl_op <| op_rd rfl (rd_extract rfl rfl) <| gl_op <| op_rd rfl (rd_extract rfl rfl) <| gl_op (op_alloc ty_44 rfl rfl (fun b9 => ?_))
  refine gl_op (op_storeAgg 0 ty_44 rfl rfl rfl rfl rfl rfl (by rfl) ?_)
  refine gl_op <| op_rd rfl (rd_assign rfl) <| gl_nil <| gx_then <| gc_seq <| gc_region <| gl_op (op_rd rfl (rd_loadAgg Tryd.underlying44 rfl ty_44 rfl (by exact cs_blk 3 (off := 0) (k := 6) rfl rfl) rfl) ?_)
  refine gl_op (op_rd rfl (rd_loadAgg Tryd.underlying44 rfl ty_44 rfl (by exact cs_blk 0 (off := 0) (k := 6) rfl rfl) rfl) ?_)
  refine gl_op (op_call rfl (vf := []) (vc := []) rfl rfl Tryd.call19 (fun w1 ho => SameReason_ok (whyA s h r0 p0).1 (whyA s h r0 p0).1 (rowA r22) (rowA r29) c22 c29 (whyA_len hhe r0 p0) w1 (ho.rowSl 4 rfl) (ho.rowSl 1 rfl)) ?_)
  rintro _ _ ⟨rfl, rfl⟩
  refine gk_bool (fun h34 => ?_) (fun h34 => ?_)
  · refine gl_op <| op_rd rfl (rd_move rfl) <| gl_yes rfl rfl <| op_rd rfl (rd_move rfl) <| gl_yes rfl rfl <| op_rd rfl (rd_move rfl) <| gl_yes rfl rfl (op_rd rfl (rd_eql rfl rfl) (gk_dec (fun h38 => ?_) (fun h38 => ?_)))
    · refine gl_op <| op_rd rfl (rd_pick_t rfl rfl) <| gl_op <| op_rd rfl (rd_move rfl) <| gl_yes rfl rfl (op_call rfl (vf := []) (vc := []) rfl rfl Tryd.call11 (fun w1 ho => shown_ok w1 (hT.at ho (by decide))) ?_)
      rintro _ _ ⟨rfl, rfl⟩
      refine gl_op <| op_rd rfl (rd_pick_t rfl rfl) <| gl_op <| op_rd rfl (rd_assign rfl) <| gl_nil <| gx_then <| gc_ret <| gx_ret1 (.inl rfl) Tryd.results4 rfl [] (by decide) ?_
      exact ⟨rfl, rfl⟩
    exact absurd rfl h38
  rw [decide_eq_true rfl] at h34; cases h34
end Go.Proofs.YtbjijbbkfgcleaaDoor
