import Derived.Test.YtbjijbbkfgcleaaDoorW03
import Derived.Test.YtbjijbbkfgcleaaDoorW01
/- A part of the proof: walks of the program. -/
set_option autoImplicit false
set_option linter.unusedSimpArgs false
set_option linter.unusedVariables false
set_option linter.unnecessarySimpa false
namespace Go.Proofs.YtbjijbbkfgcleaaDoor
open Go.Gv
open Go.RowKit
open Go.Sn
open Sx
set_option maxRecDepth 100000 in
set_option maxHeartbeats 1000000 in
theorem lawKnown_ok (w0 : World) (hT : TabIn w0) : Sp Tryd.prog 8 [] w0 [] (RV (.bool true)) := by
  refine spec_enter Tryd.func8 rfl Tryd.ntmps8 rfl (Own.refl _) ?_
  simp only [argEnv]
  refine gc_seq <| gc_region <| gl_op <| op_rd rfl (rd_assign rfl) <| gl_nil <| gx_then <| gc_seq <| gc_region <| gl_op (op_call rfl (vf := []) (vc := []) rfl rfl Tryd.call27 (fun w1 ho => ex12_ok w1) ?_)
  rintro _ _ ⟨be1, d1, r1, pa1, pb1, pc1, t1, c1, cc1, rfl, rfl⟩
  refine gl_op (op_alloc ty_27 rfl rfl (fun b1 => ?_))
  refine gl_op (op_storeAgg 0 ty_27 rfl rfl rfl rfl rfl rfl (by rfl) ?_)
  refine gl_nil <| gx_then <| gc_seq <| gc_region <| gl_op (op_buildSlice (sz := 1) rfl rfl (fun _ => bs_29_2_0_1 _ _) rfl rfl (fun b20 => ?_))
  refine gl_op (op_buildSlice (sz := 1) rfl rfl (fun _ => bs_28_1_0 _ _ _) rfl rfl (fun b21 => ?_))
  refine gl_op (op_buildSlice (sz := 1) rfl rfl (fun _ => bs_29_1_0 _) rfl rfl (fun b22 => ?_))
  refine gl_op (op_rd rfl (rd_build rfl (fun _ => bd_31_0_1 _ _ _ _ _ _)) ?_)
  refine gl_op (op_alloc ty_31 rfl rfl (fun b2 => ?_))
  refine gl_op (op_storeAgg 0 ty_31 rfl rfl rfl rfl rfl rfl (by rfl) ?_)
  refine gl_nil <| gx_then <| gc_seq <| gc_region <| gl_op (op_buildSlice (sz := 1) rfl rfl (fun _ => bs_29_2_0_1 _ _) rfl rfl (fun b24 => ?_))
  refine gl_op (op_buildSlice (sz := 1) rfl rfl (fun _ => bs_28_1_0 _ _ _) rfl rfl (fun b25 => ?_))
  refine gl_op (op_buildSlice (sz := 1) rfl rfl (fun _ => bs_29_1_0 _) rfl rfl (fun b26 => ?_))
  refine gl_op (op_buildSlice (sz := 1) rfl rfl (fun _ => bs_29_1_0 _) rfl rfl (fun b27 => ?_))
  refine gl_op (op_rd rfl (rd_build rfl (fun _ => bd_31_0_1_2 _ _ _ _ _ _ _ _ _)) ?_)
  refine gl_op (op_alloc ty_31 rfl rfl (fun b3 => ?_))
  refine gl_op (op_storeAgg 0 ty_31 rfl rfl rfl rfl rfl rfl (by rfl) ?_)
  refine gl_nil <| gx_then <| gc_seq <| gc_region <| gl_op (op_buildSlice (sz := 1) rfl rfl (fun _ => bs_29_2_0_1 _ _) rfl rfl (fun b29 => ?_))
  refine gl_op (op_buildSlice (sz := 1) rfl rfl (fun _ => bs_28_1_0 _ _ _) rfl rfl (fun b30 => ?_))
  refine gl_op (op_buildSlice (sz := 1) rfl rfl (fun _ => bs_29_1_0 _) rfl rfl (fun b31 => ?_))
  refine gl_op (op_buildSlice (sz := 1) rfl rfl (fun _ => bs_29_1_0 _) rfl rfl (fun b32 => ?_))
  refine gl_op (op_rd rfl (rd_build rfl (fun _ => bd_31_0_1_2 _ _ _ _ _ _ _ _ _)) ?_)
  refine gl_op (op_alloc ty_31 rfl rfl (fun b4 => ?_))
  refine gl_op (op_storeAgg 0 ty_31 rfl rfl rfl rfl rfl rfl (by rfl) ?_)
  refine gl_nil <| gx_then <| gc_seq <| gc_region <| gl_op (op_buildSlice (sz := 1) rfl rfl (fun _ => bs_29_1_0 _) rfl rfl (fun b34 => ?_))
  refine gl_op (op_buildSlice (sz := 1) rfl rfl (fun _ => bs_28_1_0 _ _ _) rfl rfl (fun b35 => ?_))
  refine gl_op (op_buildSlice (sz := 1) rfl rfl (fun _ => bs_29_2_0_1 _ _) rfl rfl (fun b36 => ?_))
  refine gl_op (op_buildSlice (sz := 1) rfl rfl (fun _ => bs_29_2_0_1 _ _) rfl rfl (fun b37 => ?_))
  refine gl_op (op_rd rfl (rd_build rfl (fun _ => bd_31_0_1_2 _ _ _ _ _ _ _ _ _)) ?_)
  refine gl_op (op_alloc ty_31 rfl rfl (fun b5 => ?_))
  refine gl_op (op_storeAgg 0 ty_31 rfl rfl rfl rfl rfl rfl (by rfl) ?_)
  refine gl_nil <| gx_then <| gc_seq <| gc_region <| gl_op (op_rd rfl (rd_loadAgg Tryd.underlying27 rfl ty_27 rfl (by exact cs_blk 19 (off := 0) (k := 4) rfl rfl) rfl) ?_)
  refine gl_op (op_rd rfl (rd_loadAgg Tryd.underlying31 rfl ty_31 rfl (by exact cs_blk 15 (off := 0) (k := 3) rfl rfl) rfl) ?_)
  refine gl_op (op_call rfl (vf := []) (vc := []) rfl rfl Tryd.call21 (fun w1 ho => Pipes_ok (ex12 d1 r1 pa1 pb1 pc1 t1 c1 cc1) (xHN (rowA (some b21)) (rowA (some b20)) (rowA (some b22)) none 0 [40, 50] [0] []).hd ex_le (xh_le (by decide) (by decide) (by decide)) w1 (ex_in (ho.rowSl 27 rfl) (ho.rowSl 26 rfl) (ho.rowSl 22 rfl) (ho.rowSl 21 rfl) (ho.rowSl 25 rfl) (ho.rowSl 24 rfl) (ho.rowSl 23 rfl)) (xh_in (ho.rowSl 17 rfl) (ho.rowSl 18 rfl) (ho.rowSl 16 rfl) (oldNil _ _ _)) (hT.at ho (by decide))) ?_)
  rintro _ _ hq
  obtain ⟨r42, c42, rfl, rfl⟩ := x_PipesR hq err1 snd1
  refine gl_op <| op_rd rfl (rd_move rfl) <| gl_op <| op_rd rfl (rd_extract rfl rfl) <| gl_op <| op_rd rfl (rd_extract rfl rfl) <| gl_op <| op_rd rfl (rd_assign rfl) <| gl_op <| op_rd rfl (rd_assign rfl) <| gl_nil <| gx_then <| gc_seq <| gc_region <| gl_op (op_rd rfl (rd_loadAgg Tryd.underlying27 rfl ty_27 rfl (by exact cs_blk 20 (off := 0) (k := 4) rfl rfl) rfl) ?_)
  refine gl_op (op_rd rfl (rd_loadAgg Tryd.underlying31 rfl ty_31 rfl (by exact cs_blk 11 (off := 0) (k := 3) rfl rfl) rfl) ?_)
  refine gl_op (op_call rfl (vf := []) (vc := []) rfl rfl Tryd.call21 (fun w1 ho => Pipes_ok (ex12 d1 r1 pa1 pb1 pc1 t1 c1 cc1) (xHN (rowA (some b25)) (rowA (some b24)) (rowA (some b26)) (rowA (some b27)) 1 [40, 50] [0] [0]).hd ex_le (xh_le (by decide) (by decide) (by decide)) w1 (ex_in (ho.rowSl 28 rfl) (ho.rowSl 27 rfl) (ho.rowSl 23 rfl) (ho.rowSl 22 rfl) (ho.rowSl 26 rfl) (ho.rowSl 25 rfl) (ho.rowSl 24 rfl)) (xh_in (ho.rowSl 14 rfl) (ho.rowSl 15 rfl) (ho.rowSl 13 rfl) (ho.rowSl 12 rfl)) (hT.at ho (by decide))) ?_)
  rintro _ _ hq
  obtain ⟨r48, c48, rfl, rfl⟩ := x_PipesR hq err2 snd2
  refine gl_op <| op_rd rfl (rd_move rfl) <| gl_op <| op_rd rfl (rd_extract rfl rfl) <| gl_op <| op_rd rfl (rd_extract rfl rfl) <| gl_op <| op_rd rfl (rd_assign rfl) <| gl_op <| op_rd rfl (rd_assign rfl) <| gl_nil <| gx_then <| gc_seq <| gc_region <| gl_op (op_rd rfl (rd_loadAgg Tryd.underlying27 rfl ty_27 rfl (by exact cs_blk 21 (off := 0) (k := 4) rfl rfl) rfl) ?_)
  refine gl_op (op_rd rfl (rd_loadAgg Tryd.underlying31 rfl ty_31 rfl (by exact cs_blk 7 (off := 0) (k := 3) rfl rfl) rfl) ?_)
  refine gl_op (op_call rfl (vf := []) (vc := []) rfl rfl Tryd.call12 (fun w1 ho => Keys_ok (ex12 d1 r1 pa1 pb1 pc1 t1 c1 cc1) (xHN (rowA (some b30)) (rowA (some b29)) (rowA (some b31)) (rowA (some b32)) 1 [40, 50] [0] [2]).hd ex_le (xh_le (by decide) (by decide) (by decide)) w1 (ex_in (ho.rowSl 29 rfl) (ho.rowSl 28 rfl) (ho.rowSl 24 rfl) (ho.rowSl 23 rfl) (ho.rowSl 27 rfl) (ho.rowSl 26 rfl) (ho.rowSl 25 rfl)) (xh_in (ho.rowSl 10 rfl) (ho.rowSl 11 rfl) (ho.rowSl 9 rfl) (ho.rowSl 8 rfl)) (hT.at ho (by decide))) ?_)
  rintro _ _ hq
  obtain ⟨r54, g54, hg54, rfl, rfl⟩ := x_KeysR hq err3 (fun hg => x_keys hg (by omega) lev3.1 lev3.2) rfl
  unfold KG.hl
  refine gl_op <| op_rd rfl (rd_move rfl) <| gl_op <| op_rd rfl (rd_extract rfl rfl) <| gl_op <| op_rd rfl (rd_extract rfl rfl) <| gl_op <| op_rd rfl (rd_assign rfl) <| gl_op <| op_rd rfl (rd_assign rfl) <| gl_nil <| gx_then <| gc_seq <| gc_region <| gl_op (op_rd rfl (rd_loadAgg Tryd.underlying27 rfl ty_27 rfl (by exact cs_blk 23 (off := 0) (k := 4) rfl rfl) rfl) ?_)
  refine gl_op (op_rd rfl (rd_loadAgg Tryd.underlying31 rfl ty_31 rfl (by exact cs_blk 4 (off := 0) (k := 3) rfl rfl) rfl) ?_)
  refine gl_op (op_call rfl (vf := []) (vc := []) rfl rfl Tryd.call28 (fun w1 ho => Doubled_ok (ex12 d1 r1 pa1 pb1 pc1 t1 c1 cc1) (xHN (rowA (some b35)) (rowA (some b34)) (rowA (some b36)) (rowA (some b37)) 2 [36] [0, 1] [0, 3]).hd ex_le (xh_le (by decide) (by decide) (by decide)) w1 (ex_in (ho.rowSl 31 rfl) (ho.rowSl 30 rfl) (ho.rowSl 26 rfl) (ho.rowSl 25 rfl) (ho.rowSl 29 rfl) (ho.rowSl 28 rfl) (ho.rowSl 27 rfl)) (xh_in (ho.rowSl 7 rfl) (ho.rowSl 8 rfl) (ho.rowSl 6 rfl) (ho.rowSl 5 rfl)) (hT.at ho (by decide))) ?_)
  rintro _ _ hq
  obtain ⟨r60, c60, rfl, rfl⟩ := x_DoubR hq err4 dbl4
  refine gl_op <| op_rd rfl (rd_move rfl) <| gl_op <| op_rd rfl (rd_extract rfl rfl) <| gl_op <| op_rd rfl (rd_extract rfl rfl) <| gl_op <| op_rd rfl (rd_assign rfl) <| gl_op <| op_rd rfl (rd_assign rfl) <| gl_nil <| gx_then <| gc_seq <| gc_region <| gl_op (op_rd rfl (rd_loadAgg Tryd.underlying27 rfl ty_27 rfl (by exact cs_blk 24 (off := 0) (k := 4) rfl rfl) rfl) ?_)
  refine gl_op (op_rd rfl (rd_loadAgg Tryd.underlying31 rfl ty_31 rfl (by exact cs_blk 5 (off := 0) (k := 3) rfl rfl) rfl) ?_)
  refine gl_op (op_rd rfl (rd_build rfl (fun _ => bd_42_1 _)) ?_)
  refine gl_op (op_call rfl (vf := []) (vc := []) rfl rfl Tryd.call17 (fun w1 ho => Why_ok (ex12 d1 r1 pa1 pb1 pc1 t1 c1 cc1) (xHN (rowA (some b35)) (rowA (some b34)) (rowA (some b36)) (rowA (some b37)) 2 [36] [0, 1] [0, 3]).hd ex_le (xh_le (by decide) (by decide) (by decide)) 0 60 w1 (ex_in (ho.rowSl 32 rfl) (ho.rowSl 31 rfl) (ho.rowSl 27 rfl) (ho.rowSl 26 rfl) (ho.rowSl 30 rfl) (ho.rowSl 29 rfl) (ho.rowSl 28 rfl)) (xh_in (ho.rowSl 8 rfl) (ho.rowSl 9 rfl) (ho.rowSl 7 rfl) (ho.rowSl 6 rfl)) (hT.at ho (by decide))) ?_)
  rintro _ _ hq
  obtain ⟨b67, r67, c67, rfl, rfl⟩ := x_WhyR hq err4 why4
  refine gl_op <| op_rd rfl (rd_move rfl) <| gl_op <| op_rd rfl (rd_extract rfl rfl) <| gl_op <| op_rd rfl (rd_extract rfl rfl) <| gl_op (op_alloc ty_44 rfl rfl (fun b14 => ?_))
  refine gl_op (op_storeAgg 0 ty_44 rfl rfl rfl rfl rfl rfl (by rfl) ?_)
  refine gl_op <| op_rd rfl (rd_assign rfl) <| gl_nil <| gx_then <| gc_seq <| gc_region <| gl_op (op_rd rfl (rd_loadAgg Tryd.underlying27 rfl ty_27 rfl (by exact cs_blk 27 (off := 0) (k := 4) rfl rfl) rfl) ?_)
  refine gl_op (op_rd rfl (rd_loadAgg Tryd.underlying31 rfl ty_31 rfl (by exact cs_blk 23 (off := 0) (k := 3) rfl rfl) rfl) ?_)
  refine gl_op (op_rd rfl (rd_loadAgg Tryd.underlying31 rfl ty_31 rfl (by exact cs_blk 18 (off := 0) (k := 3) rfl rfl) rfl) ?_)
  refine gl_op (op_call rfl (vf := []) (vc := []) rfl rfl Tryd.call26 (fun w1 ho => Change_ok (ex12 d1 r1 pa1 pb1 pc1 t1 c1 cc1) (xHN (rowA (some b21)) (rowA (some b20)) (rowA (some b22)) none 0 [40, 50] [0] []).hd (xHN (rowA (some b25)) (rowA (some b24)) (rowA (some b26)) (rowA (some b27)) 1 [40, 50] [0] [0]).hd ex_le (xh_le (by decide) (by decide) (by decide)) (xh_le (by decide) (by decide) (by decide)) w1 (ex_in (ho.rowSl 35 rfl) (ho.rowSl 34 rfl) (ho.rowSl 30 rfl) (ho.rowSl 29 rfl) (ho.rowSl 33 rfl) (ho.rowSl 32 rfl) (ho.rowSl 31 rfl)) (xh_in (ho.rowSl 25 rfl) (ho.rowSl 26 rfl) (ho.rowSl 24 rfl) (oldNil _ _ _)) (xh_in (ho.rowSl 21 rfl) (ho.rowSl 22 rfl) (ho.rowSl 20 rfl) (ho.rowSl 19 rfl)) (hT.at ho (by decide))) ?_)
  rintro _ _ hq
  obtain ⟨r74, r75, c74, c75, rfl, rfl⟩ := x_ChangeR hq err1 err2 diff12
  refine gl_op <| op_rd rfl (rd_move rfl) <| gl_op <| op_rd rfl (rd_extract rfl rfl) <| gl_op <| op_rd rfl (rd_extract rfl rfl) <| gl_op <| op_rd rfl (rd_extract rfl rfl) <| gl_op <| op_rd rfl (rd_assign rfl) <| gl_op <| op_rd rfl (rd_assign rfl) <| gl_op <| op_rd rfl (rd_assign rfl) <| gl_nil <| gx_then <| gc_seq <| gc_seq <| gc_region <| gl_op <| op_rd rfl (rd_move rfl) <| gl_op (op_rd rfl (rd_neq rfl rfl) (gk_dec (fun h79 => ?_) (fun h79 => ?_)))
  · exact absurd rfl h79
  refine gl_op <| op_rd rfl (rd_move rfl) <| gl_yes rfl rfl <| op_rd rfl (rd_move rfl) <| gl_yes rfl rfl (op_rd rfl (rd_neq rfl rfl) (gk_dec (fun h82 => ?_) (fun h82 => ?_)))
  · exact absurd rfl h82
  refine gl_op <| op_rd rfl (rd_pick_f rfl rfl) <| gl_op <| op_rd rfl (rd_move rfl) <| gl_yes rfl rfl <| op_rd rfl (rd_move rfl) <| gl_yes rfl rfl (op_rd rfl (rd_neq rfl rfl) (gk_dec (fun h86 => ?_) (fun h86 => ?_)))
  · exact absurd rfl h86
  refine gl_op <| op_rd rfl (rd_pick_f rfl rfl) <| gl_op <| op_rd rfl (rd_move rfl) <| gl_yes rfl rfl <| op_rd rfl (rd_move rfl) <| gl_yes rfl rfl (op_rd rfl (rd_neq rfl rfl) (gk_dec (fun h90 => ?_) (fun h90 => ?_)))
  · exact absurd rfl h90
  refine gl_op <| op_rd rfl (rd_pick_f rfl rfl) <| gl_op <| op_rd rfl (rd_move rfl) <| gl_yes rfl rfl <| op_rd rfl (rd_move rfl) <| gl_yes rfl rfl (op_rd rfl (rd_neq rfl rfl) (gk_dec (fun h94 => ?_) (fun h94 => ?_)))
  · exact absurd rfl h94
  refine gl_op <| op_rd rfl (rd_pick_f rfl rfl) <| gl_op <| op_rd rfl (rd_move rfl) <| gl_yes rfl rfl <| op_rd rfl (rd_move rfl) <| gl_yes rfl rfl (op_rd rfl (rd_neq rfl rfl) (gk_dec (fun h98 => ?_) (fun h98 => ?_)))
  · exact absurd rfl h98
  refine gl_op <| op_rd rfl (rd_pick_f rfl rfl) <| gl_op <| op_rd rfl (rd_move rfl) <| gl_yes rfl rfl <| op_rd rfl (rd_move rfl) <| gl_yes rfl rfl <| op_rd rfl (rd_lenSlice Tryd.underlying28 rfl) <| gl_yes rfl rfl (op_rd rfl (rd_neq rfl rfl) (gk_dec (fun h103 => ?_) (fun h103 => ?_)))
  · exact absurd rfl h103
  refine gl_op <| op_rd rfl (rd_pick_f rfl rfl) <| gl_op <| op_rd rfl (rd_move rfl) <| gl_yes rfl rfl <| op_rd rfl (rd_move rfl) <| gl_yes rfl rfl <| op_rd rfl (rd_lenSlice Tryd.underlying49 rfl) <| gl_yes rfl rfl (op_rd rfl (rd_neq rfl rfl) (gk_dec (fun h108 => ?_) (fun h108 => ?_)))
  · exact absurd rfl h108
  refine gl_op <| op_rd rfl (rd_pick_f rfl rfl) <| gl_nil <| gx_then <| gc_cond_f rfl <| gc_skip <| gx_then <| gc_seq <| gc_region <| gl_op <| op_rd rfl (rd_move rfl) <| gl_op (op_buildSlice (sz := 1) rfl rfl (fun _ => bs_29_2_0_1 _ _) rfl rfl (fun b111 => ?_))
  refine gl_op (op_call rfl (vf := []) (vc := []) rfl rfl Tryd.call30 (fun w1 ho => flutes_ok [40, 50] _ _ (by decide) w1 (ho.rowSl 0 rfl)) ?_)
  rintro _ _ ⟨r112, c112, rfl, rfl⟩
  refine gl_op (op_call rfl (vf := []) (vc := []) rfl rfl Tryd.call29 (fun w1 ho => SamePipes_ok (flutesP [40, 50]) (flutesP [40, 50]) _ _ _ _ (by decide) w1 (ho.rowSl 11 rfl) (ho.rowSl 0 rfl)) ?_)
  rintro _ _ ⟨rfl, rfl⟩
  refine gk_bool (fun h113 => ?_) (fun h113 => ?_)
  · refine gl_op <| op_rd rfl (rd_move rfl) <| gl_yes rfl rfl <| op_rd rfl (rd_move rfl) <| gl_yes rfl rfl (op_buildSlice (sz := 1) rfl rfl (fun _ => bs_29_3_0_1_2 _ _ _) rfl rfl (fun b116 => ?_))
    refine gl_yes rfl rfl (op_call rfl (vf := []) (vc := []) rfl rfl Tryd.call30 (fun w1 ho => flutes_ok [40, 50, 52] _ _ (by decide) w1 (ho.rowSl 0 rfl)) ?_)
    rintro _ _ ⟨r117, c117, rfl, rfl⟩
    refine gl_yes rfl rfl (op_call rfl (vf := []) (vc := []) rfl rfl Tryd.call29 (fun w1 ho => SamePipes_ok (flutesP [40, 50, 52]) (flutesP [40, 50, 52]) _ _ _ _ (by decide) w1 (ho.rowSl 12 rfl) (ho.rowSl 0 rfl)) ?_)
    rintro _ _ ⟨rfl, rfl⟩
    refine gk_bool (fun h118 => ?_) (fun h118 => ?_)
    · refine gl_op <| op_rd rfl (rd_pick_t rfl rfl) <| gl_op <| op_rd rfl (rd_move rfl) <| gl_yes rfl rfl <| op_rd rfl (rd_move rfl) <| gl_yes rfl rfl (op_rd rfl (rd_indexRow1 10 rfl Tryd.underlying28 ty_29 rfl rfl (by omega) (by omega)) ?_)
      refine gl_yes rfl rfl <| op_rd rfl (rd_load Tryd.underlying29 rfl rfl (ld_rowN 10 (off := 0) rfl rfl)) <| gl_yes rfl rfl (op_buildSlice (sz := 1) rfl rfl (fun _ => bs_29_2_0_1 _ _) rfl rfl (fun b124 => ?_))
      unfold KG.cell
      refine gl_yes rfl rfl (op_call rfl (vf := []) (vc := []) rfl rfl Tryd.call16 (fun w1 ho => sameIntsN_ok g54.ks [40, 50] _ _ _ _ (by rw [hg54]; decide) w1 (ho.rowSl 12 rfl) (ho.rowSl 0 rfl)) ?_)
      rintro _ _ ⟨rfl, rfl⟩
      refine gk_bool (fun h125 => ?_) (fun h125 => ?_)
      · refine gl_op <| op_rd rfl (rd_pick_t rfl rfl) <| gl_op <| op_rd rfl (rd_move rfl) <| gl_yes rfl rfl <| op_rd rfl (rd_move rfl) <| gl_yes rfl rfl (op_rd rfl (rd_build rfl (fun _ => bd_42_1 _)) ?_)
        refine gl_yes rfl rfl (op_rd rfl (rd_build rfl (fun _ => bd_79_0_1 _ _ _)) ?_)
        refine gl_yes rfl rfl (op_rd rfl (rd_build rfl (fun _ => bd_42_1 _)) ?_)
        refine gl_yes rfl rfl (op_rd rfl (rd_build rfl (fun _ => bd_79_0_1 _ _ _)) ?_)
        refine gl_yes rfl rfl (op_buildSlice (sz := 3) rfl rfl (fun _ => bs_72_2_0_1 _ _ _ _ _ _) rfl rfl (fun b133 => ?_))
        refine gl_yes rfl rfl (op_call rfl (vf := []) (vc := []) rfl rfl Tryd.call31 (fun w1 ho => doubled_ok [((0, 48), 2), ((0, 60), 2)] [((0, 48), 2), ((0, 60), 2)] _ _ _ _ (by decide) w1 (ho.rowSl 11 rfl) (ho.rowSl 0 rfl)) ?_)
        rintro _ _ ⟨rfl, rfl⟩
        refine gk_bool (fun h134 => ?_) (fun h134 => ?_)
        · refine gl_op <| op_rd rfl (rd_pick_t rfl rfl) <| gl_op <| op_rd rfl (rd_move rfl) <| gl_yes rfl rfl (op_rd rfl (rd_loadAgg Tryd.underlying44 rfl ty_44 rfl (by exact cs_blk 8 (off := 0) (k := 6) rfl rfl) rfl) ?_)
          refine gl_yes rfl rfl (op_buildSlice (sz := 1) rfl rfl (fun _ => bs_29_1_0 _) rfl rfl (fun b138 => ?_))
          refine gl_yes rfl rfl (op_rd rfl (rd_build rfl (fun _ => bd_44_1_2_4_5 _ _ _ _ _ _)) ?_)
          refine gl_yes rfl rfl (op_call rfl (vf := []) (vc := []) rfl rfl Tryd.call19 (fun w1 ho => SameReason_ok ⟨0, 36, [0], 0, 48, 1⟩ ⟨0, 36, [0], 0, 48, 1⟩ (rowA r67) (rowA (some b138)) c67 1 (by decide) w1 (ho.rowSl 11 rfl) (ho.rowSl 0 rfl)) ?_)
          rintro _ _ ⟨rfl, rfl⟩
          refine gk_bool (fun h140 => ?_) (fun h140 => ?_)
          · refine gl_op <| op_rd rfl (rd_pick_t rfl rfl) <| gl_op <| op_rd rfl (rd_move rfl) <| gl_yes rfl rfl <| op_rd rfl (rd_move rfl) <| gl_yes rfl rfl (op_buildSlice (sz := 1) rfl rfl (fun _ => bs_29_1_0 _) rfl rfl (fun b144 => ?_))
            refine gl_yes rfl rfl (op_call rfl (vf := []) (vc := []) rfl rfl Tryd.call30 (fun w1 ho => flutes_ok [52] _ _ (by decide) w1 (ho.rowSl 0 rfl)) ?_)
            rintro _ _ ⟨r145, c145, rfl, rfl⟩
            refine gl_yes rfl rfl (op_call rfl (vf := []) (vc := []) rfl rfl Tryd.call29 (fun w1 ho => SamePipes_ok (flutesP [52]) (flutesP [52]) _ _ _ _ (by decide) w1 (ho.rowSl 9 rfl) (ho.rowSl 0 rfl)) ?_)
            rintro _ _ ⟨rfl, rfl⟩
            refine gk_bool (fun h146 => ?_) (fun h146 => ?_)
            · refine gl_op <| op_rd rfl (rd_pick_t rfl rfl) <| gl_op <| op_rd rfl (rd_move rfl) <| gl_yes rfl rfl (op_rd rfl (rd_loadAgg Tryd.underlying27 rfl ty_27 rfl (by exact cs_blk 38 (off := 0) (k := 4) rfl rfl) rfl) ?_)
              refine gl_yes rfl rfl (op_buildSlice (sz := 1) rfl rfl (fun _ => bs_29_2_0_1 _ _) rfl rfl (fun b150 => ?_))
              refine gl_yes rfl rfl (op_buildSlice (sz := 1) rfl rfl (fun _ => bs_28_1_0 _ _ _) rfl rfl (fun b151 => ?_))
              refine gl_yes rfl rfl (op_rd rfl (rd_build rfl (fun _ => bd_31_0 _ _ _)) ?_)
              refine gl_yes rfl rfl (op_call rfl (vf := []) (vc := []) rfl rfl Tryd.call14 (fun w1 ho => by
                have h9 := Check_ok (ex12 d1 r1 pa1 pb1 pc1 t1 c1 cc1) (xHd (rowA (some b151)) (rowA (some b150)) none none 2 [50, 40] [] []) ex_le (xd_le (by decide) (by decide) (by decide) (by decide)) w1 (ex_in (ho.rowSl 48 rfl) (ho.rowSl 47 rfl) (ho.rowSl 43 rfl) (ho.rowSl 42 rfl) (ho.rowSl 46 rfl) (ho.rowSl 45 rfl) (ho.rowSl 44 rfl)) (xd_in (ho.rowSl 0 rfl) (ho.rowSl 1 rfl) (oldNil _ _ _) (oldNil _ _ _))
                rw [err5] at h9
                exact h9) ?_)
              rintro _ _ ⟨rfl, rfl⟩
              refine gl_yes rfl rfl (op_rd rfl (rd_eql rfl rfl) (gk_dec (fun h154 => ?_) (fun h154 => ?_)))
              · refine gl_op <| op_rd rfl (rd_pick_t rfl rfl) <| gl_op <| op_rd rfl (rd_move rfl) <| gl_yes rfl rfl (op_rd rfl (rd_loadAgg Tryd.underlying27 rfl ty_27 rfl (by exact cs_blk 40 (off := 0) (k := 4) rfl rfl) rfl) ?_)
                refine gl_yes rfl rfl (op_buildSlice (sz := 1) rfl rfl (fun _ => bs_29_1_0 _) rfl rfl (fun b158 => ?_))
                refine gl_yes rfl rfl (op_buildSlice (sz := 1) rfl rfl (fun _ => bs_28_1_0 _ _ _) rfl rfl (fun b159 => ?_))
                refine gl_yes rfl rfl (op_rd rfl (rd_build rfl (fun _ => bd_31_0 _ _ _)) ?_)
                refine gl_yes rfl rfl (op_call rfl (vf := []) (vc := []) rfl rfl Tryd.call14 (fun w1 ho => by
                  have h9 := Check_ok (ex12 d1 r1 pa1 pb1 pc1 t1 c1 cc1) (xHd (rowA (some b159)) (rowA (some b158)) none none 1 [61] [] []) ex_le (xd_le (by decide) (by decide) (by decide) (by decide)) w1 (ex_in (ho.rowSl 50 rfl) (ho.rowSl 49 rfl) (ho.rowSl 45 rfl) (ho.rowSl 44 rfl) (ho.rowSl 48 rfl) (ho.rowSl 47 rfl) (ho.rowSl 46 rfl)) (xd_in (ho.rowSl 0 rfl) (ho.rowSl 1 rfl) (oldNil _ _ _) (oldNil _ _ _))
                  rw [err6] at h9
                  exact h9) ?_)
                rintro _ _ ⟨rfl, rfl⟩
                refine gl_yes rfl rfl (op_rd rfl (rd_eql rfl rfl) (gk_dec (fun h162 => ?_) (fun h162 => ?_)))
                · refine gl_op <| op_rd rfl (rd_pick_t rfl rfl) <| gl_op <| op_rd rfl (rd_move rfl) <| gl_yes rfl rfl (op_rd rfl (rd_loadAgg Tryd.underlying27 rfl ty_27 rfl (by exact cs_blk 42 (off := 0) (k := 4) rfl rfl) rfl) ?_)
                  refine gl_yes rfl rfl (op_buildSlice (sz := 1) rfl rfl (fun _ => bs_28_1_0 _ _ _) rfl rfl (fun b166 => ?_))
                  refine gl_yes rfl rfl (op_buildSlice (sz := 1) rfl rfl (fun _ => bs_29_1_0 _) rfl rfl (fun b167 => ?_))
                  refine gl_yes rfl rfl (op_rd rfl (rd_build rfl (fun _ => bd_31_0_1 _ _ _ _ _ _)) ?_)
                  refine gl_yes rfl rfl (op_call rfl (vf := []) (vc := []) rfl rfl Tryd.call14 (fun w1 ho => by
                    have h9 := Check_ok (ex12 d1 r1 pa1 pb1 pc1 t1 c1 cc1) (xHd (rowA (some b166)) none (rowA (some b167)) none 0 [] [3] []) ex_le (xd_le (by decide) (by decide) (by decide) (by decide)) w1 (ex_in (ho.rowSl 52 rfl) (ho.rowSl 51 rfl) (ho.rowSl 47 rfl) (ho.rowSl 46 rfl) (ho.rowSl 50 rfl) (ho.rowSl 49 rfl) (ho.rowSl 48 rfl)) (xd_in (ho.rowSl 1 rfl) (oldNil _ _ _) (ho.rowSl 0 rfl) (oldNil _ _ _))
                    rw [err7] at h9
                    exact h9) ?_)
                  rintro _ _ ⟨rfl, rfl⟩
                  refine gl_yes rfl rfl (op_rd rfl (rd_eql rfl rfl) (gk_dec (fun h170 => ?_) (fun h170 => ?_)))
                  · refine gl_op <| op_rd rfl (rd_pick_t rfl rfl) <| gl_op <| op_rd rfl (rd_move rfl) <| gl_yes rfl rfl (op_rd rfl (rd_loadAgg Tryd.underlying27 rfl ty_27 rfl (by exact cs_blk 44 (off := 0) (k := 4) rfl rfl) rfl) ?_)
                    refine gl_yes rfl rfl (op_buildSlice (sz := 1) rfl rfl (fun _ => bs_28_1_0 _ _ _) rfl rfl (fun b174 => ?_))
                    refine gl_yes rfl rfl (op_buildSlice (sz := 1) rfl rfl (fun _ => bs_29_1_0 _) rfl rfl (fun b175 => ?_))
                    refine gl_yes rfl rfl (op_rd rfl (rd_build rfl (fun _ => bd_31_0_2 _ _ _ _ _ _)) ?_)
                    refine gl_yes rfl rfl (op_call rfl (vf := []) (vc := []) rfl rfl Tryd.call14 (fun w1 ho => by
                      have h9 := Check_ok (ex12 d1 r1 pa1 pb1 pc1 t1 c1 cc1) (xHd (rowA (some b174)) none none (rowA (some b175)) 0 [] [] [4]) ex_le (xd_le (by decide) (by decide) (by decide) (by decide)) w1 (ex_in (ho.rowSl 54 rfl) (ho.rowSl 53 rfl) (ho.rowSl 49 rfl) (ho.rowSl 48 rfl) (ho.rowSl 52 rfl) (ho.rowSl 51 rfl) (ho.rowSl 50 rfl)) (xd_in (ho.rowSl 1 rfl) (oldNil _ _ _) (oldNil _ _ _) (ho.rowSl 0 rfl))
                      rw [err8] at h9
                      exact h9) ?_)
                    rintro _ _ ⟨rfl, rfl⟩
                    refine gl_yes rfl rfl (op_rd rfl (rd_eql rfl rfl) (gk_dec (fun h178 => ?_) (fun h178 => ?_)))
                    · refine gl_op <| op_rd rfl (rd_pick_t rfl rfl) <| gl_op <| op_rd rfl (rd_move rfl) <| gl_yes rfl rfl (op_call rfl (vf := []) (vc := []) rfl rfl Tryd.call11 (fun w1 ho => shown_ok w1 (hT.at ho (by decide))) ?_)
                      rintro _ _ ⟨rfl, rfl⟩
                      refine gl_op <| op_rd rfl (rd_pick_t rfl rfl) <| gl_op <| op_rd rfl (rd_assign rfl) <| gl_nil <| gx_then <| gc_ret <| gx_ret1 (.inl rfl) Tryd.results8 rfl [] (by decide) ?_
                      exact ⟨rfl, rfl⟩
                    exact absurd rfl h178
                  exact absurd rfl h170
                exact absurd rfl h162
              exact absurd rfl h154
            rw [decide_eq_true rfl] at h146; cases h146
          rw [decide_eq_true rfl] at h140; cases h140
        rw [decide_eq_true rfl] at h134; cases h134
      rw [decide_eq_true hg54] at h125; cases h125
    rw [decide_eq_true rfl] at h118; cases h118
  rw [decide_eq_true rfl] at h113; cases h113
end Go.Proofs.YtbjijbbkfgcleaaDoor
