import Derived.Test.YtbjijbbkfgcleaaDoorW02
import Derived.Test.YtbjijbbkfgcleaaDoorW01
import Derived.Test.YtbjijbbkfgcleaaDoorW00
import Derived.Test.YtbjijbbkfgcleaaDoorRows
import Derived.LaidMore
import Derived.MakeChecks
import Derived.Stop.Joined
import Derived.LaidHandle
/- A part of the proof: walks of the program. -/
set_option autoImplicit false
set_option linter.unusedSimpArgs false
set_option linter.unusedVariables false
set_option linter.unnecessarySimpa false
namespace Go.Proofs.YtbjijbbkfgcleaaDoor
open Go.Gv
open Go.RowKit
open Go.Sn
open Sx
namespace Sx
/-- the groups in memory -/
structure GSOk (A : Cx) (x : GS) (G : List GR) (T : List HL) : Prop where
  set : SetOk A x.1
  ps : G.map GR.ps = x.2
  ok : ∀ g ∈ G, GOk g.ps
  tl : ∀ g ∈ G, RG g.r g.c g.ps ∈ T
theorem GSOk.put {A : Cx} {x1 : AS} {x2 : List (List Pl)} {G : List GR} {T : List HL} (h : GSOk A (x1, x2) G T) {st : AS} (hs : SetOk A st) {rg : Option Nat} {cg : Nat} {ps : List Pl} (hp : GOk ps) : GSOk A (st, x2 ++ [ps]) (G ++ [⟨rg, cg, ps⟩]) (T ++ [RG rg cg ps]) := by
  refine ⟨hs, by rw [List.map_append, h.ps]; rfl, fun g hg => ?_, fun g hg => ?_⟩
  · rcases List.mem_append.1 hg with hg | hg
    · exact h.ok g hg
    · rw [List.mem_singleton.1 hg]; exact hp
  · rcases List.mem_append.1 hg with hg | hg
    · exact List.mem_append_left _ (h.tl g hg)
    · rw [List.mem_singleton.1 hg]; exact List.mem_append_right _ (by simp)
theorem GSOk.filter {A : Cx} {x : GS} {G : List GR} {T : List HL} (h : GSOk A x G T) : GSOk A (x.1, x.2.filter fun l => decide (l ≠ [])) (G.filter neB) T := by
  refine ⟨h.set, ?_, fun g hg => h.ok g (List.mem_filter.1 hg).1, fun g hg => h.tl g (List.mem_filter.1 hg).1⟩
  show _ = x.2.filter _
  rw [← h.ps, List.filter_map]; rfl
theorem get_kn {ks : List KN} {k : Nat} {r : KN} (h : ks[k]? = some r) : (ks.map KN.cell)[k]? = some (.slice r.a r.ks.length r.c) := by rw [List.getElem?_map, h]; rfl
theorem get_nz {zs : List Nat} {k z : Nat} (h : zs[k]? = some z) : (zs.map natV)[k]? = some (natV z) := by rw [List.getElem?_map, h]; rfl
theorem snoc_gr (G : List GR) (rg : Option Nat) (cg : Nat) (ps : List Pl) : G.map GR.cell ++ [.slice (rowA rg) ps.length cg] = (G ++ [(⟨rg, cg, ps⟩ : GR)]).map GR.cell := by rw [List.map_append]; rfl
theorem setC_zero : (Value.agg #[.int .u64 0, .int .u64 0]).cells.toList = setC 0 := rfl
end Sx
open Sx
set_option maxRecDepth 100000 in
set_option maxHeartbeats 1000000 in
theorem acting_ok (s : Org) (h : HN) (hle : OrgLe s) (hg : HGood s h) (w0 : World) (hS : OrgIn s w0 []) (hH : HNIn h w0 []) : Sp Tryd.prog 32 [s.val, h.val] w0 [] (fun v L => ∃ b30 k27 c27 m28, v = .pointer (some ⟨b30, 0, none⟩) ∧ L = [BK s.ds.length b30 k27 c27 m28, RS s.ds.length k27 c27 (actP (cxN s h)).sets, OM m28 (actP (cxN s h)).tb]) := by
  have hA := hg.cx
  have hnd : s.ds.length ≤ 6 := hA.nd
  have hkl : h.ks.length = s.ds.length := by have := hA.nk; simpa [cxN] using this
  have hnc := hg.nc
  have hcl : h.cs.length ≤ s.cs.length := asc_len hA.dra hA.drn
  refine spec_enter Tryd.func32 rfl Tryd.ntmps32 rfl (Own.refl _) ?_
  simp only [argEnv]
  refine gc_seq <| gc_region <| gl_op (op_box rfl rfl rfl (fun b2 => ?_))
  refine gl_op (op_box rfl rfl rfl (fun b3 => ?_))
  refine gl_op <| op_rd rfl (rd_assign rfl) <| gl_nil <| gx_then <| gc_seq <| gc_region <| gl_op <| op_rd rfl (rd_fieldAddr rfl (fa_27_0 _)) <| gl_op (op_rd rfl (rd_load Tryd.underlying22 rfl rfl (by exact ld_blk 1 rfl rfl)) ?_)
  refine gl_op <| op_rd rfl (rd_lenSlice Tryd.underlying22 rfl) <| gl_op (op_makeSlice (s.ds.length) Tryd.underlying84 ty_90 rfl rfl rfl (by omega) (by omega) (by omega) (by omega) (fun b27 => ?_))
  refine gl_op (op_makeMapP stpV rfl (fun b28 => ?_))
  refine gl_op (op_rd rfl (rd_build rfl (fun _ => bd_87_0_1 _ _ _ _)) ?_)
  refine gl_op (op_box rfl rfl rfl (fun b30 => ?_))
  refine gl_op (op_alloc ty_82 rfl rfl (fun b5 => ?_))
  refine gl_op (op_store 0 ty_82 rfl rfl rfl rfl rfl (by rfl) (by rfl) ?_)
  refine gl_nil <| gx_then <| gc_seq <| gc_seq ?_
  rw [made_flat setC 2 _ 0 setC_zero (fun _ => rfl) (by decide), actO_nil]
  refine gc_region <| gl_op <| op_rd rfl (rd_fieldAddr rfl (fa_31_0 _)) <| gl_op (op_rd rfl (rd_load Tryd.underlying28 rfl rfl (by exact ld_blk 4 rfl rfl)) ?_)
  refine gl_op <| op_rd rfl (rd_lenSlice Tryd.underlying28 rfl) <| gl_op <| op_rd rfl (rd_move rfl) <| gl_nil <| gx_then <| gc_block <| gc_loopF (ι := Nat) [(2, _), (3, _), (5, _), (32, _), (33, _)] [_, _, _, _] (fun k => k ≤ h.ks.length) (fun k Fr0 => ((34, natV k) :: Fr0)) (fun k Fr0 => (.row 90 2 (some b27) s.ds.length s.ds.length (((stPre (cxN s h) k 0).sets).flatMap setC) :: .obj b28 (actO (stPre (cxN s h) k 0).tb) :: Fr0)) (fun k => h.ks.length - k) 0 (Nat.zero_le _) ⟨rfl, rfl, rfl, rfl, rfl, rfl, trivial⟩ ⟨[3, 2, 0, 1, 4, 5], by decide, rfl⟩ ?_
  rintro k hk
  refine gc_seq <| gc_region <| gl_op (op_rd rfl (rd_lss rfl rfl) (gk_dec (fun h35 => ?_) (fun h35 => ?_)))
  · obtain ⟨r, hr⟩ := get_some (show k < h.ks.length by omega)
    have hrm := List.mem_of_getElem? hr
    have hkd : (cxN s h).kd k = r.ks := by
      show (h.ks.map KN.ks).getD k [] = r.ks
      rw [List.getD_eq_getElem?_getD, List.getElem?_map, hr]; rfl
    have hrl := hg.hk r hrm
    refine gl_nil <| gx_then <| gc_seq <| gc_cond_t rfl <| gc_skip <| gx_then <| gc_seq <| gc_block <| gc_seq <| gc_region <| gl_op <| op_rd rfl (rd_move rfl) <| gl_op (op_rd rfl (rd_indexOld1 hH.k Tryd.underlying28 ty_29 rfl rfl (by omega) (by omega)) ?_)
    refine gl_op <| op_rd rfl (rd_load Tryd.underlying29 rfl rfl (ld_slN hH.k (get_kn hr))) <| gl_op <| op_rd rfl (rd_assign rfl) <| gl_op <| op_rd rfl (rd_assign rfl) <| gl_nil <| gx_then <| gc_seq <| gc_region <| gl_op <| op_rd rfl (rd_move rfl) <| gl_op <| op_rd rfl (rd_lenSlice Tryd.underlying29 rfl) <| gl_op <| op_rd rfl (rd_move rfl) <| gl_nil <| gx_then <| gc_block <| gc_loopF (ι := Nat) [(2, _), (3, _), (5, _), (6, _), (32, _), (33, _), (34, _), (39, _), (40, _)] [_, _, _, _] (fun j => j ≤ r.ks.length) (fun j Fr0 => ((41, natV j) :: Fr0)) (fun j Fr0 => (.row 90 2 (some b27) s.ds.length s.ds.length (((stPre (cxN s h) k j).sets).flatMap setC) :: .obj b28 (actO (stPre (cxN s h) k j).tb) :: Fr0)) (fun j => r.ks.length - j) 0 (Nat.zero_le _) ⟨rfl, rfl, rfl, rfl, rfl, rfl, rfl, rfl, rfl, rfl, trivial⟩ ⟨[0, 1, 2, 3, 4, 5], by decide, rfl⟩ ?_
    rintro j hj
    refine gc_seq <| gc_region <| gl_op (op_rd rfl (rd_lss rfl rfl) (gk_dec (fun h42 => ?_) (fun h42 => ?_)))
    · obtain ⟨n, hn⟩ := get_some (show j < r.ks.length by omega)
      have hkn : ((cxN s h).kd k)[j]? = some n := by rw [hkd]; exact hn
      have hkk := hA.key k n (by rw [hkd]; exact List.mem_of_getElem? hn)
      have hkr := hA.rng k (show k < s.ds.length by omega)
      have hset := stPre_set hA k j
      have hsl0 : (stPre (cxN s h) k j).sets.length = s.ds.length := hset.len
      refine gl_nil <| gx_then <| gc_seq <| gc_cond_t rfl <| gc_skip <| gx_then <| gc_seq <| gc_block <| gc_seq <| gc_region <| gl_op (op_rd rfl (rd_indexOld1 (hH.r r hrm) Tryd.underlying29 ty_3 rfl rfl (by omega) (by omega)) ?_)
      refine gl_op <| op_rd rfl (rd_load Tryd.underlying3 rfl rfl (ld_slN (hH.r r hrm) (get_nz hn))) <| gl_op <| op_rd rfl (rd_assign rfl) <| gl_nil <| gx_then <| gc_seq <| gc_region <| gl_op (op_rd rfl (rd_load Tryd.underlying82 rfl rfl (by exact ld_blk 2 rfl rfl)) ?_)
      refine gl_op <| op_rd rfl (rd_nilCheck rfl) <| gl_op <| op_rd rfl (rd_fieldAddr rfl (fa_87_0 _)) <| gl_op (op_rd rfl (rd_load Tryd.underlying84 rfl rfl (by exact ld_blk 3 rfl rfl)) ?_)
      refine gl_op <| op_rd rfl (rd_move rfl) <| gl_op (op_rd rfl (by exact rd_indexRow 0 rfl Tryd.underlying84 ty_90 rfl rfl (by omega) (by omega)) ?_)
      refine gl_op <| op_rd rfl (rd_move rfl) <| gl_op (op_callM [0] [1, 2, 3, 4, 5] rfl (vf := []) (vc := []) rfl rfl Tryd.call48 (by decide) rfl (fun w how hc => add_ok (stPre (cxN s h) k j).sets k n b27 s.ds.length s.ds.length hsl0 (by omega) (by omega) hset.lt w hc) ?_)
      rintro _ _ ⟨rfl, rfl⟩
      rw [show addSet (stPre (cxN s h) k j).sets (k, n) = (stPre (cxN s h) k (j + 1)).sets by rw [stPre_snoc hkn]; rfl]
      refine gl_nil <| gx_then <| gc_region <| gl_op (op_rd rfl (rd_load Tryd.underlying82 rfl rfl (by exact ld_blk 2 rfl rfl)) ?_)
      refine gl_op <| op_rd rfl (rd_nilCheck rfl) <| gl_op <| op_rd rfl (rd_fieldAddr rfl (fa_87_1 _)) <| gl_op (op_rd rfl (rd_load Tryd.underlying85 rfl rfl (by exact ld_blk 3 rfl rfl)) ?_)
      refine gl_op <| op_rd rfl (rd_move rfl) <| gl_op <| op_rd rfl (rd_move rfl) <| gl_op (op_rd rfl (rd_build rfl (fun _ => bd_110_0_1 _ _)) ?_)
      refine gl_op (op_rd rfl (rd_build rfl (fun _ => bd_122_0 _)) ?_)
      refine gl_op <| op_mapPutP 1 stpV (v := (-1, (0, 0))) Tryd.underlying85 i2_place rfl rfl rfl rfl (mpOf_none (q := (k, n)) (stPre_none hA hkn)) rfl ?_
      rw [show mapP stpV (mpOf (stPre (cxN s h) k j).tb 0 ++ [⟨(k : Int), (n : Int), (-1, (0, 0)), (stPre (cxN s h) k j).tb.length⟩]) ((stPre (cxN s h) k j).tb.length + 1) = actO (stPre (cxN s h) k (j + 1)).tb by rw [stPre_snoc hkn]; exact actO_snoc _ ⟨(k, n), -1, (0, 0), (k, n), []⟩]
      refine gl_nil <| gx_block <| gx_then <| gc_region <| gl_op (op_rd rfl (by exact rd_addN (b := 1) rfl rfl (by omega)) ?_)
      refine gl_op <| op_rd rfl (rd_move rfl) <| gl_nil <| gx_then ?_
      exact gx_cut (j + 1) ⟨by omega, by omega⟩ ⟨rfl, rfl, rfl, rfl, rfl, rfl, rfl, rfl, rfl, rfl, trivial⟩ ⟨[0, 1, 2, 3, 4, 5], by decide, rfl⟩
    refine gl_nil <| gx_then <| gc_seq <| gc_cond_f rfl <| gc_exit <| gx_then_exit <| gx_then_exit <| gx_block_exit <| gx_block <| gx_then ?_
    have hj9 : j = ((cxN s h).kd k).length := by rw [hkd]; omega
    rw [hj9, stPre_row]
    refine gc_region <| gl_op (op_rd rfl (by exact rd_addN (b := 1) rfl rfl (by omega)) ?_)
    refine gl_op <| op_rd rfl (rd_move rfl) <| gl_nil <| gx_then ?_
    exact gx_cut (k + 1) ⟨by omega, by omega⟩ ⟨rfl, rfl, rfl, rfl, rfl, rfl, trivial⟩ ⟨[0, 1, 2, 3, 4, 5], by decide, rfl⟩
  refine gl_nil <| gx_then <| gc_seq <| gc_cond_f rfl <| gc_exit <| gx_then_exit <| gx_then_exit <| gx_block_exit <| gx_then <| gc_seq ?_
  have hk9 : k = (cxN s h).ks.length := by show k = (h.ks.map KN.ks).length; rw [List.length_map]; omega
  rw [hk9, stPre_end hA]
  refine gc_region <| gl_op <| op_rd rfl (rd_makeFunc (fs := []) (cs := [.tmp 2, .tmp 5]) rfl rfl) <| gl_op <| op_rd rfl (rd_assign rfl) <| gl_nil <| gx_then <| gc_seq <| gc_region <| gl_op <| op_rd rfl (rd_assign rfl) <| gl_nil <| gx_then <| gc_seq <| gc_seq <| gc_region <| gl_op <| op_rd rfl (rd_fieldAddr rfl (fa_31_2 _)) <| gl_op (op_rd rfl (rd_load Tryd.underlying29 rfl rfl (by exact ld_blk 4 rfl rfl)) ?_)
  refine gl_op <| op_rd rfl (rd_lenSlice Tryd.underlying29 rfl) <| gl_op <| op_rd rfl (rd_move rfl) <| gl_nil <| gx_then <| gc_block <| gk_nil 123 1 <| gc_loopF (ι := Nat × GS × List GR × Option Nat × Nat × List HL) [(2, _), (3, _), (5, _), (10, _), (65, _), (66, _)] [_, _, _, _] (fun q => q.1 ≤ h.cs.length ∧ q.2.1 = (h.cs.take q.1).foldl (firstStep (cxN s h)) (st0 (cxN s h), []) ∧ GSOk (cxN s h) q.2.1 q.2.2.1 q.2.2.2.2.2 ∧ q.2.2.1.length = q.1) (fun q Fr0 => ((11, .slice (rowA q.2.2.2.1) q.2.2.1.length q.2.2.2.2.1) :: (67, natV q.1) :: Fr0)) (fun q Fr0 => (.row 90 2 (some b27) s.ds.length s.ds.length ((q.2.1.1.sets).flatMap setC) :: .obj b28 (actO q.2.1.1.tb) :: .row 123 1 q.2.2.2.1 q.2.2.1.length q.2.2.2.2.1 (q.2.2.1.map GR.cell) :: (Fr0 ++ q.2.2.2.2.2))) (fun q => h.cs.length - q.1) (0, (st0 (cxN s h), []), [], none, 0, []) (⟨Nat.zero_le _, rfl, ⟨(st0_ok hA).2, rfl, by simp, by simp⟩, rfl⟩) ⟨rfl, rfl, rfl, rfl, rfl, rfl, rfl, rfl, trivial⟩ ⟨[1, 2, 0, 3, 4, 5, 6], by decide, rfl⟩ ?_
  rintro ⟨k, ⟨x1, x2⟩, G, rG, cG, T⟩ ⟨hk, hX, hG, hGl⟩
  simp only at hk hX hG hGl ⊢
  have hset := hG.set
  simp only at hset
  refine gc_seq <| gc_region <| gl_op (op_rd rfl (rd_lss rfl rfl) (gk_dec (fun h68 => ?_) (fun h68 => ?_)))
  · obtain ⟨i, hi⟩ := get_some (show k < h.cs.length by omega)
    have him : i ∈ (cxN s h).dr := List.mem_of_getElem? hi
    obtain ⟨cp, hcp⟩ := get_some (show i < s.cs.length from hA.drn i him)
    have hcpi : (cxN s h).cp i = cp := getD_some hcp
    have hil : i < s.cs.length := hA.drn i him
    obtain ⟨hs0, hs1⟩ := hA.src i hil
    rw [hcpi] at hs0 hs1
    change cp.src < s.ds.length at hs1
    obtain ⟨kr, hkr⟩ := get_some (show cp.src.toNat < h.ks.length by omega)
    have hkrm := List.mem_of_getElem? hkr
    have hkd : (cxN s h).kd cp.src.toNat = kr.ks := by
      show (h.ks.map KN.ks).getD cp.src.toNat [] = kr.ks
      rw [List.getD_eq_getElem?_getD, List.getElem?_map, hkr]; rfl
    have hstart : (cxN s h).start i = (takenL cp kr.ks).map fun n => (cp.src.toNat, n) := by unfold Cx.start; rw [hcpi, hkd]
    have hsgo := start_gok hA i
    have hstl : (takenL cp kr.ks).length ≤ 128 := by have := hsgo.len; rw [hstart, List.length_map] at this; exact this
    have hsn : cp.src = ((cp.src.toNat : Nat) : Int) := by omega
    refine gl_nil <| gx_then <| gc_seq <| gc_cond_t rfl <| gc_skip <| gx_then <| gc_seq <| gc_block <| gc_seq <| gc_region <| gl_op (op_rd rfl (rd_indexOld1 hH.c Tryd.underlying29 ty_3 rfl rfl (by omega) (by omega)) ?_)
    refine gl_op <| op_rd rfl (rd_load Tryd.underlying3 rfl rfl (ld_slN hH.c (get_nz hi))) <| gl_op <| op_rd rfl (rd_assign rfl) <| gl_nil <| gx_then <| gc_seq <| gc_region <| gl_op <| op_rd rfl (rd_assign rfl) <| gl_nil <| gx_then <| gc_seq <| gc_region <| gl_op <| op_rd rfl (rd_fieldAddr rfl (fa_27_3 _)) <| gl_op (op_rd rfl (rd_load Tryd.underlying25 rfl rfl (by exact ld_blk 6 rfl rfl)) ?_)
    refine gl_op <| op_rd rfl (rd_move rfl) <| gl_op (op_rd rfl (rd_indexOld hS.c Tryd.underlying25 ty_67 rfl rfl (by omega) (by omega)) ?_)
    refine gl_op (op_rd rfl (rd_loadAgg Tryd.underlying67 rfl ty_67 rfl (cs_slN hS.c (flat_drop_get Cp.cells 6 (fun _ => rfl) hcp)) rfl) ?_)
    refine gl_op (op_alloc ty_67 rfl rfl (fun b15 => ?_))
    refine gl_op (op_storeAgg 0 ty_67 rfl rfl rfl rfl rfl rfl (by rfl) ?_)
    refine gl_nil <| gx_then <| gc_seq <| gc_seq ?_
    simp only [Cp.cells]
    refine gc_drawP [0, 1, 2, 3, 4, 5, 6, 7] true 9 rfl <| ga_first 0 (bm 10 1) rfl rfl rfl rfl (by kernel_rfl) (by kernel_rfl) ⟨[0, 1, 2, 3, 4, 5, 6, 7], by decide, rfl⟩ (qt_rd (rd_loadAgg Tryd.underlying67 rfl ty_67 rfl (by exact cs_blk 0 (off := 0) (k := 6) rfl rfl) rfl)) ?_
    refine ga_first 1 (bm 10 3) rfl rfl rfl rfl (by kernel_rfl) (by kernel_rfl) ⟨[0, 1, 2, 3, 4, 5, 6, 7], by decide, rfl⟩ (qt_rd (rd_fieldAddr rfl (fa_31_0 _))) ?_
    refine ga_first 2 (bm 10 7) rfl rfl rfl rfl (by kernel_rfl) (by kernel_rfl) ⟨[0, 1, 2, 3, 4, 5, 6, 7], by decide, rfl⟩ (qt_rd (rd_load Tryd.underlying28 rfl rfl (by exact ld_blk 6 rfl rfl))) ?_
    refine ga_first 3 (bm 10 15) rfl rfl rfl rfl (by kernel_rfl) (by kernel_rfl) ⟨[0, 1, 2, 3, 4, 5, 6, 7], by decide, rfl⟩ (qt_rd (rd_fieldAddr rfl (fa_67_1 _))) ?_
    refine ga_first 4 (bm 10 31) rfl rfl rfl rfl (by kernel_rfl) (by kernel_rfl) ⟨[0, 1, 2, 3, 4, 5, 6, 7], by decide, rfl⟩ (qt_rd (rd_load Tryd.underlying3 rfl rfl (by exact ld_blk 0 rfl rfl))) ?_
    refine ga_first 5 (bm 10 63) rfl rfl rfl rfl (by kernel_rfl) (by kernel_rfl) ⟨[0, 1, 2, 3, 4, 5, 6, 7], by decide, rfl⟩ (qt_rd (rd_indexOld1 hH.k Tryd.underlying28 ty_29 rfl rfl (by omega) (by omega))) ?_
    refine ga_first 6 (bm 10 127) rfl rfl rfl rfl (by kernel_rfl) (by kernel_rfl) ⟨[0, 1, 2, 3, 4, 5, 6, 7], by decide, rfl⟩ (qt_rd (rd_load Tryd.underlying29 rfl rfl (ld_sl hH.k (get_kn hkr)))) ?_
    refine ga_first 9 (bm 10 639) rfl rfl rfl rfl (by kernel_rfl) (by kernel_rfl) ⟨[0, 1, 2, 3, 4, 5, 6, 7], by decide, rfl⟩ (qt_rd (rd_move rfl)) ?_
    refine ga_only 7 (bm 10 767) rfl rfl (by kernel_rfl) (by kernel_rfl) (.inr ⟨[0, 1, 2, 3, 4, 5, 6, 7], by decide, rfl⟩) (op_call rfl (vf := []) (vc := []) rfl rfl Tryd.call51 (fun w1 ho => taken_ok cp kr.ks kr.a kr.c (hg.hc kr hkrm) (hg.hk kr hkrm) w1) ?_)
    rintro _ _ ⟨rfl, a2, c2, rfl, htk⟩
    have hsl3 := htk w0 [] (hH.r kr hkrm)
    refine ga_first 8 (bm 10 1023) rfl rfl rfl rfl (by kernel_rfl) (by kernel_rfl) ⟨[0, 1, 2, 3, 4, 5, 6, 7], by decide, rfl⟩ (qt_rd (rd_lenSlice Tryd.underlying29 rfl)) ?_
    refine ga_end (by kernel_rfl) (.inr ⟨[0, 1, 2, 3, 4, 5, 6, 7], by decide, rfl⟩) ?_
    refine gx_then <| gc_block <| gk_nil 110 2 <| gc_loopF (ι := Nat × Option Nat × Nat) [(2, _), (3, _), (5, _), (10, _), (11, _), (13, _), (15, _), (65, _), (66, _), (67, _), (83, _), (84, _)] (_ :: _ :: _ :: _ :: _ :: _ :: _ :: _ :: T) (fun q => q.1 ≤ (takenL cp kr.ks).length) (fun q Fr0 => ((14, .slice (rowA q.2.1) q.1 q.2.2) :: (85, natV q.1) :: Fr0)) (fun q Fr0 => (.row 110 2 q.2.1 q.1 q.2.2 ((((takenL cp kr.ks).take q.1).map fun n => (cp.src.toNat, n)).flatMap plC) :: Fr0)) (fun q => (takenL cp kr.ks).length - q.1) (0, none, 0) (Nat.zero_le _) ⟨rfl, rfl, rfl, rfl, rfl, rfl, rfl, rfl, rfl, rfl, rfl, rfl, rfl, rfl, trivial⟩ (sub_tail (A := [_, _, _, _, _, _, _, _, _]) (B := [_, _, _, _, _, _, _, _, _]) (T := T) [0, 1, 2, 3, 4, 5, 6, 7, 8] 9 (by decide) (by decide) rfl rfl) ?_
    rintro ⟨j, r14, c14⟩ hj
    simp only at hj ⊢
    refine gc_seq <| gc_region <| gl_op (op_rd rfl (rd_lss rfl rfl) (gk_dec (fun h86 => ?_) (fun h86 => ?_)))
    · obtain ⟨n, hn⟩ := get_some (show j < (takenL cp kr.ks).length by omega)
      refine gl_nil <| gx_then <| gc_seq <| gc_cond_t rfl <| gc_skip <| gx_then <| gc_seq <| gc_block <| gc_seq <| gc_region <| gl_op (op_rd rfl (rd_indexOld1 hsl3 Tryd.underlying29 ty_3 rfl rfl (by omega) (by omega)) ?_)
      refine gl_op <| op_rd rfl (rd_load Tryd.underlying3 rfl rfl (ld_slN hsl3 (get_nz hn))) <| gl_op <| op_rd rfl (rd_assign rfl) <| gl_nil <| gx_then <| gc_region <| gl_op <| op_rd rfl (rd_move rfl) <| gl_op <| op_rd rfl (rd_fieldAddr rfl (fa_67_1 _)) <| gl_op (op_rd rfl (rd_load Tryd.underlying3 rfl rfl (by exact ld_blk 1 rfl rfl)) ?_)
      refine gl_op <| op_rd rfl (rd_move rfl) <| gl_op (op_rd rfl (rd_build rfl (fun _ => bd_110_0_1 _ _)) ?_)
      refine gl_op (op_buildSlice (sz := 2) rfl rfl (fun _ => bs_123_1_0 _ _) rfl rfl (fun b94 => ?_))
      refine gl_op (op_appendRow 1 0 Tryd.underlying123 ty_110 rfl (by decide) rfl rfl rfl rfl rfl (by simp [Value.oneCell']) (by omega) (by omega) (fun _ => (by rfl)) (fun r95 c95 => ?_))
      refine gl_op <| op_rd rfl (rd_assign rfl) <| gl_nil <| gx_block <| gx_then ?_
      rw [show ((((takenL cp kr.ks).take j).map fun n => (cp.src.toNat, n)).flatMap plC) ++ [.int .i64 cp.src, .int .i64 (n : Int)] = ((((takenL cp kr.ks).take (j + 1)).map fun n => (cp.src.toNat, n)).flatMap plC) by rw [take_at hn, List.map_append, List.flatMap_append]; simp only [List.map_cons, List.map_nil, List.flatMap_cons, List.flatMap_nil, plC, List.append_nil]; rw [show natV cp.src.toNat = .int .i64 cp.src from congrArg (Value.int .i64) hsn.symm]]
      refine gc_region <| gl_op (op_rd rfl (by exact rd_addN (b := 1) rfl rfl (by omega)) ?_)
      refine gl_op <| op_rd rfl (rd_move rfl) <| gl_nil <| gx_then ?_
      exact gx_cut ((j + 1, r95, c95)) ⟨by simp only; omega, by simp only; omega⟩ ⟨rfl, rfl, rfl, rfl, rfl, rfl, rfl, rfl, rfl, rfl, rfl, rfl, rfl, rfl, trivial⟩ (sub_tail (A := [_, _, _, _, _, _, _, _, _]) (B := [_, _, _, _, _, _, _, _, _, _]) (T := T) [1, 2, 3, 4, 5, 6, 7, 8, 9] 10 (by decide) (by decide) rfl rfl)
    refine gl_nil <| gx_then <| gc_seq <| gc_cond_f rfl <| gc_exit <| gx_then_exit <| gx_then_exit <| gx_block_exit <| gx_then ?_
    have hj9 : j = ((cxN s h).start i).length := by rw [hstart, List.length_map]; omega
    rw [show ((takenL cp kr.ks).take j).map (fun n => (cp.src.toNat, n)) = (cxN s h).start i by rw [hstart, List.take_of_length_le (by rw [hj9, hstart, List.length_map]; exact Nat.le_refl _)], hj9]
    refine gc_region <| gl_op <| op_rd rfl (rd_move rfl) <| gl_op <| op_rd rfl (rd_move rfl) <| gl_op <| op_rd rfl (rd_move rfl) <| gl_op <| op_rd rfl (rd_move rfl) <| gl_op (op_callMT [_, _, _, _, _, _, _, _, _] T [8, 5, 6, 2, 3] [0, 1, 4, 7] 9 rfl rfl rfl (vf := []) (vc := [.pointer (some ⟨b2, 0, none⟩), .pointer (some ⟨b5, 0, none⟩)]) rfl rfl Tryd.call49 (by decide) (by decide) rfl (fun w how hc => reached_ok s h hle hA i him ((cxN s h).start i) (rowA r14) c14 (Nat.le_trans hsgo.len (by decide)) hsgo.key b2 b5 b30 b27 s.ds.length b28 x1 hset w (hS.atS how (new_pick (B := [_, _, _, _, _, _, _, _, _]) (T := T) how [8, 5, 6, 2, 3])) (rowOutB (B := [_, _, _, _, _, _, _, _, _]) (T := T) how 0 [8, 5, 6, 2, 3] 9 rfl (by decide) rfl (by decide)) hc) ?_)
    rintro _ _ ⟨rg, cg, rfl, rfl⟩
    refine gk_mid2 [_, _, _, _, _] [RG rg cg (reachP (cxN s h) i ((cxN s h).start i) x1).2] [_, _, _, _] T <| gl_op (op_buildSlice (sz := 1) rfl rfl (fun _ => bs_126_1_0 _ _ _) rfl rfl (fun b102 => ?_))
    refine gl_op (op_appendRow 8 0 Tryd.underlying126 ty_123 rfl (by decide) rfl rfl rfl rfl rfl (by simp [Value.oneCell']) (by omega) (by omega) (fun _ => (by rfl)) (fun r103 c103 => ?_))
    refine gl_op <| op_rd rfl (rd_assign rfl) <| gl_nil <| gx_block <| gx_then ?_
    rw [snoc_gr, show G.length + 1 = (G ++ [(⟨rg, cg, (reachP (cxN s h) i ((cxN s h).start i) x1).2⟩ : GR)]).length by simp]
    refine gc_region <| gl_op (op_rd rfl (by exact rd_addN (b := 1) rfl rfl (by omega)) ?_)
    refine gl_op <| op_rd rfl (rd_move rfl) <| gl_nil <| gx_then ?_
    exact gx_cut ((k + 1, firstStep (cxN s h) (x1, x2) i, G ++ [(⟨rg, cg, (reachP (cxN s h) i ((cxN s h).start i) x1).2⟩ : GR)], r103, c103, T ++ [RG rg cg (reachP (cxN s h) i ((cxN s h).start i) x1).2])) ⟨⟨by simp only; omega, by simp only; rw [fold_take _ _ hi, ← hX], hG.put (reachP_set hA him hset) (reachP_gok hA him hset (start_gok hA i)), by simp only [List.length_append, List.length_cons, List.length_nil]; omega⟩, by simp only; omega⟩ ⟨rfl, rfl, rfl, rfl, rfl, rfl, rfl, rfl, trivial⟩ (sub_tail (A := [_, _, _, _, _, _, _]) (B := [_, _, _, _, _, _, _, _, _, _]) (T := (T ++ [RG rg cg (reachP (cxN s h) i ((cxN s h).start i) x1).2])) [4, 5, 8, 2, 3, 9, 1] 10 (by decide) (by decide) rfl rfl)
  refine gl_nil <| gx_then <| gc_seq <| gc_cond_f rfl <| gc_exit <| gx_then_exit <| gx_then_exit <| gx_block_exit <| gx_then <| gc_seq <| gc_block ?_
  have hX0 : (x1, x2) = lev (cxN s h) 0 := by
    rw [hX, List.take_of_length_le (by omega)]; rfl
  rw [show x1.sets = (lev (cxN s h) 0).1.sets by rw [← hX0], show x1.tb = (lev (cxN s h) 0).1.tb by rw [← hX0]]
  refine gc_loopF (ι := Nat × List GR × Option Nat × Nat × List HL) [(2, _), (3, _), (5, _), (10, _)] [_, _, _, _] (fun q => q.1 ≤ 768 ∧ GSOk (cxN s h) (lev (cxN s h) q.1) q.2.1 q.2.2.2.2) (fun q Fr0 => ((11, .slice (rowA q.2.2.1) q.2.1.length q.2.2.2.1) :: Fr0)) (fun q Fr0 => (.row 90 2 (some b27) s.ds.length s.ds.length (((lev (cxN s h) q.1).1.sets).flatMap setC) :: .obj b28 (actO (lev (cxN s h) q.1).1.tb) :: .row 123 1 q.2.2.1 q.2.1.length q.2.2.2.1 (q.2.1.map GR.cell) :: (Fr0 ++ q.2.2.2.2))) (fun q => 1000 - q.1) (0, G, rG, cG, T) (⟨Nat.zero_le _, hX0 ▸ hG⟩) ⟨rfl, rfl, rfl, rfl, rfl, trivial⟩ (sub_tail (A := [_, _, _, _, _, _, _]) (B := [_, _, _, _, _, _, _]) (T := T) [0, 1, 2, 3, 4, 5, 6] 7 (by decide) (by decide) rfl rfl) ?_
  rintro ⟨lv, G2, r2, c2, T2⟩ ⟨hlv, hG2⟩
  simp only at hlv hG2 ⊢
  obtain ⟨⟨y1, y2⟩, hy⟩ : ∃ y, lev (cxN s h) lv = y := ⟨_, rfl⟩
  have hgo := lev_go hA (n := lv)
  have hln := lev_len hA (by show h.cs.length ≤ 768; omega) lv
  rw [hy] at hG2 hgo hln ⊢
  simp only at hgo hln ⊢
  have hg2p : G2.map GR.ps = y2 := hG2.ps
  have hg2l : G2.length = y2.length := by rw [← hg2p, List.length_map]
  refine gc_seq <| gc_seq <| gc_region <| gl_op <| op_rd rfl (rd_move rfl) <| gl_op <| op_rd rfl (rd_lenSlice Tryd.underlying126 rfl) <| gl_op (op_rd rfl (rd_gtr rfl rfl) (gk_dec (fun h107 => ?_) (fun h107 => ?_)))
  · have hlt : lv < 768 := hgo (fun e => absurd (show G2.length = 0 from by rw [hg2l, e]; rfl) (by omega))
    refine gl_nil <| gx_then <| gc_cond_t rfl <| gc_skip <| gx_then <| gc_block <| gc_seq <| gc_region <| gl_op <| op_rd rfl (rd_assign rfl) <| gl_nil <| gx_then <| gc_seq <| gc_seq <| gc_region <| gl_op <| op_rd rfl (rd_move rfl) <| gl_op <| op_rd rfl (rd_lenSlice Tryd.underlying126 rfl) <| gl_op <| op_rd rfl (rd_move rfl) <| gl_nil <| gx_then <| gc_block <| gk_nil 123 1 <| gc_loopF (ι := Nat × GS × List GR × Option Nat × Nat × List HL) [(2, _), (3, _), (5, _), (10, _), (108, _), (109, _)] [_, _, _, _, _] (fun q => q.1 ≤ G2.length ∧ q.2.1 = (y2.take q.1).foldl (nextL (cxN s h)) (y1, []) ∧ GSOk (cxN s h) q.2.1 q.2.2.1 q.2.2.2.2.2 ∧ q.2.2.1.length ≤ q.1 * 24 ∧ (∀ g ∈ G2, RG g.r g.c g.ps ∈ q.2.2.2.2.2)) (fun q Fr0 => ((18, .slice (rowA q.2.2.2.1) q.2.2.1.length q.2.2.2.2.1) :: (110, natV q.1) :: Fr0)) (fun q Fr0 => (.row 90 2 (some b27) s.ds.length s.ds.length ((q.2.1.1.sets).flatMap setC) :: .obj b28 (actO q.2.1.1.tb) :: .row 123 1 q.2.2.2.1 q.2.2.1.length q.2.2.2.2.1 (q.2.2.1.map GR.cell) :: (Fr0 ++ q.2.2.2.2.2))) (fun q => G2.length - q.1) (0, (y1, []), [], none, 0, T2) (⟨Nat.zero_le _, rfl, ⟨hG2.set, rfl, by simp, by simp⟩, Nat.zero_le _, hG2.tl⟩) ⟨rfl, rfl, rfl, rfl, rfl, rfl, rfl, rfl, trivial⟩ (sub_tail (A := [_, _, _, _, _, _, _, _]) (B := [_, _, _, _, _, _, _, _]) (T := T2) [1, 2, 0, 3, 4, 5, 6, 7] 8 (by decide) (by decide) rfl rfl) ?_
    rintro ⟨k, ⟨z1, z2⟩, N3, r3, c3, T3⟩ ⟨hk, hX, hN3, hNl, hGT⟩
    simp only at hk hX hN3 hNl hGT ⊢
    refine gc_seq <| gc_region <| gl_op (op_rd rfl (rd_lss rfl rfl) (gk_dec (fun h111 => ?_) (fun h111 => ?_)))
    · obtain ⟨gr, hgr⟩ := get_some (show k < G2.length by omega)
      have hgm := List.mem_of_getElem? hgr
      have hgok := hG2.ok gr hgm
      have hgp : y2[k]? = some gr.ps := by rw [← hg2p, List.getElem?_map, hgr]; rfl
      refine gl_nil <| gx_then <| gc_seq <| gc_cond_t rfl <| gc_skip <| gx_then <| gc_seq <| gc_block <| gc_seq <| gc_region <| gl_op (op_rd rfl (rd_indexRow1 3 rfl Tryd.underlying126 ty_123 rfl rfl (by omega) (by omega)) ?_)
      refine gl_op <| op_rd rfl (rd_load Tryd.underlying123 rfl rfl (ld_rowN 3 rfl (get_gr hgr))) <| gl_op <| op_rd rfl (rd_assign rfl) <| gl_nil <| gx_then <| gc_seq <| gc_region <| gl_op <| op_rd rfl (rd_fieldAddr rfl (fa_31_2 _)) <| gl_op (op_rd rfl (rd_load Tryd.underlying29 rfl rfl (by exact ld_blk 6 rfl rfl)) ?_)
      refine gl_op <| op_rd rfl (rd_lenSlice Tryd.underlying29 rfl) <| gl_op <| op_rd rfl (rd_move rfl) <| gl_nil <| gx_then <| gc_block <| gc_loopF (ι := Nat × GS × List GR × Option Nat × Nat × List HL) [(2, _), (3, _), (5, _), (10, _), (20, _), (108, _), (109, _), (110, _), (115, _), (116, _)] [_, _, _, _, _] (fun q => q.1 ≤ h.cs.length ∧ q.2.1 = (h.cs.take q.1).foldl (nextC (cxN s h) gr.ps) (z1, z2) ∧ GSOk (cxN s h) q.2.1 q.2.2.1 q.2.2.2.2.2 ∧ q.2.2.1.length ≤ k * 24 + q.1 ∧ (∀ g ∈ G2, RG g.r g.c g.ps ∈ q.2.2.2.2.2)) (fun q Fr0 => ((18, .slice (rowA q.2.2.2.1) q.2.2.1.length q.2.2.2.2.1) :: (117, natV q.1) :: Fr0)) (fun q Fr0 => (.row 90 2 (some b27) s.ds.length s.ds.length ((q.2.1.1.sets).flatMap setC) :: .obj b28 (actO q.2.1.1.tb) :: .row 123 1 q.2.2.2.1 q.2.2.1.length q.2.2.2.2.1 (q.2.2.1.map GR.cell) :: (Fr0 ++ q.2.2.2.2.2))) (fun q => h.cs.length - q.1) (0, (z1, z2), N3, r3, c3, T3) (⟨Nat.zero_le _, rfl, hN3, by simp only; omega, hGT⟩) ⟨rfl, rfl, rfl, rfl, rfl, rfl, rfl, rfl, rfl, rfl, rfl, rfl, trivial⟩ (sub_tail (A := [_, _, _, _, _, _, _, _]) (B := [_, _, _, _, _, _, _, _]) (T := T3) [0, 1, 2, 3, 4, 5, 6, 7] 8 (by decide) (by decide) rfl rfl) ?_
      rintro ⟨j, ⟨u1, u2⟩, N4, r4, c4, T4⟩ ⟨hj, hU, hN4, hNl4, hGT4⟩
      simp only at hj hU hN4 hNl4 hGT4 ⊢
      have hset := hN4.set
      simp only at hset
      refine gc_seq <| gc_region <| gl_op (op_rd rfl (rd_lss rfl rfl) (gk_dec (fun h118 => ?_) (fun h118 => ?_)))
      · obtain ⟨i, hi⟩ := get_some (show j < h.cs.length by omega)
        have him : i ∈ (cxN s h).dr := List.mem_of_getElem? hi
        obtain ⟨cp, hcp⟩ := get_some (show i < s.cs.length from hA.drn i him)
        have hcpi : (cxN s h).cp i = cp := getD_some hcp
        have hil : i < s.cs.length := hA.drn i him
        obtain ⟨hs0, hs1⟩ := hA.src i hil
        rw [hcpi] at hs0 hs1
        change cp.src < s.ds.length at hs1
        refine gl_nil <| gx_then <| gc_seq <| gc_cond_t rfl <| gc_skip <| gx_then <| gc_seq <| gc_block <| gc_seq <| gc_region <| gl_op (op_rd rfl (rd_indexOld1 hH.c Tryd.underlying29 ty_3 rfl rfl (by omega) (by omega)) ?_)
        refine gl_op <| op_rd rfl (rd_load Tryd.underlying3 rfl rfl (ld_slN hH.c (get_nz hi))) <| gl_op <| op_rd rfl (rd_assign rfl) <| gl_nil <| gx_then <| gc_seq <| gc_region <| gl_op <| op_rd rfl (rd_fieldAddr rfl (fa_27_3 _)) <| gl_op (op_rd rfl (rd_load Tryd.underlying25 rfl rfl (by exact ld_blk 7 rfl rfl)) ?_)
        refine gl_op <| op_rd rfl (rd_move rfl) <| gl_op (op_rd rfl (rd_indexOld hS.c Tryd.underlying25 ty_67 rfl rfl (by omega) (by omega)) ?_)
        refine gl_op (op_rd rfl (rd_loadAgg Tryd.underlying67 rfl ty_67 rfl (cs_slN hS.c (flat_drop_get Cp.cells 6 (fun _ => rfl) hcp)) rfl) ?_)
        refine gl_op (op_alloc ty_67 rfl rfl (fun b23 => ?_))
        refine gl_op (op_storeAgg 0 ty_67 rfl rfl rfl rfl rfl rfl (by rfl) ?_)
        refine gl_nil <| gx_then <| gc_seq ?_
        simp only [Cp.cells]
        refine gc_drawP [0, 1, 2, 3, 4, 5, 6, 7, 8] true 15 rfl <| ga_first 0 (bm 16 1) rfl rfl rfl rfl (by kernel_rfl) (by kernel_rfl) ⟨[0, 1, 2, 3, 4, 5, 6, 7, 8], by decide, rfl⟩ (qt_rd (rd_move rfl)) ?_
        refine ga_first 1 (bm 16 3) rfl rfl rfl rfl (by kernel_rfl) (by kernel_rfl) ⟨[0, 1, 2, 3, 4, 5, 6, 7, 8], by decide, rfl⟩ (qt_rd (rd_lenSlice Tryd.underlying123 rfl)) ?_
        refine ga_first 2 (bm 16 7) rfl rfl rfl rfl (by kernel_rfl) (by kernel_rfl) ⟨[0, 1, 2, 3, 4, 5, 6, 7, 8], by decide, rfl⟩ (qt_rd (rd_gtr rfl rfl)) (gk_dec (fun h128 => ?_) (fun h128 => ?_))
        · obtain ⟨p0, l0, hps⟩ : ∃ p0 l0, gr.ps = p0 :: l0 := by
            cases hq : gr.ps with
            | nil => rw [hq] at h128; simp at h128
            | cons p0 l0 => exact ⟨p0, l0, rfl⟩
          have hmt := hGT4 gr hgm
          refine ga_first 3 (bm 16 15) rfl rfl rfl rfl (by kernel_rfl) (by kernel_rfl) ⟨[0, 1, 2, 3, 4, 5, 6, 7, 8], by decide, rfl⟩ (qt_rd (rd_move rfl)) ?_
          refine ga_firstY 4 (bm 16 31) rfl rfl rfl rfl rfl rfl (by kernel_rfl) (by kernel_rfl) ⟨[0, 1, 2, 3, 4, 5, 6, 7, 8], by decide, rfl⟩ (qt_rd (rd_fieldAddr rfl (fa_67_5 _))) ?_
          refine ga_firstY 5 (bm 16 63) rfl rfl rfl rfl rfl rfl (by kernel_rfl) (by kernel_rfl) ⟨[0, 1, 2, 3, 4, 5, 6, 7, 8], by decide, rfl⟩ (qt_rd (rd_load Tryd.underlying4 rfl rfl (by exact ld_blk 0 rfl rfl))) ?_
          refine gk_bool (fun h131 => ?_) (fun h131 => ?_)
          · refine ga_first 6 (bm 16 127) rfl rfl rfl rfl (by kernel_rfl) (by kernel_rfl) ⟨[0, 1, 2, 3, 4, 5, 6, 7, 8], by decide, rfl⟩ (qt_rd (rd_pick_t rfl rfl)) ?_
            refine ga_first 7 (bm 16 255) rfl rfl rfl rfl (by kernel_rfl) (by kernel_rfl) ⟨[0, 1, 2, 3, 4, 5, 6, 7, 8], by decide, rfl⟩ (qt_rd (rd_move rfl)) ?_
            refine ga_firstY 8 (bm 16 511) rfl rfl rfl rfl rfl rfl (by kernel_rfl) (by kernel_rfl) ⟨[0, 1, 2, 3, 4, 5, 6, 7, 8], by decide, rfl⟩ (qt_rd (rd_fieldAddr rfl (fa_67_1 _))) ?_
            refine ga_firstY 9 (bm 16 1023) rfl rfl rfl rfl rfl rfl (by kernel_rfl) (by kernel_rfl) ⟨[0, 1, 2, 3, 4, 5, 6, 7, 8], by decide, rfl⟩ (qt_rd (rd_load Tryd.underlying3 rfl rfl (by exact ld_blk 0 rfl rfl))) ?_
            refine ga_firstY 10 (bm 16 2047) rfl rfl rfl rfl rfl rfl (by kernel_rfl) (by kernel_rfl) ⟨[0, 1, 2, 3, 4, 5, 6, 7, 8], by decide, rfl⟩ (qt_rd (rd_move rfl)) ?_
            refine ga_onlyY 11 (bm 16 4095) rfl rfl rfl rfl (by kernel_rfl) (by kernel_rfl) (.inr ⟨[0, 1, 2, 3, 4, 5, 6, 7, 8], by decide, rfl⟩) (op_rd rfl (rd_indexMem (List.mem_append_right [_, _, _, _, _, _, _, _, _] hmt) Tryd.underlying123 ty_110 rfl rfl (by decide) (by omega)) ?_)
            refine ga_firstY 12 (bm 16 8191) rfl rfl rfl rfl rfl rfl (by kernel_rfl) (by kernel_rfl) ⟨[0, 1, 2, 3, 4, 5, 6, 7, 8], by decide, rfl⟩ (qt_rd (rd_fieldAddr rfl (fa_110_0 _))) ?_
            refine ga_onlyY 13 (bm 16 16383) rfl rfl rfl rfl (by kernel_rfl) (by kernel_rfl) (.inr ⟨[0, 1, 2, 3, 4, 5, 6, 7, 8], by decide, rfl⟩) (op_rd rfl (rd_load Tryd.underlying3 rfl rfl (ld_memRow (off := 0) (List.mem_append_right [_, _, _, _, _, _, _, _, _] hmt) (by rw [hps]; rfl))) ?_)
            refine ga_firstY 14 (bm 16 32767) rfl rfl rfl rfl rfl rfl (by kernel_rfl) (by kernel_rfl) ⟨[0, 1, 2, 3, 4, 5, 6, 7, 8], by decide, rfl⟩ (qt_rd (rd_eql rfl rfl)) (gk_dec (fun h140 => ?_) (fun h140 => ?_))
            · have hnx : nextC (cxN s h) gr.ps (u1, u2) i = ((reachP (cxN s h) i gr.ps u1).1, u2 ++ [(reachP (cxN s h) i gr.ps u1).2]) := by
                unfold nextC; rw [if_pos]; rw [goesL_eq hcpi hps, h131]; simp; omega
              refine ga_first 15 (bm 16 65535) rfl rfl rfl rfl (by kernel_rfl) (by kernel_rfl) ⟨[0, 1, 2, 3, 4, 5, 6, 7, 8], by decide, rfl⟩ (qt_rd (rd_pick_t rfl rfl)) ?_
              refine ga_end (by kernel_rfl) (.inr ⟨[0, 1, 2, 3, 4, 5, 6, 7, 8], by decide, rfl⟩) ?_
              refine gx_then <| gc_cond_t rfl <| gc_region <| gl_op <| op_rd rfl (rd_move rfl) <| gl_op <| op_rd rfl (rd_move rfl) <| gl_op <| op_rd rfl (rd_move rfl) <| gl_op <| op_rd rfl (rd_move rfl) <| gl_op (op_callMT [_, _, _, _, _, _, _, _, _] T4 [8, 5, 6, 1, 2] [0, 3, 4, 7] 9 rfl rfl rfl (vf := []) (vc := [.pointer (some ⟨b2, 0, none⟩), .pointer (some ⟨b5, 0, none⟩)]) rfl rfl Tryd.call49 (by decide) (by decide) rfl (fun w how hc => reached_ok s h hle hA i him gr.ps (rowA gr.r) gr.c (Nat.le_trans hgok.len (by decide)) hgok.key b2 b5 b30 b27 s.ds.length b28 u1 hset w (hS.atS how (new_pick (B := [_, _, _, _, _, _, _, _, _]) (T := T4) how [8, 5, 6, 1, 2])) (rowOutT (A := [_, _, _, _, _, _, _, _, _]) (T := T4) how [8, 5, 6, 1, 2] 9 rfl (by decide) hmt) hc) ?_)
              rintro _ _ ⟨rg, cg, rfl, rfl⟩
              refine gk_mid2 [_, _, _, _, _] [RG rg cg (reachP (cxN s h) i gr.ps u1).2] [_, _, _, _] T4 <| gl_op (op_buildSlice (sz := 1) rfl rfl (fun _ => bs_126_1_0 _ _ _) rfl rfl (fun b147 => ?_))
              refine gl_op (op_appendRow 7 0 Tryd.underlying126 ty_123 rfl (by decide) rfl rfl rfl rfl rfl (by simp [Value.oneCell']) (by omega) (by omega) (fun _ => (by rfl)) (fun r148 c148 => ?_))
              refine gl_op <| op_rd rfl (rd_assign rfl) <| gl_nil <| gx_block <| gx_then ?_
              rw [snoc_gr, show N4.length + 1 = (N4 ++ [(⟨rg, cg, (reachP (cxN s h) i gr.ps u1).2⟩ : GR)]).length by simp, show (reachP (cxN s h) i gr.ps u1).1 = (nextC (cxN s h) gr.ps (u1, u2) i).1 by rw [hnx]]
              refine gc_region <| gl_op (op_rd rfl (by exact rd_addN (b := 1) rfl rfl (by omega)) ?_)
              refine gl_op <| op_rd rfl (rd_move rfl) <| gl_nil <| gx_then ?_
              exact gx_cut ((j + 1, nextC (cxN s h) gr.ps (u1, u2) i, N4 ++ [(⟨rg, cg, (reachP (cxN s h) i gr.ps u1).2⟩ : GR)], r148, c148, T4 ++ [RG rg cg (reachP (cxN s h) i gr.ps u1).2])) ⟨⟨by simp only; omega, by simp only; rw [fold_take _ _ hi, ← hU], by rw [hnx]; exact hN4.put (reachP_set hA him hset) (reachP_gok hA him hset hgok), by simp only [List.length_append, List.length_cons, List.length_nil]; omega, fun g hg => List.mem_append_left _ (hGT4 g hg)⟩, by simp only; omega⟩ ⟨rfl, rfl, rfl, rfl, rfl, rfl, rfl, rfl, rfl, rfl, rfl, rfl, trivial⟩ (sub_tail (A := [_, _, _, _, _, _, _, _]) (B := [_, _, _, _, _, _, _, _, _, _]) (T := (T4 ++ [RG rg cg (reachP (cxN s h) i gr.ps u1).2])) [4, 5, 7, 8, 2, 3, 9, 1] 10 (by decide) (by decide) rfl rfl)
            have hnx : nextC (cxN s h) gr.ps (u1, u2) i = (u1, u2) := by
              unfold nextC; rw [if_neg]; rw [goesL_eq hcpi hps, h131]; simp; omega
            refine ga_first 15 (bm 16 65535) rfl rfl rfl rfl (by kernel_rfl) (by kernel_rfl) ⟨[0, 1, 2, 3, 4, 5, 6, 7, 8], by decide, rfl⟩ (qt_rd (rd_pick_t rfl rfl)) ?_
            refine ga_end (by kernel_rfl) (.inr ⟨[0, 1, 2, 3, 4, 5, 6, 7, 8], by decide, rfl⟩) ?_
            refine gx_then <| gc_cond_f rfl <| gc_skip <| gx_block <| gx_then <| gc_region <| gl_op (op_rd rfl (by exact rd_addN (b := 1) rfl rfl (by omega)) ?_)
            refine gl_op <| op_rd rfl (rd_move rfl) <| gl_nil <| gx_then ?_
            exact gx_cut ((j + 1, (u1, u2), N4, r4, c4, T4)) ⟨⟨by simp only; omega, by simp only; rw [fold_take _ _ hi, ← hU]; exact hnx.symm, hN4, by simp only; omega, hGT4⟩, by simp only; omega⟩ ⟨rfl, rfl, rfl, rfl, rfl, rfl, rfl, rfl, rfl, rfl, rfl, rfl, trivial⟩ (sub_tail (A := [_, _, _, _, _, _, _, _]) (B := [_, _, _, _, _, _, _, _, _]) (T := T4) [1, 2, 3, 4, 5, 6, 7, 8] 9 (by decide) (by decide) rfl rfl)
          have hnx : nextC (cxN s h) gr.ps (u1, u2) i = (u1, u2) := by
            unfold nextC; rw [if_neg]; rw [goesL_eq hcpi hps, h131]; simp
          refine ga_first 6 (bm 16 127) rfl rfl rfl rfl (by kernel_rfl) (by kernel_rfl) ⟨[0, 1, 2, 3, 4, 5, 6, 7, 8], by decide, rfl⟩ (qt_rd (rd_pick_t rfl rfl)) ?_
          refine ga_first 7 (bm 16 255) rfl rfl rfl rfl (by kernel_rfl) (by kernel_rfl) ⟨[0, 1, 2, 3, 4, 5, 6, 7, 8], by decide, rfl⟩ (qt_rd (rd_move rfl)) ?_
          refine ga_firstN 8 (bm 16 511) rfl rfl rfl rfl rfl rfl (by kernel_rfl) (by kernel_rfl) ⟨[0, 1, 2, 3, 4, 5, 6, 7, 8], by decide, rfl⟩ ?_
          refine ga_firstN 9 (bm 16 1023) rfl rfl rfl rfl rfl rfl (by kernel_rfl) (by kernel_rfl) ⟨[0, 1, 2, 3, 4, 5, 6, 7, 8], by decide, rfl⟩ ?_
          refine ga_firstN 10 (bm 16 2047) rfl rfl rfl rfl rfl rfl (by kernel_rfl) (by kernel_rfl) ⟨[0, 1, 2, 3, 4, 5, 6, 7, 8], by decide, rfl⟩ ?_
          refine ga_firstN 11 (bm 16 4095) rfl rfl rfl rfl rfl rfl (by kernel_rfl) (by kernel_rfl) ⟨[0, 1, 2, 3, 4, 5, 6, 7, 8], by decide, rfl⟩ ?_
          refine ga_firstN 12 (bm 16 8191) rfl rfl rfl rfl rfl rfl (by kernel_rfl) (by kernel_rfl) ⟨[0, 1, 2, 3, 4, 5, 6, 7, 8], by decide, rfl⟩ ?_
          refine ga_firstN 13 (bm 16 16383) rfl rfl rfl rfl rfl rfl (by kernel_rfl) (by kernel_rfl) ⟨[0, 1, 2, 3, 4, 5, 6, 7, 8], by decide, rfl⟩ ?_
          refine ga_firstN 14 (bm 16 32767) rfl rfl rfl rfl rfl rfl (by kernel_rfl) (by kernel_rfl) ⟨[0, 1, 2, 3, 4, 5, 6, 7, 8], by decide, rfl⟩ ?_
          refine ga_first 15 (bm 16 65535) rfl rfl rfl rfl (by kernel_rfl) (by kernel_rfl) ⟨[0, 1, 2, 3, 4, 5, 6, 7, 8], by decide, rfl⟩ (qt_rd (rd_pick_f rfl rfl)) ?_
          refine ga_end (by kernel_rfl) (.inr ⟨[0, 1, 2, 3, 4, 5, 6, 7, 8], by decide, rfl⟩) ?_
          refine gx_then <| gc_cond_f rfl <| gc_skip <| gx_block <| gx_then <| gc_region <| gl_op (op_rd rfl (by exact rd_addN (b := 1) rfl rfl (by omega)) ?_)
          refine gl_op <| op_rd rfl (rd_move rfl) <| gl_nil <| gx_then ?_
          exact gx_cut ((j + 1, (u1, u2), N4, r4, c4, T4)) ⟨⟨by simp only; omega, by simp only; rw [fold_take _ _ hi, ← hU]; exact hnx.symm, hN4, by simp only; omega, hGT4⟩, by simp only; omega⟩ ⟨rfl, rfl, rfl, rfl, rfl, rfl, rfl, rfl, rfl, rfl, rfl, rfl, trivial⟩ (sub_tail (A := [_, _, _, _, _, _, _, _]) (B := [_, _, _, _, _, _, _, _, _]) (T := T4) [1, 2, 3, 4, 5, 6, 7, 8] 9 (by decide) (by decide) rfl rfl)
        have hps : gr.ps = [] := List.length_eq_zero_iff.1 (by omega)
        have hnx : nextC (cxN s h) gr.ps (u1, u2) i = (u1, u2) := by unfold nextC; rw [hps]; rfl
        refine ga_first 3 (bm 16 15) rfl rfl rfl rfl (by kernel_rfl) (by kernel_rfl) ⟨[0, 1, 2, 3, 4, 5, 6, 7, 8], by decide, rfl⟩ (qt_rd (rd_move rfl)) ?_
        refine ga_firstN 4 (bm 16 31) rfl rfl rfl rfl rfl rfl (by kernel_rfl) (by kernel_rfl) ⟨[0, 1, 2, 3, 4, 5, 6, 7, 8], by decide, rfl⟩ ?_
        refine ga_firstN 5 (bm 16 63) rfl rfl rfl rfl rfl rfl (by kernel_rfl) (by kernel_rfl) ⟨[0, 1, 2, 3, 4, 5, 6, 7, 8], by decide, rfl⟩ ?_
        refine ga_first 6 (bm 16 127) rfl rfl rfl rfl (by kernel_rfl) (by kernel_rfl) ⟨[0, 1, 2, 3, 4, 5, 6, 7, 8], by decide, rfl⟩ (qt_rd (rd_pick_f rfl rfl)) ?_
        refine ga_first 7 (bm 16 255) rfl rfl rfl rfl (by kernel_rfl) (by kernel_rfl) ⟨[0, 1, 2, 3, 4, 5, 6, 7, 8], by decide, rfl⟩ (qt_rd (rd_move rfl)) ?_
        refine ga_firstN 8 (bm 16 511) rfl rfl rfl rfl rfl rfl (by kernel_rfl) (by kernel_rfl) ⟨[0, 1, 2, 3, 4, 5, 6, 7, 8], by decide, rfl⟩ ?_
        refine ga_firstN 9 (bm 16 1023) rfl rfl rfl rfl rfl rfl (by kernel_rfl) (by kernel_rfl) ⟨[0, 1, 2, 3, 4, 5, 6, 7, 8], by decide, rfl⟩ ?_
        refine ga_firstN 10 (bm 16 2047) rfl rfl rfl rfl rfl rfl (by kernel_rfl) (by kernel_rfl) ⟨[0, 1, 2, 3, 4, 5, 6, 7, 8], by decide, rfl⟩ ?_
        refine ga_firstN 11 (bm 16 4095) rfl rfl rfl rfl rfl rfl (by kernel_rfl) (by kernel_rfl) ⟨[0, 1, 2, 3, 4, 5, 6, 7, 8], by decide, rfl⟩ ?_
        refine ga_firstN 12 (bm 16 8191) rfl rfl rfl rfl rfl rfl (by kernel_rfl) (by kernel_rfl) ⟨[0, 1, 2, 3, 4, 5, 6, 7, 8], by decide, rfl⟩ ?_
        refine ga_firstN 13 (bm 16 16383) rfl rfl rfl rfl rfl rfl (by kernel_rfl) (by kernel_rfl) ⟨[0, 1, 2, 3, 4, 5, 6, 7, 8], by decide, rfl⟩ ?_
        refine ga_firstN 14 (bm 16 32767) rfl rfl rfl rfl rfl rfl (by kernel_rfl) (by kernel_rfl) ⟨[0, 1, 2, 3, 4, 5, 6, 7, 8], by decide, rfl⟩ ?_
        refine ga_first 15 (bm 16 65535) rfl rfl rfl rfl (by kernel_rfl) (by kernel_rfl) ⟨[0, 1, 2, 3, 4, 5, 6, 7, 8], by decide, rfl⟩ (qt_rd (rd_pick_f rfl rfl)) ?_
        refine ga_end (by kernel_rfl) (.inr ⟨[0, 1, 2, 3, 4, 5, 6, 7, 8], by decide, rfl⟩) ?_
        refine gx_then <| gc_cond_f rfl <| gc_skip <| gx_block <| gx_then <| gc_region <| gl_op (op_rd rfl (by exact rd_addN (b := 1) rfl rfl (by omega)) ?_)
        refine gl_op <| op_rd rfl (rd_move rfl) <| gl_nil <| gx_then ?_
        exact gx_cut ((j + 1, (u1, u2), N4, r4, c4, T4)) ⟨⟨by simp only; omega, by simp only; rw [fold_take _ _ hi, ← hU]; exact hnx.symm, hN4, by simp only; omega, hGT4⟩, by simp only; omega⟩ ⟨rfl, rfl, rfl, rfl, rfl, rfl, rfl, rfl, rfl, rfl, rfl, rfl, trivial⟩ (sub_tail (A := [_, _, _, _, _, _, _, _]) (B := [_, _, _, _, _, _, _, _, _]) (T := T4) [1, 2, 3, 4, 5, 6, 7, 8] 9 (by decide) (by decide) rfl rfl)
      refine gl_nil <| gx_then <| gc_seq <| gc_cond_f rfl <| gc_exit <| gx_then_exit <| gx_then_exit <| gx_block_exit <| gx_block <| gx_then <| gc_region <| gl_op (op_rd rfl (by exact rd_addN (b := 1) rfl rfl (by omega)) ?_)
      refine gl_op <| op_rd rfl (rd_move rfl) <| gl_nil <| gx_then ?_
      exact gx_cut ((k + 1, (u1, u2), N4, r4, c4, T4)) ⟨⟨by simp only; omega, by simp only; rw [fold_take _ _ hgp, ← hX]; unfold nextL; rw [hU, show h.cs.take j = h.cs from List.take_of_length_le (by omega)]; rfl, hN4, by simp only; omega, hGT4⟩, by simp only; omega⟩ ⟨rfl, rfl, rfl, rfl, rfl, rfl, rfl, rfl, trivial⟩ (sub_tail (A := [_, _, _, _, _, _, _, _]) (B := [_, _, _, _, _, _, _, _]) (T := T4) [0, 1, 2, 3, 4, 5, 6, 7] 8 (by decide) (by decide) rfl rfl)
    refine gl_nil <| gx_then <| gc_seq <| gc_cond_f rfl <| gc_exit <| gx_then_exit <| gx_then_exit <| gx_block_exit <| gx_then ?_
    have hlev : lev (cxN s h) (lv + 1) = (z1, z2.filter fun l => decide (l ≠ [])) := by
      show nextG (cxN s h) (lev (cxN s h) lv) = _
      rw [hy]
      unfold nextG
      simp only
      rw [show y2.take k = y2 from List.take_of_length_le (by omega)] at hX
      rw [← hX]
    rw [show z1.sets = (lev (cxN s h) (lv + 1)).1.sets by rw [hlev], show z1.tb = (lev (cxN s h) (lv + 1)).1.tb by rw [hlev]]
    refine gc_region <| gl_op <| op_rd rfl (rd_move rfl) <| gl_op (op_callMT [_, _, _, _, _, _, _, _] T3 [2] [0, 1, 3, 4, 5, 6, 7] 8 rfl rfl rfl (vf := []) (vc := []) rfl rfl Tryd.call52 (by decide) (by decide) rfl (fun w how hc => DeleteG_ok N3 r3 c3 (by omega) _ w hc) ?_)
    rintro _ _ ⟨rfl, rfl⟩
    refine gl_op <| op_rd rfl (rd_assign rfl) <| gl_nil <| gx_block <| gx_then ?_
    exact gx_cut ((lv + 1, N3.filter neB, r3, c3, T3)) ⟨⟨by simp only; omega, by simp only; rw [hlev]; exact hN3.filter⟩, by simp only; omega⟩ ⟨rfl, rfl, rfl, rfl, rfl, trivial⟩ (sub_tail (A := [_, _, _, _, _, _, _]) (B := [_, _, _, _, _, _, _, _]) (T := T3) [1, 2, 0, 4, 5, 6, 7] 8 (by decide) (by decide) rfl rfl)
  refine gl_nil <| gx_then <| gc_cond_f rfl <| gc_exit <| gx_then_exit <| gx_then_exit <| gx_block_exit <| gx_then <| gc_seq <| gc_region <| gl_op (op_rd rfl (rd_load Tryd.underlying82 rfl rfl (by exact ld_blk 3 rfl rfl)) ?_)
  refine gl_op <| op_rd rfl (rd_assign rfl) <| gl_nil <| gx_then <| gc_ret <| gx_ret1 (.inl rfl) Tryd.results32 rfl [4, 0, 1] (by decide) ?_
  have he : (lev (cxN s h) lv).1 = actP (cxN s h) := lev_act hA (by unfold fuelA; omega) (by rw [hy]; simp only; exact List.length_eq_zero_iff.1 (by omega))
  rw [hy] at he
  simp only at he
  rw [← he]
  exact ⟨b30, b27, _, b28, rfl, rfl⟩
end Go.Proofs.YtbjijbbkfgcleaaDoor
namespace Go.Proofs.YtbjijbbkfgcleaaDoor
open Go.Gv
open Go.RowKit
open Go.Sn
open Sx
namespace Sx
/-- the couplers of a chain in memory -/
def CEIn (TC : List HL) (e : CE) : Prop := (e.r = none ∧ e.ch = []) ∨ HL.row 3 1 e.r e.ch.length e.c (e.ch.map natV) ∈ TC
end Sx
open Sx
end Go.Proofs.YtbjijbbkfgcleaaDoor
namespace Go.Proofs.YtbjijbbkfgcleaaDoor
open Go.Gv
open Go.RowKit
open Go.Sn
open Sx
namespace Sx
def CEs (tb : List (List CE)) (TC : List HL) : Prop := ∀ q, (entR tb q).there = true → CEIn TC (entR tb q) ∧ (entR tb q).ch.length ≤ 100000
theorem CEIn.mono {TC TC' : List HL} {e : CE} (h : CEIn TC e) (hm : ∀ x ∈ TC, x ∈ TC') : CEIn TC' e := by
  rcases h with h | h
  · exact .inl h
  · exact .inr (hm _ h)
theorem CEs.put {tb : List (List CE)} {TC : List HL} {nd : Nat} (h : CEs tb TC) (htb : TbLen nd tb) {lo hi : Int} {d : Nat} (hd : d < nd) (h0 : 0 ≤ lo) (h1 : hi ≤ 127) {key : Int} {x : CE} {row : HL} (hx : CEIn (TC ++ [row]) x) (hl : x.ch.length ≤ 100000) : CEs (addR lo hi tb d key x) (TC ++ [row]) := fun q hq => by
  rcases addR_ent (x := x) (key := key) htb hd h0 h1 q with e | e
  · rw [e]; exact ⟨hx, hl⟩
  · rw [e] at hq ⊢
    exact ⟨(h q hq).1.mono fun y hy => List.mem_append_left _ hy, (h q hq).2⟩
end Sx
open Sx
end Go.Proofs.YtbjijbbkfgcleaaDoor
namespace Go.Proofs.YtbjijbbkfgcleaaDoor
open Go.Gv
open Go.RowKit
open Go.Sn
open Sx
set_option maxRecDepth 100000 in
set_option maxHeartbeats 1000000 in
theorem Keys_ok (s : Org) (h : Hd) (hle : OrgLe s) (hhe : HdLe h) (w0 : World) (hS : OrgIn s w0 []) (hH : HdIn h w0 []) (hT : TabIn w0) : Sp Tryd.prog 12 [s.val, h.val] w0 [] (KeysR 3 29 s h) := by
  refine spec_enter Tryd.func12 rfl Tryd.ntmps12 rfl (Own.refl _) ?_
  simp only [argEnv]
  refine gc_seq <| gc_region <| gl_op (op_box rfl rfl rfl (fun b2 => ?_))
  refine gl_op (op_box rfl rfl rfl (fun b3 => ?_))
  refine gl_op <| op_rd rfl (rd_assign rfl) <| gl_op <| op_rd rfl (rd_assign rfl) <| gl_nil <| gx_then <| gc_seq <| gc_seq <| gc_region <| gl_op (op_rd rfl (rd_loadAgg Tryd.underlying27 rfl ty_27 rfl (by exact cs_blk 1 (off := 0) (k := 4) rfl rfl) rfl) ?_)
  refine gl_op (op_rd rfl (rd_loadAgg Tryd.underlying31 rfl ty_31 rfl (by exact cs_blk 0 (off := 0) (k := 3) rfl rfl) rfl) ?_)
  refine gl_op (op_call rfl (vf := []) (vc := []) rfl rfl Tryd.call14 (fun w1 ho => Check_ok s h hle hhe w1 (hS.at ho) (hH.at ho)) ?_)
  rintro _ _ ⟨rfl, rfl⟩
  refine gl_op <| op_rd rfl (rd_assign rfl) <| gl_nil <| gx_then <| gc_seq <| gc_region <| gl_op <| op_rd rfl (rd_move rfl) <| gl_op (op_rd rfl (rd_neq rfl rfl) (gk_dec (fun h15 => ?_) (fun h15 => ?_)))
  · refine gl_nil <| gx_then <| gc_cond_t rfl <| gc_seq <| gc_region <| gl_op <| op_rd rfl (rd_move rfl) <| gl_op <| op_rd rfl (rd_assign rfl) <| gl_op <| op_rd rfl (rd_assign rfl) <| gl_nil <| gx_then <| gc_ret <| gx_then_ret <| gx_ret2 (.inl rfl) Tryd.results12 rfl rfl [] (by decide) ?_
    exact .inl ⟨h15, rfl, rfl⟩
  obtain ⟨n, rfl, hg⟩ := good_of (s := s) hhe (by omega)
  have hH := HNIn.of hH
  simp only [HN.hd_val]
  have hA := hg.cx
  have hnd : s.ds.length ≤ 6 := hA.nd
  obtain ⟨e0, he0⟩ : ∃ e0, handErr s n.hd = e0 := ⟨_, rfl⟩
  refine gl_nil <| gx_then <| gc_cond_f rfl <| gc_skip <| gx_then <| gc_seq <| gc_region <| gl_op (op_rd rfl (rd_loadAgg Tryd.underlying27 rfl ty_27 rfl (by exact cs_blk 1 (off := 0) (k := 4) rfl rfl) rfl) ?_)
  refine gl_op (op_rd rfl (rd_loadAgg Tryd.underlying31 rfl ty_31 rfl (by exact cs_blk 0 (off := 0) (k := 3) rfl rfl) rfl) ?_)
  refine gl_op (op_call rfl (vf := []) (vc := []) rfl rfl Tryd.call32 (fun w1 ho => acting_ok s n hle hg w1 (hS.at ho) (hH.at ho)) ?_)
  rintro _ _ ⟨b30, k27, c27, m28, rfl, rfl⟩
  unfold BK RS OM
  have hset := act_set hA
  have hsl0 : (actP (cxN s n)).sets.length = s.ds.length := hset.len
  refine gl_op <| op_rd rfl (rd_assign rfl) <| gl_nil <| gx_then <| gc_seq <| gc_region <| gl_op <| op_rd rfl (rd_move rfl) <| gl_op <| op_rd rfl (rd_nilCheck rfl) <| gl_op <| op_rd rfl (rd_fieldAddr rfl (fa_87_0 _)) <| gl_op (op_rd rfl (rd_load Tryd.underlying84 rfl rfl (by exact ld_blk 0 rfl rfl)) ?_)
  refine gl_op <| op_rd rfl (rd_lenSlice Tryd.underlying84 rfl) <| gl_op (op_makeSlice (s.ds.length) Tryd.underlying28 ty_29 rfl rfl rfl (by omega) (by omega) (by omega) (by omega) (fun b25 => ?_))
  refine gl_op <| op_rd rfl (rd_assign rfl) <| gl_nil <| gx_then <| gc_seq <| gc_seq ?_
  rw [made_one _ rfl]
  refine gc_region <| gl_op <| op_rd rfl (rd_move rfl) <| gl_op <| op_rd rfl (rd_nilCheck rfl) <| gl_op <| op_rd rfl (rd_fieldAddr rfl (fa_87_0 _)) <| gl_op (op_rd rfl (rd_load Tryd.underlying84 rfl rfl (by exact ld_blk 1 rfl rfl)) ?_)
  refine gl_op <| op_rd rfl (rd_lenSlice Tryd.underlying84 rfl) <| gl_op <| op_rd rfl (rd_move rfl) <| gl_nil <| gx_then <| gc_block <| gc_loopF (ι := List KG) [(8, _), (29, _), (30, _)] [_, _, _, _, _] (fun G => G.length ≤ s.ds.length ∧ G.map KG.ks = keysT (tabOf (actP (cxN s n)).tb) G.length) (fun G Fr0 => ((31, natV G.length) :: Fr0)) (fun G Fr0 => (.row 29 1 (some b25) s.ds.length s.ds.length (G.map KG.cell ++ List.replicate (s.ds.length - G.length) nilV) :: (Fr0 ++ (G.map (KG.hl 3))))) (fun G => s.ds.length - G.length) [] (⟨Nat.zero_le _, rfl⟩) ⟨rfl, rfl, rfl, rfl, trivial⟩ ⟨[0, 1, 2, 3, 4, 5], by decide, rfl⟩ ?_
  rintro G ⟨hgl, hgk⟩
  refine gc_seq <| gc_region <| gl_op (op_rd rfl (rd_lss rfl rfl) (gk_dec (fun h32 => ?_) (fun h32 => ?_)))
  · obtain ⟨X, hX⟩ := get_some (show G.length < (actP (cxN s n)).sets.length by omega)
    have hXl := hset.lt X (List.mem_of_getElem? hX)
    have hXb : bitsOf X = rowK (tabOf (actP (cxN s n)).tb) G.length 128 := by rw [← bits_act hA (show G.length < s.ds.length by omega), getD_some hX]
    refine gl_nil <| gx_then <| gc_seq <| gc_cond_t rfl <| gc_skip <| gx_then <| gc_seq <| gc_block <| gc_seq <| gc_region <| gl_op <| op_rd rfl (rd_move rfl) <| gl_op (op_rd rfl (by exact rd_indexRow 2 rfl Tryd.underlying84 ty_90 rfl rfl (by omega) (by omega)) ?_)
    refine gl_op (op_rd rfl (rd_loadAgg Tryd.underlying90 rfl ty_90 rfl (cs_row 2 (a := some k27) rfl (flat_drop_get setC 2 (fun _ => rfl) hX)) rfl) ?_)
    refine gl_op (op_alloc ty_90 rfl rfl (fun b10 => ?_))
    refine gl_op <| op_rd rfl (rd_assign rfl) <| gl_op (op_storeAgg 0 ty_90 rfl rfl rfl rfl rfl rfl (by rfl) ?_)
    refine gl_nil <| gx_then <| gc_region <| gl_op <| op_rd rfl (rd_move rfl) <| gl_op <| op_rd rfl (rd_move rfl) <| gl_op (op_rd rfl (rd_loadAgg Tryd.underlying90 rfl ty_90 rfl (by exact cs_blk 0 (off := 0) (k := 2) rfl rfl) rfl) ?_)
    simp only [setC]
    refine gl_op (op_call rfl (vf := []) (vc := []) rfl rfl Tryd.call33 (fun w1 ho => listed_ok X hXl w1 (hT.at ho (by decide))) ?_)
    rintro _ _ ⟨r39, c39, rfl, rfl⟩
    refine gk_mid2 [] [HL.row 3 1 r39 (bitsOf X).length c39 ((bitsOf X).map natV)] [_, _, _, _, _, _, _] (G.map (KG.hl 3)) ?_
    rw [show [HL.row 3 1 r39 (bitsOf X).length c39 ((bitsOf X).map natV)] = [(⟨r39, c39, bitsOf X⟩ : KG).hl 3] from rfl, kg_tail, List.nil_append]
    refine gl_op (op_rd rfl (by exact rd_indexRow1 1 rfl Tryd.underlying28 ty_29 rfl rfl (by omega) (by omega)) ?_)
    refine gl_op (op_storeRowE 1 ty_29 rfl rfl rfl rfl (by rw [kg_len G _ (by omega)]; omega) (kg_put G ⟨r39, c39, bitsOf X⟩ s.ds.length (by omega)) (by rfl) ?_)
    refine gl_nil <| gx_block <| gx_then ?_
    rw [show G.length + 1 = (G ++ [(⟨r39, c39, bitsOf X⟩ : KG)]).length by simp]
    refine gc_region <| gl_op (op_rd rfl (by exact rd_addN (b := 1) rfl rfl (by omega)) ?_)
    refine gl_op <| op_rd rfl (rd_move rfl) <| gl_nil <| gx_then ?_
    exact gx_cut (G ++ [(⟨r39, c39, bitsOf X⟩ : KG)]) ⟨⟨by rw [List.length_append, List.length_cons, List.length_nil]; omega, by rw [List.length_append, List.map_append, hgk]; show _ = keysT _ (G.length + 1); rw [keysT_take]; exact congrArg (fun z => _ ++ [z]) hXb⟩, by rw [List.length_append, List.length_cons, List.length_nil]; omega⟩ ⟨(by rw [List.length_append]; rfl), rfl, rfl, rfl, trivial⟩ (sub_tail (A := [_, _, _, _, _, _]) (B := [_, _, _, _, _, _, _]) (T := ((G ++ [(⟨r39, c39, bitsOf X⟩ : KG)]).map (KG.hl 3))) [1, 2, 3, 4, 5, 6] 7 (by decide) (by decide) rfl rfl)
  refine gl_nil <| gx_then <| gc_seq <| gc_cond_f rfl <| gc_exit <| gx_then_exit <| gx_then_exit <| gx_block_exit <| gx_then <| gc_seq ?_
  have hgl9 : G.length = s.ds.length := by omega
  rw [hgl9, Nat.sub_self, List.replicate_zero, List.append_nil]
  refine gc_region <| gl_op <| op_rd rfl (rd_move rfl) <| gl_op <| op_rd rfl (rd_assign rfl) <| gl_op <| op_rd rfl (rd_assign rfl) <| gl_nil <| gx_then <| gc_ret <| gx_ret2S (.inl rfl) Tryd.results12 rfl rfl (sub_tail (A := [_]) (B := [_, _, _, _, _, _]) (T := (G.map (KG.hl 3))) [0] 6 (by decide) (by decide) rfl rfl) ?_
  exact .inr ⟨by omega, n, b25, G, rfl, hg, by rw [hgk, hgl9]; rfl, rfl, rfl⟩
end Go.Proofs.YtbjijbbkfgcleaaDoor
namespace Go.Proofs.YtbjijbbkfgcleaaDoor
open Go.Gv
open Go.RowKit
open Go.Sn
open Sx
namespace Sx
end Sx
open Sx
end Go.Proofs.YtbjijbbkfgcleaaDoor
namespace Go.Proofs.YtbjijbbkfgcleaaDoor
open Go.Gv
open Go.RowKit
open Go.Sn
open Sx
set_option maxRecDepth 100000 in
set_option maxHeartbeats 1000000 in
theorem piped_ok (sets : List Nat) (a : Option Addr) (ca : Nat) (hsn : sets.length ≤ 1000) (hlt : ∀ x ∈ sets, x < 2 ^ 128) (w0 : World) (hT : TabIn w0) (hsl : OldSl w0 [] a sets.length 2 (sets.flatMap setC)) : Sp Tryd.prog 44 [.slice a sets.length ca] w0 [] (fun v L => ∃ r c, v = .slice (rowA r) (pipesU sets sets.length).length c ∧ L = [.row 42 2 r (pipesU sets sets.length).length c ((pipesU sets sets.length).flatMap plC)]) := by
  refine spec_enterM Tryd.func44 rfl Tryd.ntmps44 rfl (Own.refl _) ?_
  simp only [argEnv]
  refine rc_seq <| rc_region <| rl_op (by nofun) (op_rd rfl (rd_assign rfl) ?_)
  refine rl_nil <| gx_then <| rc_seq <| rc_region <| rl_op (by nofun) (op_alloc ty_49 rfl rfl (fun b3 => ?_))
  refine rl_nil <| gx_then <| rc_seq <| rc_seq <| rc_region <| rl_op (by nofun) (op_rd rfl (rd_move rfl) ?_)
  refine rl_op (by nofun) (op_rd rfl (rd_lenSlice Tryd.underlying84 rfl) ?_)
  refine rl_op (by nofun) (op_rd rfl (rd_move rfl) ?_)
  refine rl_nil <| gx_then <| rc_block <| gk_nil 42 2 <| rc_loopM (ι := Nat × List Nat × Option Nat × Nat) [(3, _), (7, _), (8, _)] [] (fun q => q.1 ≤ sets.length) (fun q => q.2.1.map Go.Gv.mark) (fun q Fr0 => ((9, natV q.1) :: Fr0)) (fun q Fr0 => (.blk b3 [.slice (rowA q.2.2.1) (pipesU sets q.1).length q.2.2.2] 49 :: .row 42 2 q.2.2.1 (pipesU sets q.1).length q.2.2.2 ((pipesU sets q.1).flatMap plC) :: (Fr0 ++ (q.2.1.map markH)))) (fun q => sets.length - q.1) (0, [], none, 0) (Nat.zero_le _) rfl ⟨rfl, rfl, rfl, rfl, trivial⟩ ⟨[1, 0], by decide, rfl⟩ ?_
  rintro ⟨d, Ds, rC, cC⟩ hd
  simp only at hd ⊢
  refine rc_seq <| rc_region <| rl_op (by nofun) (op_rd rfl (rd_lss rfl rfl) (gk_dec (fun h10 => ?_) (fun h10 => ?_)))
  · obtain ⟨X, hX⟩ := get_some (show d < sets.length by omega)
    have hXl := hlt X (List.mem_of_getElem? hX)
    have hbl := bitsOf_len X
    refine rl_nil <| gx_then <| rc_seq <| rc_cond_t rfl <| rc_skip <| gx_then <| rc_seq <| rc_block <| rc_seq <| rc_region <| rl_op (by nofun) (op_rd rfl (rd_move rfl) ?_)
    refine rl_op (by nofun) (op_rd rfl (by exact rd_indexOld (by assumption) Tryd.underlying84 ty_90 rfl rfl (by omega) (by omega)) ?_)
    refine rl_op (by nofun) (op_rd rfl (rd_loadAgg Tryd.underlying90 rfl ty_90 rfl (cs_sl hsl (flat_drop_get setC 2 (fun _ => rfl) hX)) rfl) ?_)
    refine rl_op (by nofun) (op_alloc ty_3 rfl rfl (fun b4 => ?_))
    refine rl_op (by nofun) (op_alloc ty_90 rfl rfl (fun b5 => ?_))
    refine rl_op (by nofun) (op_store 1 ty_3 rfl rfl rfl rfl rfl (by rfl) (by rfl) ?_)
    refine rl_op (by nofun) (op_storeAgg 0 ty_90 rfl rfl rfl rfl rfl rfl (by rfl) ?_)
    refine rl_nil <| gx_then <| rc_seq <| rc_region <| rl_op (by nofun) (op_rd rfl (rd_loadAgg Tryd.underlying90 rfl ty_90 rfl (by exact cs_blk 0 (off := 0) (k := 2) rfl rfl) rfl) ?_)
    simp only [setC]
    refine rl_op (by nofun) (op_call rfl (vf := []) (vc := []) rfl rfl Tryd.call39 (fun w1 ho => all_ok X w1) ?_)
    rintro _ _ ⟨bx, rfl, rfl⟩
    refine rl_nil <| gx_then <| rc_block <| gk_env [(3, _), (4, _), (5, _), (7, _), (8, _), (9, _), (10, _), (11, _), (12, _), (13, _), (14, _), (15, _)] ⟨rfl, rfl, rfl, rfl, rfl, rfl, rfl, rfl, rfl, rfl, rfl, rfl, trivial⟩ ?_
    refine rc_rangeF (β := Unit) (N := (bitsOf X).length) (xs := fun i => natV ((bitsOf X).getD i 0)) (gf := 73) (caps := [.pointer (some ⟨bx, 0, none⟩)]) (fun i _ => [(6, natV ((bitsOf X).getD i 0))]) (fun i _ => []) rfl Tryd.call73 rfl (fun i L => ∃ r c, L = [.blk bx (setC X) 90, .blk b5 (setC X) 90, .blk b4 [natV d] 3, .blk b3 [.slice (rowA r) (pipesI sets d X i).length c] 49, .row 42 2 r (pipesI sets d X i).length c ((pipesI sets d X i).flatMap plC)] ++ Ds.map markH) (fun _ _ _ => False) (fun L => HL.blk bx (setC X) 90 ∈ L) (fun i L hd h => by
      rcases h with ⟨r, c, rfl⟩ | ⟨c, h⟩
      · exact List.mem_append_right _ (List.mem_append_left _ List.mem_cons_self)
      · exact h.elim) (⟨rC, cC, by rw [pipesI_zero]; rfl⟩) (fun lb J Jx hG w1 L hY hJ hO => allIt_ok X hXl bx lb J Jx hG w1 L hY hJ hO.self (hT.at hO (by decide)) (old_out hO hT.lt (by decide))) ?_ ?_ ?_ ?_
    · intro i lb w1 S1 L1 K1 Q1 hk1
      refine rc_region <| rl_op (by nofun) (op_rd rfl (rd_assign rfl) ?_)
      refine rl_nil <| gx_then ?_
      exact gk_env _ (by exact ⟨rfl, rfl, rfl, rfl, rfl, rfl, rfl, rfl, rfl, rfl, rfl, rfl, rfl, trivial⟩) (hk1 ())
    · intro i hi L hI lb D rec w1 S1 _ rec9 hO9 hS9
      obtain ⟨r, c, rfl⟩ := hI
      have hPl := pipesI_len sets d X i
      refine rc_block <| rc_region <| rl_op (by nofun) (op_rd rfl (rd_load Tryd.underlying49 rfl rfl (by exact ld_blk 5 rfl rfl)) ?_)
      refine rl_op (by nofun) (op_rd rfl (rd_load Tryd.underlying3 rfl rfl (by exact ld_blk 4 rfl rfl)) ?_)
      refine rl_op (by nofun) (op_rd rfl (rd_move rfl) ?_)
      refine rl_op (by nofun) (op_rd rfl (rd_build rfl (fun _ => bd_42_0_1 _ _)) ?_)
      refine rl_op (by nofun) (op_buildSlice (sz := 2) rfl rfl (fun _ => bs_49_1_0 _ _) rfl rfl (fun b21 => ?_))
      refine rl_op (by nofun) (op_appendRow 7 0 Tryd.underlying49 ty_42 rfl (by decide) rfl rfl rfl rfl rfl (by simp [Value.oneCell']) (by omega) (by omega) (fun _ => (by rfl)) (fun r22 c22 => ?_))
      refine rl_op (by nofun) (op_store 6 ty_49 rfl rfl rfl rfl rfl (by rfl) (by rfl) ?_)
      refine rl_nil <| gx_block ?_
      rw [show (pipesI sets d X i).length + 1 = (pipesI sets d X (i + 1)).length by rw [pipesI_snoc hi, List.length_append]; rfl, show (pipesI sets d X i).flatMap plC ++ [natV d, natV ((bitsOf X).getD i 0)] = (pipesI sets d X (i + 1)).flatMap plC by rw [pipesI_snoc hi, List.flatMap_append]; rfl]
      exact rp_normal _ (⟨r22, c22, rfl⟩) (sub_tail (A := [_, _, _, _, _, _, _]) (B := [_, _, _, _, _, _, _, _]) (T := (Ds.map markH)) [1, 2, 3, 4, 5, 6, 7] 8 (by decide) (by decide) rfl rfl)
    · intro D L hI
      obtain ⟨r, c, rfl⟩ := hI
      rw [pipesI_all hX]
      refine gk_front [_, _, _, _, _, _] [_, _, _, _, _] (Ds.map markH) [1, 2, 3, 4, 5] 0 6 rfl (x := markH D) rfl rfl (by decide) (by decide) ?_
      refine gx_block <| gx_block <| gx_then <| rc_region <| rl_op (by nofun) (op_rd rfl (by exact rd_addN (b := 1) rfl rfl (by omega)) ?_)
      refine rl_op (by nofun) (op_rd rfl (rd_move rfl) ?_)
      refine rl_nil <| gx_then ?_
      exact gx_cutM ((d + 1, D :: Ds, r, c)) ⟨by simp only; omega, by simp only; omega⟩ rfl ⟨rfl, rfl, rfl, rfl, trivial⟩ (sub_tail (A := [_, _]) (B := [_, _, _, _, _]) (T := ((D :: Ds).map markH)) [3, 4] 5 (by decide) (by decide) rfl rfl)
    · intro D c i L hi hI
      exact hI.elim
  refine rl_nil <| gx_then <| rc_seq <| rc_cond_f rfl <| rc_exit <| gx_then_exit <| gx_then_exit <| gx_block_exit <| gx_then <| rc_seq <| rc_region <| rl_op (by nofun) (op_rd rfl (rd_load Tryd.underlying49 rfl rfl (by exact ld_blk 0 rfl rfl)) ?_)
  refine rl_op (by nofun) (op_rd rfl (rd_assign rfl) ?_)
  refine rl_nil <| gx_then <| rc_ret ?_
  have hd9 : d = sets.length := by omega
  subst hd9
  refine gk_sub (sub_tail (A := [_]) (B := [_, _]) (T := (Ds.map markH)) [1] 2 (by decide) (by decide) rfl rfl) ?_
  refine gk_sub (sub_rot [_] (Ds.map markH)) <| gx_retM1 Ds (.inl rfl) Tryd.results44 rfl (Sub.refl' _) ?_
  exact ⟨rC, cC, rfl, rfl⟩
end Go.Proofs.YtbjijbbkfgcleaaDoor
namespace Go.Proofs.YtbjijbbkfgcleaaDoor
open Go.Gv
open Go.RowKit
open Go.Sn
open Sx
set_option maxRecDepth 100000 in
set_option maxHeartbeats 1000000 in
theorem count_ok (s : Org) (h : HN) (hle : OrgLe s) (hg : HGood s h) (w0 : World) (hS : OrgIn s w0 []) (hH : HNIn h w0 []) (hT : TabIn w0) : Sp Tryd.prog 47 [s.val, h.val] w0 [] (fun v L => ∃ b21, v = .slice (rowA (some b21)) s.rs.length s.rs.length ∧ L = [.row 119 128 (some b21) s.rs.length s.rs.length (cntC s.rs.length (cntP s h h.ss.length))]) := by
  have hA := hg.cx
  have hnd : s.ds.length ≤ 6 := hA.nd
  have hkl : h.ks.length = s.ds.length := by have := hA.nk; simpa [cxN] using this
  have hnc := hg.nc
  have hcl : h.cs.length ≤ s.cs.length := asc_len hA.dra hA.drn
  have hnr := hg.nr
  have hns := hg.ns
  have hss : h.ss.length ≤ s.ss.length := asc_len hg.ssA hg.ssN
  refine spec_enterM Tryd.func47 rfl Tryd.ntmps47 rfl (Own.refl _) ?_
  simp only [argEnv]
  refine rc_seq <| rc_region <| rl_op (by nofun) (op_box rfl rfl rfl (fun b2 => ?_))
  refine rl_op (by nofun) (op_box rfl rfl rfl (fun b3 => ?_))
  refine rl_op (by nofun) (op_rd rfl (rd_assign rfl) ?_)
  refine rl_nil <| gx_then <| rc_seq <| rc_region <| rl_op (by nofun) (op_rd rfl (rd_loadAgg Tryd.underlying27 rfl ty_27 rfl (by exact cs_blk 1 (off := 0) (k := 4) rfl rfl) rfl) ?_)
  refine rl_op (by nofun) (op_rd rfl (rd_loadAgg Tryd.underlying31 rfl ty_31 rfl (by exact cs_blk 0 (off := 0) (k := 3) rfl rfl) rfl) ?_)
  refine rl_op (by nofun) (op_call rfl (vf := []) (vc := []) rfl rfl Tryd.call32 (fun w1 ho => acting_ok s h hle hg w1 (hS.at ho) (hH.at ho)) ?_)
  rintro _ _ ⟨b30, k27, c27, m28, rfl, rfl⟩
  unfold BK RS OM
  have hset := act_set hA
  have hsl0 : (actP (cxN s h)).sets.length = s.ds.length := hset.len
  refine rl_op (by nofun) (op_rd rfl (rd_assign rfl) ?_)
  refine rl_nil <| gx_then <| rc_seq <| rc_region <| rl_op (by nofun) (op_rd rfl (rd_fieldAddr rfl (fa_27_1 _)) ?_)
  refine rl_op (by nofun) (op_rd rfl (rd_load Tryd.underlying23 rfl rfl (by exact ld_blk 4 rfl rfl)) ?_)
  refine rl_op (by nofun) (op_rd rfl (rd_lenSlice Tryd.underlying23 rfl) ?_)
  refine rl_op (by nofun) (op_makeSlice (s.rs.length) Tryd.underlying117 ty_119 rfl rfl rfl (by omega) (by omega) (by omega) (by omega) (fun b21 => ?_))
  refine rl_op (by nofun) (op_alloc ty_117 rfl rfl (fun b6 => ?_))
  refine rl_op (by nofun) (op_store 0 ty_117 rfl rfl rfl rfl rfl (by rfl) (by rfl) ?_)
  refine rl_nil <| gx_then <| rc_seq <| rc_seq ?_
  rw [cnt_made s h (by kernel_rfl)]
  refine rc_region <| rl_op (by nofun) (op_rd rfl (rd_fieldAddr rfl (fa_31_1 _)) ?_)
  refine rl_op (by nofun) (op_rd rfl (rd_load Tryd.underlying29 rfl rfl (by exact ld_blk 5 rfl rfl)) ?_)
  refine rl_op (by nofun) (op_rd rfl (rd_lenSlice Tryd.underlying29 rfl) ?_)
  refine rl_op (by nofun) (op_rd rfl (rd_move rfl) ?_)
  refine rl_nil <| gx_then <| rc_block <| rc_loopM (ι := Nat × List Nat) [(2, _), (5, _), (6, _), (23, _), (24, _)] [_, _, _, _, _, _] (fun q => q.1 ≤ h.ss.length) (fun q => q.2.map Go.Gv.mark) (fun q Fr0 => ((25, natV q.1) :: Fr0)) (fun q Fr0 => (.row 119 128 (some b21) s.rs.length s.rs.length (cntC s.rs.length (cntP s h q.1)) :: (Fr0 ++ (q.2.map markH)))) (fun q => h.ss.length - q.1) (0, []) (Nat.zero_le _) rfl ⟨rfl, rfl, rfl, rfl, rfl, rfl, trivial⟩ ⟨[1, 0, 2, 3, 4, 5, 6], by decide, rfl⟩ ?_
  rintro ⟨k, Ds⟩ hk
  simp only at hk ⊢
  refine rc_seq <| rc_region <| rl_op (by nofun) (op_rd rfl (rd_lss rfl rfl) (gk_dec (fun h26 => ?_) (fun h26 => ?_)))
  · obtain ⟨i0, hi0⟩ := get_some (show k < h.ss.length by omega)
    obtain ⟨x, hx⟩ := get_some (hg.ssN i0 (List.mem_of_getElem? hi0))
    have hxm := List.mem_of_getElem? hx
    obtain ⟨hv0, hv1, hpo, hp12, hpb⟩ := Go.Sn.stop_ok hg hx
    have hpc := hle.pc x hxm
    have hsA : stA s i0 = x := getD_some hx
    obtain ⟨X, hX⟩ := get_some (show x.div.toNat < (actP (cxN s h)).sets.length by omega)
    have hXl := hset.lt X (List.mem_of_getElem? hX)
    have hbl := bitsOf_len X
    have hkX := keysP_at hA (show x.div.toNat < s.ds.length by omega) hX
    have hnx : (fun q => cntP s h k q + cntK x (bitsOf X) q) = cntP s h (k + 1) := by rw [← cntP_next hi0, hsA, hkX]
    have hil : i0 < s.ss.length := (List.getElem?_eq_some_iff.1 hx).1
    refine rl_nil <| gx_then <| rc_seq <| rc_cond_t rfl <| rc_skip <| gx_then <| rc_seq <| rc_block <| rc_seq <| rc_region <| rl_op (by nofun) (op_rd rfl (rd_indexOld1 hH.t Tryd.underlying29 ty_3 rfl rfl (by omega) (by omega)) ?_)
    refine rl_op (by nofun) (op_rd rfl (rd_load Tryd.underlying3 rfl rfl (ld_slN hH.t (get_nz hi0))) ?_)
    refine rl_op (by nofun) (op_rd rfl (rd_assign rfl) ?_)
    refine rl_nil <| gx_then <| rc_seq <| rc_region <| rl_op (by nofun) (op_rd rfl (rd_fieldAddr rfl (fa_27_2 _)) ?_)
    refine rl_op (by nofun) (op_rd rfl (rd_load Tryd.underlying24 rfl rfl (by exact ld_blk 6 rfl rfl)) ?_)
    refine rl_op (by nofun) (op_rd rfl (rd_move rfl) ?_)
    refine rl_op (by nofun) (op_rd rfl (rd_indexOld hS.t Tryd.underlying24 ty_57 rfl rfl (by omega) (by omega)) ?_)
    refine rl_op (by nofun) (op_rd rfl (rd_loadAgg Tryd.underlying57 rfl ty_57 rfl (cs_slN hS.t (flat_drop_get St.cells 5 (fun _ => rfl) hx)) rfl) ?_)
    refine rl_op (by nofun) (op_alloc ty_57 rfl rfl (fun b9 => ?_))
    refine rl_op (by nofun) (op_storeAgg 0 ty_57 rfl rfl rfl rfl rfl rfl (by rfl) ?_)
    refine rl_nil <| gx_then <| rc_seq ?_
    simp only [St.cells]
    refine rc_drawP [0, 1, 2, 3, 4, 5, 6, 7] true 8 rfl rfl <| ga_first 0 (bm 9 1) rfl rfl rfl rfl (by kernel_rfl) (by kernel_rfl) ⟨[0, 1, 2, 3, 4, 5, 6, 7], by decide, rfl⟩ (qt_rd (rd_move rfl)) ?_
    refine ga_first 1 (bm 9 3) rfl rfl rfl rfl (by kernel_rfl) (by kernel_rfl) ⟨[0, 1, 2, 3, 4, 5, 6, 7], by decide, rfl⟩ (qt_rd (rd_nilCheck rfl)) ?_
    refine ga_first 2 (bm 9 7) rfl rfl rfl rfl (by kernel_rfl) (by kernel_rfl) ⟨[0, 1, 2, 3, 4, 5, 6, 7], by decide, rfl⟩ (qt_rd (rd_fieldAddr rfl (fa_87_0 _))) ?_
    refine ga_first 3 (bm 9 15) rfl rfl rfl rfl (by kernel_rfl) (by kernel_rfl) ⟨[0, 1, 2, 3, 4, 5, 6, 7], by decide, rfl⟩ (qt_rd (rd_load Tryd.underlying84 rfl rfl (by exact ld_blk 3 rfl rfl))) ?_
    refine ga_first 4 (bm 9 31) rfl rfl rfl rfl (by kernel_rfl) (by kernel_rfl) ⟨[0, 1, 2, 3, 4, 5, 6, 7], by decide, rfl⟩ (qt_rd (rd_fieldAddr rfl (fa_57_1 _))) ?_
    refine ga_first 5 (bm 9 63) rfl rfl rfl rfl (by kernel_rfl) (by kernel_rfl) ⟨[0, 1, 2, 3, 4, 5, 6, 7], by decide, rfl⟩ (qt_rd (rd_load Tryd.underlying3 rfl rfl (by exact ld_blk 0 rfl rfl))) ?_
    refine ga_first 6 (bm 9 127) rfl rfl rfl rfl (by kernel_rfl) (by kernel_rfl) ⟨[0, 1, 2, 3, 4, 5, 6, 7], by decide, rfl⟩ (qt_rd (by exact rd_indexRow 4 rfl Tryd.underlying84 ty_90 rfl rfl (by omega) (by omega))) ?_
    refine ga_first 7 (bm 9 255) rfl rfl rfl rfl (by kernel_rfl) (by kernel_rfl) ⟨[0, 1, 2, 3, 4, 5, 6, 7], by decide, rfl⟩ (qt_rd (rd_loadAgg Tryd.underlying90 rfl ty_90 rfl (cs_row 4 (a := some k27) rfl (flat_drop_get setC 2 (fun _ => rfl) hX)) rfl)) ?_
    simp only [setC]
    refine ga_only 8 (bm 9 511) rfl rfl (by kernel_rfl) (by kernel_rfl) (.inr ⟨[0, 1, 2, 3, 4, 5, 6, 7], by decide, rfl⟩) (op_call rfl (vf := []) (vc := []) rfl rfl Tryd.call39 (fun w1 ho => all_ok X w1) ?_)
    rintro _ _ ⟨bx, rfl, rfl⟩
    refine ga_end (by kernel_rfl) (.inr ⟨[1, 2, 3, 4, 5, 6, 7, 8], by decide, rfl⟩) ?_
    refine gx_then <| rc_block <| gk_env [(2, _), (5, _), (6, _), (8, _), (9, _), (23, _), (24, _), (25, _), (26, _), (27, _), (28, _), (29, _), (30, _), (31, _), (32, _), (33, _), (34, _), (35, _), (36, _), (37, _), (38, _), (39, _), (40, _), (41, _), (42, _)] ⟨rfl, rfl, rfl, rfl, rfl, rfl, rfl, rfl, rfl, rfl, rfl, rfl, rfl, rfl, rfl, rfl, rfl, rfl, rfl, rfl, rfl, rfl, rfl, rfl, rfl, trivial⟩ ?_
    refine rc_rangeF (β := Unit) (N := (bitsOf X).length) (xs := fun i => natV ((bitsOf X).getD i 0)) (gf := 73) (caps := [.pointer (some ⟨bx, 0, none⟩)]) (fun i _ => [(10, natV ((bitsOf X).getD i 0))]) (fun i _ => []) rfl Tryd.call73 rfl (fun i L => L = [HL.blk bx (setC X) 90, .blk b9 [.string x.name, .int .i64 x.div, .int .i64 x.num, .int .i64 x.den, .slice x.pa x.ps.length x.pc] 57, .row 119 128 (some b21) s.rs.length s.rs.length (cntC s.rs.length (cntW (cntP s h k) x (bitsOf X) i 0)), .blk b6 [.slice (rowA (some b21)) s.rs.length s.rs.length] 117, .blk b30 [.slice (rowA (some k27)) s.ds.length c27, .map (some m28)] 87, .row 90 2 (some k27) s.ds.length c27 ((actP (cxN s h)).sets.flatMap setC), .obj m28 (actO (actP (cxN s h)).tb), .blk b3 h.val.cells.toList 31, .blk b2 s.val.cells.toList 27] ++ Ds.map markH) (fun _ _ _ => False) (fun L => HL.blk bx (setC X) 90 ∈ L) (fun i L hd h => by
      rcases h with rfl | ⟨c, h⟩
      · exact List.mem_append_right _ (List.mem_append_left _ List.mem_cons_self)
      · exact h.elim) ((by rw [cntW_zero]; rfl)) (fun lb J Jx hG w1 L hY hJ hO => allIt_ok X hXl bx lb J Jx hG w1 L hY hJ hO.self (hT.at hO (by decide)) (old_out hO hT.lt (by decide))) ?_ ?_ ?_ ?_
    · intro i lb w1 S1 L1 K1 Q1 hk1
      refine rc_region <| rl_op (by nofun) (op_rd rfl (rd_assign rfl) ?_)
      refine rl_nil <| gx_then ?_
      exact gk_env _ (by exact ⟨rfl, rfl, rfl, rfl, rfl, rfl, rfl, rfl, rfl, rfl, rfl, rfl, rfl, rfl, rfl, rfl, rfl, rfl, rfl, rfl, rfl, rfl, rfl, rfl, rfl, rfl, trivial⟩) (hk1 ())
    · intro i hi L hI lb D rec w1 S1 _ rec9 hO9 hS9
      subst hI
      have hS1 := hS.atS (Sc := S1) hO9 (by rw [hS9]; exact own_new hO9)
      obtain ⟨n, hn⟩ := get_some hi
      have hnn : (bitsOf X).getD i 0 = n := getD_some hn
      have hn8 := (bitsOf_mem.1 (List.mem_of_getElem? hn)).1
      rw [hnn]
      refine rc_block <| rc_scope <| rc_seq <| rc_label <| gx_then <| rc_seq <| rc_region <| rl_op (by nofun) (op_rd rfl (rd_fieldAddr rfl (fa_57_3 _)) ?_)
      refine rl_op (by nofun) (op_rd rfl (rd_load Tryd.underlying55 rfl rfl (by exact ld_blk 3 rfl rfl)) ?_)
      refine rl_op (by nofun) (op_rd rfl (rd_lenSlice Tryd.underlying55 rfl) ?_)
      refine rl_op (by nofun) (op_rd rfl (rd_move rfl) ?_)
      refine rl_nil <| gx_then <| rc_block <| rc_loopF (ι := Nat) [(6, _), (9, _), (10, _), (45, _), (46, _)] (_ :: _ :: _ :: _ :: _ :: _ :: _ :: _ :: _ :: _ :: (Ds.map markH)) (fun j => j ≤ x.ps.length) (fun j Fr0 => ((47, natV j) :: Fr0)) (fun j Fr0 => (.row 119 128 (some b21) s.rs.length s.rs.length (cntC s.rs.length (cntW (cntP s h k) x (bitsOf X) i j)) :: Fr0)) (fun j => x.ps.length - j) 0 (Nat.zero_le _) ⟨rfl, rfl, rfl, rfl, rfl, rfl, trivial⟩ (sub_tail (A := [_, _, _, _, _, _, _, _, _, _, _]) (B := [_, _, _, _, _, _, _, _, _, _, _]) (T := (Ds.map markH)) [4, 0, 1, 2, 3, 5, 6, 7, 8, 9, 10] 11 (by decide) (by decide) rfl rfl) ?_
      rintro j hj
      refine rc_seq <| rc_region <| rl_op (by nofun) (op_rd rfl (rd_lss rfl rfl) (gk_dec (fun h48 => ?_) (fun h48 => ?_)))
      · obtain ⟨p, hp⟩ := get_some (show j < x.ps.length by omega)
        have hpm := List.mem_of_getElem? hp
        have hpt : ptA x.ps j = p := getD_some hp
        obtain ⟨hb0, hb1, hb2, hb3⟩ := hpb p hpm
        refine rl_nil <| gx_then <| rc_seq <| rc_cond_t rfl <| rc_skip <| gx_then <| rc_seq <| rc_block <| rc_seq <| rc_region <| rl_op (by nofun) (op_rd rfl (rd_move rfl) ?_)
        refine rl_op (by nofun) (op_rd rfl (rd_indexOld (hS1.p x hxm) Tryd.underlying55 ty_107 rfl rfl (by omega) (by omega)) ?_)
        refine rl_op (by nofun) (op_rd rfl (rd_loadAgg Tryd.underlying107 rfl ty_107 rfl (cs_sl (hS1.p x hxm) (flat_drop_get Pt.cells 4 (fun _ => rfl) hp)) rfl) ?_)
        refine rl_op (by nofun) (op_alloc ty_107 rfl rfl (fun b12 => ?_))
        refine rl_op (by nofun) (op_rd rfl (rd_assign rfl) ?_)
        refine rl_op (by nofun) (op_storeAgg 0 ty_107 rfl rfl rfl rfl rfl rfl (by rfl) ?_)
        refine rl_nil <| gx_then <| rc_seq <| rc_seq ?_
        simp only [Pt.cells]
        refine rc_region <| rl_op (by nofun) (op_rd rfl (rd_move rfl) ?_)
        refine rl_op (by nofun) (op_rd rfl (rd_fieldAddr rfl (fa_107_2 _)) ?_)
        refine rl_op (by nofun) (op_rd rfl (rd_load Tryd.underlying3 rfl rfl (by exact ld_blk 0 rfl rfl)) ?_)
        refine rl_op (by nofun) (op_rd rfl (rd_lss rfl rfl) (gk_dec (fun h55 => ?_) (fun h55 => ?_)))
        · have hno : newP x.ps ((bitsOf X).getD i 0) j = false := by
            have h9 : hitB p n = false := by unfold hitB; simp only [Bool.and_eq_false_iff, decide_eq_false_iff_not]; omega
            unfold newP; rw [hpt, hnn, h9]; rfl
          refine rl_op (by nofun) (op_rd rfl (rd_move rfl) ?_)
          refine rl_no rfl rfl rfl <| rl_no rfl rfl rfl <| rl_no rfl rfl rfl <| rl_no rfl rfl rfl <| rl_op (by nofun) (op_rd rfl (rd_pick_t rfl rfl) ?_)
          refine rl_nil <| gx_then <| rc_cond_t rfl <| rc_exit <| gx_then_exit <| gx_block_exit <| gx_then ?_
          rw [← cntW_no hno]
          refine rc_region <| rl_op (by nofun) (op_rd rfl (by exact rd_addN (b := 1) rfl rfl (by omega)) ?_)
          refine rl_op (by nofun) (op_rd rfl (rd_move rfl) ?_)
          refine rl_nil <| gx_then ?_
          exact gx_cut (j + 1) ⟨by omega, by omega⟩ ⟨rfl, rfl, rfl, rfl, rfl, rfl, trivial⟩ (sub_tail (A := [_, _, _, _, _, _, _, _, _, _, _]) (B := [_, _, _, _, _, _, _, _, _, _, _, _]) (T := (Ds.map markH)) [1, 2, 3, 4, 5, 6, 7, 8, 9, 10, 11] 12 (by decide) (by decide) rfl rfl)
        refine rl_op (by nofun) (op_rd rfl (rd_move rfl) ?_)
        refine rl_yes (by nofun) rfl rfl (op_rd rfl (rd_move rfl) ?_)
        refine rl_yes (by nofun) rfl rfl (op_rd rfl (rd_fieldAddr rfl (fa_107_3 _)) ?_)
        refine rl_yes (by nofun) rfl rfl (op_rd rfl (rd_load Tryd.underlying3 rfl rfl (by exact ld_blk 0 rfl rfl)) ?_)
        refine rl_yes (by nofun) rfl rfl (op_rd rfl (rd_gtr rfl rfl) (gk_dec (fun h60 => ?_) (fun h60 => ?_)))
        · have hno : newP x.ps ((bitsOf X).getD i 0) j = false := by
            have h9 : hitB p n = false := by unfold hitB; simp only [Bool.and_eq_false_iff, decide_eq_false_iff_not]; omega
            unfold newP; rw [hpt, hnn, h9]; rfl
          refine rl_op (by nofun) (op_rd rfl (rd_pick_f rfl rfl) ?_)
          refine rl_nil <| gx_then <| rc_cond_t rfl <| rc_exit <| gx_then_exit <| gx_block_exit <| gx_then ?_
          rw [← cntW_no hno]
          refine rc_region <| rl_op (by nofun) (op_rd rfl (by exact rd_addN (b := 1) rfl rfl (by omega)) ?_)
          refine rl_op (by nofun) (op_rd rfl (rd_move rfl) ?_)
          refine rl_nil <| gx_then ?_
          exact gx_cut (j + 1) ⟨by omega, by omega⟩ ⟨rfl, rfl, rfl, rfl, rfl, rfl, trivial⟩ (sub_tail (A := [_, _, _, _, _, _, _, _, _, _, _]) (B := [_, _, _, _, _, _, _, _, _, _, _, _]) (T := (Ds.map markH)) [1, 2, 3, 4, 5, 6, 7, 8, 9, 10, 11] 12 (by decide) (by decide) rfl rfl)
        have hhit : hitB p n = true := by unfold hitB; simp only [Bool.and_eq_true, decide_eq_true_eq]; omega
        refine rl_op (by nofun) (op_rd rfl (rd_pick_f rfl rfl) ?_)
        refine rl_nil <| gx_then <| rc_cond_f rfl <| rc_skip <| gx_then <| rc_seq <| rc_seq <| rc_region <| rl_op (by nofun) (op_rd rfl (rd_fieldAddr rfl (fa_57_3 _)) ?_)
        refine rl_op (by nofun) (op_rd rfl (rd_load Tryd.underlying55 rfl rfl (by exact ld_blk 5 rfl rfl)) ?_)
        refine rl_op (by nofun) (op_rd rfl (rd_move rfl) ?_)
        refine rl_op (by nofun) (op_rd rfl (rd_sliceHi Tryd.underlying55 ty_107 rfl rfl (by omega) (by omega)) ?_)
        refine rl_op (by nofun) (op_rd rfl (rd_lenSlice Tryd.underlying55 rfl) ?_)
        refine rl_op (by nofun) (op_rd rfl (rd_move rfl) ?_)
        refine rl_nil <| gx_then <| rc_block <| rc_loopF (ι := Nat) [(6, _), (9, _), (10, _), (12, _), (45, _), (46, _), (47, _), (65, _), (66, _)] (_ :: _ :: _ :: _ :: _ :: _ :: _ :: _ :: _ :: _ :: _ :: _ :: (Ds.map markH)) (fun m2 => m2 ≤ j ∧ oldP x.ps n j m2 = false) (fun m2 Fr0 => ((67, natV m2) :: Fr0)) (fun m2 Fr0 => Fr0) (fun m2 => j - m2) 0 (⟨Nat.zero_le _, rfl⟩) ⟨rfl, rfl, rfl, rfl, rfl, rfl, rfl, rfl, rfl, rfl, trivial⟩ (sub_tail (A := [_, _, _, _, _, _, _, _, _, _, _, _]) (B := [_, _, _, _, _, _, _, _, _, _, _, _]) (T := (Ds.map markH)) [0, 1, 2, 3, 4, 5, 6, 7, 8, 9, 10, 11] 12 (by decide) (by decide) rfl rfl) ?_
        rintro m2 ⟨hm2, hold⟩
        refine rc_seq <| rc_region <| rl_op (by nofun) (op_rd rfl (rd_lss rfl rfl) (gk_dec (fun h68 => ?_) (fun h68 => ?_)))
        · obtain ⟨p2, hp2⟩ := get_some (show m2 < x.ps.length by omega)
          have hpt2 : ptA x.ps m2 = p2 := getD_some hp2
          refine rl_nil <| gx_then <| rc_seq <| rc_cond_t rfl <| rc_skip <| gx_then <| rc_seq <| rc_block <| rc_seq <| rc_region <| rl_op (by nofun) (op_rd rfl (rd_indexOld ((hS1.p x hxm).take j (by omega)) Tryd.underlying55 ty_107 rfl rfl (by omega) (by omega)) ?_)
          refine rl_op (by nofun) (op_rd rfl (rd_loadAgg Tryd.underlying107 rfl ty_107 rfl (cs_sl (hS1.p x hxm) (flat_drop_get Pt.cells 4 (fun _ => rfl) hp2)) rfl) ?_)
          refine rl_op (by nofun) (op_alloc ty_107 rfl rfl (fun b14 => ?_))
          refine rl_op (by nofun) (op_storeAgg 0 ty_107 rfl rfl rfl rfl rfl rfl (by rfl) ?_)
          refine rl_nil <| gx_then <| rc_seq ?_
          simp only [Pt.cells]
          refine rc_region <| rl_op (by nofun) (op_rd rfl (rd_fieldAddr rfl (fa_107_0 _)) ?_)
          refine rl_op (by nofun) (op_rd rfl (rd_load Tryd.underlying3 rfl rfl (by exact ld_blk 0 rfl rfl)) ?_)
          refine rl_op (by nofun) (op_rd rfl (rd_fieldAddr rfl (fa_107_0 _)) ?_)
          refine rl_op (by nofun) (op_rd rfl (rd_load Tryd.underlying3 rfl rfl (by exact ld_blk 1 rfl rfl)) ?_)
          refine rl_op (by nofun) (op_rd rfl (rd_eql rfl rfl) (gk_dec (fun h75 => ?_) (fun h75 => ?_)))
          · refine rl_op (by nofun) (op_rd rfl (rd_move rfl) ?_)
            refine rl_yes (by nofun) rfl rfl (op_rd rfl (rd_fieldAddr rfl (fa_107_1 _)) ?_)
            refine rl_yes (by nofun) rfl rfl (op_rd rfl (rd_load Tryd.underlying3 rfl rfl (by exact ld_blk 0 rfl rfl)) ?_)
            refine rl_yes (by nofun) rfl rfl (op_rd rfl (rd_fieldAddr rfl (fa_107_1 _)) ?_)
            refine rl_yes (by nofun) rfl rfl (op_rd rfl (rd_load Tryd.underlying3 rfl rfl (by exact ld_blk 1 rfl rfl)) ?_)
            refine rl_yes (by nofun) rfl rfl (op_rd rfl (rd_eql rfl rfl) (gk_dec (fun h81 => ?_) (fun h81 => ?_)))
            · refine rl_op (by nofun) (op_rd rfl (rd_pick_t rfl rfl) ?_)
              refine rl_op (by nofun) (op_rd rfl (rd_move rfl) ?_)
              refine rl_yes (by nofun) rfl rfl (op_rd rfl (rd_move rfl) ?_)
              refine rl_yes (by nofun) rfl rfl (op_rd rfl (rd_fieldAddr rfl (fa_107_2 _)) ?_)
              refine rl_yes (by nofun) rfl rfl (op_rd rfl (rd_load Tryd.underlying3 rfl rfl (by exact ld_blk 0 rfl rfl)) ?_)
              refine rl_yes (by nofun) rfl rfl (op_rd rfl (rd_geq rfl rfl) (gk_dec (fun h87 => ?_) (fun h87 => ?_)))
              · refine rl_op (by nofun) (op_rd rfl (rd_pick_t rfl rfl) ?_)
                refine rl_op (by nofun) (op_rd rfl (rd_move rfl) ?_)
                refine rl_yes (by nofun) rfl rfl (op_rd rfl (rd_move rfl) ?_)
                refine rl_yes (by nofun) rfl rfl (op_rd rfl (rd_fieldAddr rfl (fa_107_3 _)) ?_)
                refine rl_yes (by nofun) rfl rfl (op_rd rfl (rd_load Tryd.underlying3 rfl rfl (by exact ld_blk 0 rfl rfl)) ?_)
                refine rl_yes (by nofun) rfl rfl (op_rd rfl (rd_leq rfl rfl) (gk_dec (fun h93 => ?_) (fun h93 => ?_)))
                · have hno : newP x.ps ((bitsOf X).getD i 0) j = false := by
                    have h9 : (sameB p2 p && hitB p2 n) = true := by unfold sameB hitB; simp only [Bool.and_eq_true, decide_eq_true_eq]; omega
                    have h10 : oldP x.ps ((bitsOf X).getD i 0) j (m2 + 1) = true := by rw [oldP_succ, hnn, hpt2, hpt, h9, Bool.or_true]
                    unfold newP; rw [oldP_mono h10 (by omega)]; simp
                  refine rl_op (by nofun) (op_rd rfl (rd_pick_t rfl rfl) ?_)
                  refine rl_nil <| gx_then <| rc_cond_t rfl <| rc_exit <| gx_block_pass rfl <| gx_then_exit <| gx_then_exit <| gx_block_pass rfl <| gx_then_exit <| gx_block_exit <| gx_then ?_
                  rw [← cntW_no hno]
                  refine rc_region <| rl_op (by nofun) (op_rd rfl (by exact rd_addN (b := 1) rfl rfl (by omega)) ?_)
                  refine rl_op (by nofun) (op_rd rfl (rd_move rfl) ?_)
                  refine rl_nil <| gx_then ?_
                  exact gx_cut (j + 1) ⟨by omega, by omega⟩ ⟨rfl, rfl, rfl, rfl, rfl, rfl, trivial⟩ (sub_tail (A := [_, _, _, _, _, _, _, _, _, _, _]) (B := [_, _, _, _, _, _, _, _, _, _, _, _, _]) (T := (Ds.map markH)) [2, 3, 4, 5, 6, 7, 8, 9, 10, 11, 12] 13 (by decide) (by decide) rfl rfl)
                have hnh : (sameB (ptA x.ps m2) (ptA x.ps j) && hitB (ptA x.ps m2) n) = false := by
                  rw [hpt2, hpt]; unfold sameB hitB; simp only [Bool.and_eq_false_iff, decide_eq_false_iff_not]; omega
                refine rl_op (by nofun) (op_rd rfl (rd_pick_t rfl rfl) ?_)
                refine rl_nil <| gx_then <| rc_cond_f rfl <| rc_skip <| gx_block <| gx_then <| rc_region <| rl_op (by nofun) (op_rd rfl (by exact rd_addN (b := 1) rfl rfl (by omega)) ?_)
                refine rl_op (by nofun) (op_rd rfl (rd_move rfl) ?_)
                refine rl_nil <| gx_then ?_
                exact gx_cut (m2 + 1) ⟨⟨by omega, by rw [oldP_succ, hold, Bool.false_or]; exact hnh⟩, by omega⟩ ⟨rfl, rfl, rfl, rfl, rfl, rfl, rfl, rfl, rfl, rfl, trivial⟩ (sub_tail (A := [_, _, _, _, _, _, _, _, _, _, _, _]) (B := [_, _, _, _, _, _, _, _, _, _, _, _, _]) (T := (Ds.map markH)) [1, 2, 3, 4, 5, 6, 7, 8, 9, 10, 11, 12] 13 (by decide) (by decide) rfl rfl)
              have hnh : (sameB (ptA x.ps m2) (ptA x.ps j) && hitB (ptA x.ps m2) n) = false := by
                rw [hpt2, hpt]; unfold sameB hitB; simp only [Bool.and_eq_false_iff, decide_eq_false_iff_not]; omega
              refine rl_op (by nofun) (op_rd rfl (rd_pick_t rfl rfl) ?_)
              refine rl_op (by nofun) (op_rd rfl (rd_move rfl) ?_)
              refine rl_no rfl rfl rfl <| rl_no rfl rfl rfl <| rl_no rfl rfl rfl <| rl_no rfl rfl rfl <| rl_op (by nofun) (op_rd rfl (rd_pick_f rfl rfl) ?_)
              refine rl_nil <| gx_then <| rc_cond_f rfl <| rc_skip <| gx_block <| gx_then <| rc_region <| rl_op (by nofun) (op_rd rfl (by exact rd_addN (b := 1) rfl rfl (by omega)) ?_)
              refine rl_op (by nofun) (op_rd rfl (rd_move rfl) ?_)
              refine rl_nil <| gx_then ?_
              exact gx_cut (m2 + 1) ⟨⟨by omega, by rw [oldP_succ, hold, Bool.false_or]; exact hnh⟩, by omega⟩ ⟨rfl, rfl, rfl, rfl, rfl, rfl, rfl, rfl, rfl, rfl, trivial⟩ (sub_tail (A := [_, _, _, _, _, _, _, _, _, _, _, _]) (B := [_, _, _, _, _, _, _, _, _, _, _, _, _]) (T := (Ds.map markH)) [1, 2, 3, 4, 5, 6, 7, 8, 9, 10, 11, 12] 13 (by decide) (by decide) rfl rfl)
            have hnh : (sameB (ptA x.ps m2) (ptA x.ps j) && hitB (ptA x.ps m2) n) = false := by
              rw [hpt2, hpt]; unfold sameB hitB; simp only [Bool.and_eq_false_iff, decide_eq_false_iff_not]; omega
            refine rl_op (by nofun) (op_rd rfl (rd_pick_t rfl rfl) ?_)
            refine rl_op (by nofun) (op_rd rfl (rd_move rfl) ?_)
            refine rl_no rfl rfl rfl <| rl_no rfl rfl rfl <| rl_no rfl rfl rfl <| rl_no rfl rfl rfl <| rl_op (by nofun) (op_rd rfl (rd_pick_f rfl rfl) ?_)
            refine rl_op (by nofun) (op_rd rfl (rd_move rfl) ?_)
            refine rl_no rfl rfl rfl <| rl_no rfl rfl rfl <| rl_no rfl rfl rfl <| rl_no rfl rfl rfl <| rl_op (by nofun) (op_rd rfl (rd_pick_f rfl rfl) ?_)
            refine rl_nil <| gx_then <| rc_cond_f rfl <| rc_skip <| gx_block <| gx_then <| rc_region <| rl_op (by nofun) (op_rd rfl (by exact rd_addN (b := 1) rfl rfl (by omega)) ?_)
            refine rl_op (by nofun) (op_rd rfl (rd_move rfl) ?_)
            refine rl_nil <| gx_then ?_
            exact gx_cut (m2 + 1) ⟨⟨by omega, by rw [oldP_succ, hold, Bool.false_or]; exact hnh⟩, by omega⟩ ⟨rfl, rfl, rfl, rfl, rfl, rfl, rfl, rfl, rfl, rfl, trivial⟩ (sub_tail (A := [_, _, _, _, _, _, _, _, _, _, _, _]) (B := [_, _, _, _, _, _, _, _, _, _, _, _, _]) (T := (Ds.map markH)) [1, 2, 3, 4, 5, 6, 7, 8, 9, 10, 11, 12] 13 (by decide) (by decide) rfl rfl)
          have hnh : (sameB (ptA x.ps m2) (ptA x.ps j) && hitB (ptA x.ps m2) n) = false := by
            rw [hpt2, hpt]; unfold sameB hitB; simp only [Bool.and_eq_false_iff, decide_eq_false_iff_not]; omega
          refine rl_op (by nofun) (op_rd rfl (rd_move rfl) ?_)
          refine rl_no rfl rfl rfl <| rl_no rfl rfl rfl <| rl_no rfl rfl rfl <| rl_no rfl rfl rfl <| rl_no rfl rfl rfl <| rl_op (by nofun) (op_rd rfl (rd_pick_f rfl rfl) ?_)
          refine rl_op (by nofun) (op_rd rfl (rd_move rfl) ?_)
          refine rl_no rfl rfl rfl <| rl_no rfl rfl rfl <| rl_no rfl rfl rfl <| rl_no rfl rfl rfl <| rl_op (by nofun) (op_rd rfl (rd_pick_f rfl rfl) ?_)
          refine rl_op (by nofun) (op_rd rfl (rd_move rfl) ?_)
          refine rl_no rfl rfl rfl <| rl_no rfl rfl rfl <| rl_no rfl rfl rfl <| rl_no rfl rfl rfl <| rl_op (by nofun) (op_rd rfl (rd_pick_f rfl rfl) ?_)
          refine rl_nil <| gx_then <| rc_cond_f rfl <| rc_skip <| gx_block <| gx_then <| rc_region <| rl_op (by nofun) (op_rd rfl (by exact rd_addN (b := 1) rfl rfl (by omega)) ?_)
          refine rl_op (by nofun) (op_rd rfl (rd_move rfl) ?_)
          refine rl_nil <| gx_then ?_
          exact gx_cut (m2 + 1) ⟨⟨by omega, by rw [oldP_succ, hold, Bool.false_or]; exact hnh⟩, by omega⟩ ⟨rfl, rfl, rfl, rfl, rfl, rfl, rfl, rfl, rfl, rfl, trivial⟩ (sub_tail (A := [_, _, _, _, _, _, _, _, _, _, _, _]) (B := [_, _, _, _, _, _, _, _, _, _, _, _, _]) (T := (Ds.map markH)) [1, 2, 3, 4, 5, 6, 7, 8, 9, 10, 11, 12] 13 (by decide) (by decide) rfl rfl)
        have hm9 : m2 = j := by omega
        rw [hm9] at hold
        have hnew : newP x.ps ((bitsOf X).getD i 0) j = true := by unfold newP; rw [hpt, hnn, hhit, hold]; rfl
        obtain ⟨hr0, hr1⟩ := hpo.rank p hpm
        obtain ⟨hq0, hq1⟩ := hpo.note p hpm n hhit
        obtain ⟨kn, hkn⟩ : ∃ kn : Nat, (n : Int) + p.shift = kn := ⟨((n : Int) + p.shift).toNat, by omega⟩
        have hpip : pipeOf (ptA x.ps j) ((bitsOf X).getD i 0) = (p.rank.toNat, kn) := by rw [hpt, hnn]; unfold pipeOf; rw [hkn]; rfl
        have hwl : cntW (cntP s h k) x (bitsOf X) i j (p.rank.toNat, kn) ≤ 1000000 := by
          have h1 := cntW_le (b := cntP s h k) (ks := bitsOf X) (i := i) (j := j) (q := (p.rank.toNat, kn)) hpo hj
          have h2 := cntP_le s h k (p.rank.toNat, kn)
          omega
        refine rl_nil <| gx_then <| rc_seq <| rc_cond_f rfl <| rc_exit <| gx_then_exit <| gx_then_exit <| gx_block_exit <| gx_then <| rc_drawP [0, 2, 3, 4, 5, 6, 7, 8, 9, 10, 11] false 13 rfl rfl <| ga_first 0 (bm 14 1) rfl rfl rfl rfl (by kernel_rfl) (by kernel_rfl) ⟨[0, 2, 3, 4, 5, 6, 7, 8, 9, 10, 11], by decide, rfl⟩ (qt_rd (rd_load Tryd.underlying117 rfl rfl (by exact ld_blk 5 rfl rfl))) ?_
        refine ga_first 1 (bm 14 3) rfl rfl rfl rfl (by kernel_rfl) (by kernel_rfl) ⟨[0, 2, 3, 4, 5, 6, 7, 8, 9, 10, 11], by decide, rfl⟩ (qt_rd (rd_fieldAddr rfl (fa_107_0 _))) ?_
        refine ga_first 2 (bm 14 7) rfl rfl rfl rfl (by kernel_rfl) (by kernel_rfl) ⟨[0, 2, 3, 4, 5, 6, 7, 8, 9, 10, 11], by decide, rfl⟩ (qt_rd (rd_load Tryd.underlying3 rfl rfl (by exact ld_blk 0 rfl rfl))) ?_
        refine ga_first 3 (bm 14 15) rfl rfl rfl rfl (by kernel_rfl) (by kernel_rfl) ⟨[0, 2, 3, 4, 5, 6, 7, 8, 9, 10, 11], by decide, rfl⟩ (qt_rd (rd_move rfl)) ?_
        refine ga_first 4 (bm 14 31) rfl rfl rfl rfl (by kernel_rfl) (by kernel_rfl) ⟨[0, 2, 3, 4, 5, 6, 7, 8, 9, 10, 11], by decide, rfl⟩ (qt_rd (rd_fieldAddr rfl (fa_107_1 _))) ?_
        refine ga_first 5 (bm 14 63) rfl rfl rfl rfl (by kernel_rfl) (by kernel_rfl) ⟨[0, 2, 3, 4, 5, 6, 7, 8, 9, 10, 11], by decide, rfl⟩ (qt_rd (rd_load Tryd.underlying3 rfl rfl (by exact ld_blk 0 rfl rfl))) ?_
        refine ga_first 6 (bm 14 127) rfl rfl rfl rfl (by kernel_rfl) (by kernel_rfl) ⟨[0, 2, 3, 4, 5, 6, 7, 8, 9, 10, 11], by decide, rfl⟩ (qt_rd (rd_addE (kn : Int) rfl rfl hkn (by omega) (by omega))) ?_
        refine ga_first 7 (bm 14 255) rfl rfl rfl rfl (by kernel_rfl) (by kernel_rfl) ⟨[0, 2, 3, 4, 5, 6, 7, 8, 9, 10, 11], by decide, rfl⟩ (qt_rd (rd_indexS Tryd.underlying117 ty_119 rfl rfl (by omega) (by omega))) ?_
        refine ga_first 8 (bm 14 511) rfl rfl rfl rfl (by kernel_rfl) (by kernel_rfl) ⟨[0, 2, 3, 4, 5, 6, 7, 8, 9, 10, 11], by decide, rfl⟩ (qt_rd (rd_indexArrN Tryd.underlying119 ty_3 rfl rfl (by omega))) ?_
        refine ga_two 9 11 (bm 14 1023) (bm 14 2559) rfl rfl rfl rfl (by kernel_rfl) (by kernel_rfl) (by kernel_rfl) (.inr ⟨[0, 2, 3, 4, 5, 6, 7, 8, 9, 10, 11], by decide, rfl⟩) ?_ ?_
        · refine (op_rd rfl (rd_load Tryd.underlying3 rfl rfl (ld_row 1 rfl (cntC_get _ (by omega) (by omega)))) ?_)
          refine ga_first 10 (bm 14 2047) rfl rfl rfl rfl (by kernel_rfl) (by kernel_rfl) ⟨[0, 2, 3, 4, 5, 6, 7, 8, 9, 10, 11], by decide, rfl⟩ (qt_rd (by exact rd_addN (b := 1) rfl rfl (by omega))) ?_
          refine ga_only 11 (bm 14 4095) rfl rfl (by kernel_rfl) (by kernel_rfl) (.inr ⟨[0, 2, 3, 4, 5, 6, 7, 8, 9, 10, 11], by decide, rfl⟩) (op_rd rfl (rd_indexS Tryd.underlying117 ty_119 rfl rfl (by omega) (by omega)) ?_)
          refine ga_first 12 (bm 14 8191) rfl rfl rfl rfl (by kernel_rfl) (by kernel_rfl) ⟨[0, 2, 3, 4, 5, 6, 7, 8, 9, 10, 11], by decide, rfl⟩ (qt_rd (rd_indexArrN Tryd.underlying119 ty_3 rfl rfl (by omega))) ?_
          refine ga_only 13 (bm 14 16383) rfl rfl (by kernel_rfl) (by kernel_rfl) (.inr ⟨[0, 2, 3, 4, 5, 6, 7, 8, 9, 10, 11], by decide, rfl⟩) (op_storeRowE 1 ty_3 rfl rfl rfl rfl (by rw [cntC_len]; omega) (cntC_set _ (cntW (cntP s h k) x (bitsOf X) i (j + 1)) (by omega) (by omega) (by have h9 := cntW_yes (b := cntP s h k) hnew (p.rank.toNat, kn); rw [hpip, if_pos rfl] at h9; rw [h9]) (fun q hq => by have h9 := cntW_yes (b := cntP s h k) hnew q; rw [hpip, if_neg (fun e => hq e.symm)] at h9; omega)) (by rfl) ?_)
          refine ga_end (by kernel_rfl) (.inl (by kernel_rfl)) ?_
          refine gx_block <| gx_then <| rc_region <| rl_op (by nofun) (op_rd rfl (by exact rd_addN (b := 1) rfl rfl (by omega)) ?_)
          refine rl_op (by nofun) (op_rd rfl (rd_move rfl) ?_)
          refine rl_nil <| gx_then ?_
          exact gx_cut (j + 1) ⟨by omega, by omega⟩ ⟨rfl, rfl, rfl, rfl, rfl, rfl, trivial⟩ (sub_tail (A := [_, _, _, _, _, _, _, _, _, _, _]) (B := [_, _, _, _, _, _, _, _, _, _, _, _]) (T := (Ds.map markH)) [1, 2, 3, 4, 5, 6, 7, 8, 9, 10, 11] 12 (by decide) (by decide) rfl rfl)
        refine (op_rd rfl (rd_indexS Tryd.underlying117 ty_119 rfl rfl (by omega) (by omega)) ?_)
        refine ga_only 9 (bm 14 3071) rfl rfl (by kernel_rfl) (by kernel_rfl) (.inr ⟨[0, 2, 3, 4, 5, 6, 7, 8, 9, 10, 11], by decide, rfl⟩) (op_rd rfl (rd_load Tryd.underlying3 rfl rfl (ld_row 1 rfl (cntC_get _ (by omega) (by omega)))) ?_)
        refine ga_first 10 (bm 14 4095) rfl rfl rfl rfl (by kernel_rfl) (by kernel_rfl) ⟨[0, 2, 3, 4, 5, 6, 7, 8, 9, 10, 11], by decide, rfl⟩ (qt_rd (by exact rd_addN (b := 1) rfl rfl (by omega))) ?_
        refine ga_first 12 (bm 14 8191) rfl rfl rfl rfl (by kernel_rfl) (by kernel_rfl) ⟨[0, 2, 3, 4, 5, 6, 7, 8, 9, 10, 11], by decide, rfl⟩ (qt_rd (rd_indexArrN Tryd.underlying119 ty_3 rfl rfl (by omega))) ?_
        refine ga_only 13 (bm 14 16383) rfl rfl (by kernel_rfl) (by kernel_rfl) (.inr ⟨[0, 2, 3, 4, 5, 6, 7, 8, 9, 10, 11], by decide, rfl⟩) (op_storeRowE 1 ty_3 rfl rfl rfl rfl (by rw [cntC_len]; omega) (cntC_set _ (cntW (cntP s h k) x (bitsOf X) i (j + 1)) (by omega) (by omega) (by have h9 := cntW_yes (b := cntP s h k) hnew (p.rank.toNat, kn); rw [hpip, if_pos rfl] at h9; rw [h9]) (fun q hq => by have h9 := cntW_yes (b := cntP s h k) hnew q; rw [hpip, if_neg (fun e => hq e.symm)] at h9; omega)) (by rfl) ?_)
        refine ga_end (by kernel_rfl) (.inl (by kernel_rfl)) ?_
        refine gx_block <| gx_then <| rc_region <| rl_op (by nofun) (op_rd rfl (by exact rd_addN (b := 1) rfl rfl (by omega)) ?_)
        refine rl_op (by nofun) (op_rd rfl (rd_move rfl) ?_)
        refine rl_nil <| gx_then ?_
        exact gx_cut (j + 1) ⟨by omega, by omega⟩ ⟨rfl, rfl, rfl, rfl, rfl, rfl, trivial⟩ (sub_tail (A := [_, _, _, _, _, _, _, _, _, _, _]) (B := [_, _, _, _, _, _, _, _, _, _, _, _]) (T := (Ds.map markH)) [1, 2, 3, 4, 5, 6, 7, 8, 9, 10, 11] 12 (by decide) (by decide) rfl rfl)
      have hj9 : j = x.ps.length := by omega
      rw [hj9, cntW_next hpo hi]
      refine rl_nil <| gx_then <| rc_seq <| rc_cond_f rfl <| rc_exit <| gx_then_exit <| gx_then_exit <| gx_block_exit <| gx_scope <| gx_block ?_
      exact rp_normal _ (rfl) (sub_tail (A := [_, _, _, _, _, _, _, _, _, _, _]) (B := [_, _, _, _, _, _, _, _, _, _, _]) (T := (Ds.map markH)) [1, 2, 3, 4, 0, 5, 6, 7, 8, 9, 10] 11 (by decide) (by decide) rfl rfl)
    · intro D L hI
      subst hI
      rw [cntW_all, hnx]
      refine gk_front [_, _, _, _, _, _, _, _, _, _] [_, _, _, _, _, _, _, _, _] (Ds.map markH) [1, 2, 3, 4, 5, 6, 7, 8, 9] 0 10 rfl (x := markH D) rfl rfl (by decide) (by decide) ?_
      refine gx_block <| gx_block <| gx_then <| rc_region <| rl_op (by nofun) (op_rd rfl (by exact rd_addN (b := 1) rfl rfl (by omega)) ?_)
      refine rl_op (by nofun) (op_rd rfl (rd_move rfl) ?_)
      refine rl_nil <| gx_then ?_
      exact gx_cutM ((k + 1, D :: Ds)) ⟨by simp only; omega, by simp only; omega⟩ rfl ⟨rfl, rfl, rfl, rfl, rfl, rfl, trivial⟩ (sub_tail (A := [_, _, _, _, _, _, _]) (B := [_, _, _, _, _, _, _, _, _]) (T := ((D :: Ds).map markH)) [2, 3, 4, 5, 6, 7, 8] 9 (by decide) (by decide) rfl rfl)
    · intro D c i L hi hI
      exact hI.elim
  refine rl_nil <| gx_then <| rc_seq <| rc_cond_f rfl <| rc_exit <| gx_then_exit <| gx_then_exit <| gx_block_exit <| gx_then <| rc_seq <| rc_region <| rl_op (by nofun) (op_rd rfl (rd_load Tryd.underlying117 rfl rfl (by exact ld_blk 1 rfl rfl)) ?_)
  refine rl_op (by nofun) (op_rd rfl (rd_assign rfl) ?_)
  refine rl_nil <| gx_then <| rc_ret ?_
  have hk9 : k = h.ss.length := by omega
  subst hk9
  refine gk_sub (sub_tail (A := [_]) (B := [_, _, _, _, _, _, _]) (T := (Ds.map markH)) [0] 7 (by decide) (by decide) rfl rfl) ?_
  refine gk_sub (sub_rot [_] (Ds.map markH)) <| gx_retM1 Ds (.inl rfl) Tryd.results47 rfl (Sub.refl' _) ?_
  exact ⟨b21, rfl, rfl⟩
end Go.Proofs.YtbjijbbkfgcleaaDoor
namespace Go.Proofs.YtbjijbbkfgcleaaDoor
open Go.Gv
open Go.RowKit
open Go.Sn
open Sx
namespace Sx
theorem rowC_arr (f : Pl → Nat) (r : Nat) {k : Nat} (hk : k < 128) : (rowC f r).toArray[k]? = some (natV (f (r, k))) := by
  rw [List.getElem?_toArray]
  unfold rowC
  rw [List.getElem?_map, range_at hk]; rfl
end Sx
open Sx
set_option maxRecDepth 100000 in
set_option maxHeartbeats 1000000 in
theorem sounds_ok (s : Org) (h : HN) (hle : OrgLe s) (hg : HGood s h) (w0 : World) (hS : OrgIn s w0 []) (hH : HNIn h w0 []) (hT : TabIn w0) : Sp Tryd.prog 45 [s.val, h.val] w0 [] (fun v L => ∃ b13 sets, v = .slice (rowA (some b13)) s.rs.length s.rs.length ∧ L = [.row 90 2 (some b13) s.rs.length s.rs.length (sets.flatMap setC)] ∧ SetU s.rs.length (cntP s h h.ss.length) s.rs.length 0 sets) := by
  have hA := hg.cx
  have hnd : s.ds.length ≤ 6 := hA.nd
  have hkl : h.ks.length = s.ds.length := by have := hA.nk; simpa [cxN] using this
  have hnc := hg.nc
  have hcl : h.cs.length ≤ s.cs.length := asc_len hA.dra hA.drn
  have hnr := hg.nr
  refine spec_enter Tryd.func45 rfl Tryd.ntmps45 rfl (Own.refl _) ?_
  simp only [argEnv]
  refine gc_seq <| gc_region <| gl_op (op_box rfl rfl rfl (fun b2 => ?_))
  refine gl_op (op_box rfl rfl rfl (fun b3 => ?_))
  refine gl_op <| op_rd rfl (rd_assign rfl) <| gl_nil <| gx_then <| gc_seq <| gc_region <| gl_op <| op_rd rfl (rd_fieldAddr rfl (fa_27_1 _)) <| gl_op (op_rd rfl (rd_load Tryd.underlying23 rfl rfl (by exact ld_blk 1 rfl rfl)) ?_)
  refine gl_op <| op_rd rfl (rd_lenSlice Tryd.underlying23 rfl) <| gl_op (op_makeSlice (s.rs.length) Tryd.underlying84 ty_90 rfl rfl rfl (by omega) (by omega) (by omega) (by omega) (fun b13 => ?_))
  refine gl_op <| op_rd rfl (rd_assign rfl) <| gl_nil <| gx_then <| gc_seq <| gc_seq ?_
  rw [made_flat setC 2 _ 0 setC_zero (fun _ => rfl) (by decide)]
  refine gc_region <| gl_op (op_rd rfl (rd_loadAgg Tryd.underlying27 rfl ty_27 rfl (by exact cs_blk 2 (off := 0) (k := 4) rfl rfl) rfl) ?_)
  refine gl_op (op_rd rfl (rd_loadAgg Tryd.underlying31 rfl ty_31 rfl (by exact cs_blk 1 (off := 0) (k := 3) rfl rfl) rfl) ?_)
  refine gl_op (op_call rfl (vf := []) (vc := []) rfl rfl Tryd.call47 (fun w1 ho => count_ok s h hle hg w1 (hS.at ho) (hH.at ho) (hT.at ho (by decide))) ?_)
  rintro _ _ ⟨b16, rfl, rfl⟩
  refine gl_op <| op_rd rfl (rd_lenSlice Tryd.underlying117 rfl) <| gl_op <| op_rd rfl (rd_move rfl) <| gl_nil <| gx_then <| gc_block <| gc_loopF (ι := Nat × List Nat) [(5, _), (16, _), (17, _)] [_, _, _] (fun q => q.1 ≤ s.rs.length ∧ SetU s.rs.length (cntP s h h.ss.length) q.1 0 q.2) (fun q Fr0 => ((18, natV q.1) :: Fr0)) (fun q Fr0 => (.row 90 2 (some b13) s.rs.length s.rs.length (q.2.flatMap setC) :: Fr0)) (fun q => s.rs.length - q.1) (0, List.replicate s.rs.length 0) (⟨Nat.zero_le _, SetU.init _ _⟩) ⟨rfl, rfl, rfl, rfl, trivial⟩ ⟨[1, 0, 2, 3], by decide, rfl⟩ ?_
  rintro ⟨r, sets⟩ ⟨hr, hu⟩
  simp only at hr hu ⊢
  refine gc_seq <| gc_region <| gl_op (op_rd rfl (rd_lss rfl rfl) (gk_dec (fun h19 => ?_) (fun h19 => ?_)))
  · refine gl_nil <| gx_then <| gc_seq <| gc_cond_t rfl <| gc_skip <| gx_then <| gc_seq <| gc_block <| gc_seq <| gc_region <| gl_op <| op_rd rfl (rd_move rfl) <| gl_op (op_rd rfl (rd_indexS Tryd.underlying117 ty_119 rfl rfl (by omega) (by omega)) ?_)
    refine gl_op (op_rd rfl (rd_loadAgg Tryd.underlying119 rfl ty_119 rfl (cs_row 1 (a := some b16) rfl (cntC_row _ (by omega))) rfl) ?_)
    refine gl_op (op_alloc ty_119 rfl rfl (fun b7 => ?_))
    refine gl_op <| op_rd rfl (rd_assign rfl) <| gl_op (op_storeAgg 0 ty_119 rfl rfl rfl rfl rfl rfl (by rfl) ?_)
    refine gl_nil <| gx_then <| gc_seq <| gc_region <| gl_op (op_rd rfl (rd_loadAgg Tryd.underlying119 rfl ty_119 rfl (by exact cs_blk 0 (off := 0) (k := 128) rfl rfl) rfl) ?_)
    refine gl_op <| op_rd rfl (rd_move rfl) <| gl_nil <| gx_then <| gc_block <| gc_loopF (ι := Nat × List Nat) [(5, _), (6, _), (16, _), (17, _), (18, _), (23, _)] [_, _, _, _] (fun q => q.1 ≤ 128 ∧ SetU s.rs.length (cntP s h h.ss.length) r q.1 q.2) (fun q Fr0 => ((24, natV q.1) :: Fr0)) (fun q Fr0 => (.row 90 2 (some b13) s.rs.length s.rs.length (q.2.flatMap setC) :: Fr0)) (fun q => 128 - q.1) (0, sets) (⟨Nat.zero_le _, hu⟩) ⟨rfl, rfl, rfl, rfl, rfl, rfl, rfl, trivial⟩ ⟨[1, 0, 2, 3, 4], by decide, rfl⟩ ?_
    rintro ⟨k, sets2⟩ ⟨hk, hu2⟩
    simp only at hk hu2 ⊢
    refine gc_seq <| gc_region <| gl_op (op_rd rfl (rd_lss rfl rfl) (gk_dec (fun h25 => ?_) (fun h25 => ?_)))
    · refine gl_nil <| gx_then <| gc_seq <| gc_cond_t rfl <| gc_skip <| gx_then <| gc_seq <| gc_block <| gc_seq <| gc_region <| gl_op <| op_rd rfl (rd_move rfl) <| gl_op (op_rd rfl (rd_indexArrV Tryd.underlying119 Tryd.underlying3 ty_3 rfl rfl (by omega) (v := natV ((cntP s h h.ss.length) (r, k))) (rowC_arr _ _ (by omega))) ?_)
      refine gl_op <| op_rd rfl (rd_assign rfl) <| gl_op <| op_rd rfl (rd_assign rfl) <| gl_nil <| gx_then <| gc_seq <| gc_region <| gl_op <| op_rd rfl (rd_move rfl) <| gl_op (op_rd rfl (rd_gtr rfl rfl) (gk_dec (fun h29 => ?_) (fun h29 => ?_)))
      · refine gl_nil <| gx_then <| gc_cond_t rfl <| gc_region <| gl_op <| op_rd rfl (rd_move rfl) <| gl_op <| op_rd rfl (rd_move rfl) <| gl_op (op_rd rfl (by exact rd_indexRow 0 rfl Tryd.underlying84 ty_90 rfl rfl (by omega) (by omega)) ?_)
        refine gl_op <| op_rd rfl (rd_move rfl) <| gl_op (op_callM [0] [1, 2, 3, 4] rfl (vf := []) (vc := []) rfl rfl Tryd.call48 (by decide) rfl (fun w how hc => add_ok sets2 r k b13 s.rs.length s.rs.length hu2.len (by rw [hu2.len]; omega) (by omega) hu2.lt w hc) ?_)
        rintro _ _ ⟨rfl, rfl⟩
        refine gl_nil <| gx_block <| gx_then <| gc_region <| gl_op (op_rd rfl (by exact rd_addN (b := 1) rfl rfl (by omega)) ?_)
        refine gl_op <| op_rd rfl (rd_move rfl) <| gl_nil <| gx_then ?_
        exact gx_cut ((k + 1, addSet sets2 (r, k))) ⟨⟨by simp only; omega, hu2.yes (by omega) (by omega) (by omega)⟩, by simp only; omega⟩ ⟨rfl, rfl, rfl, rfl, rfl, rfl, rfl, trivial⟩ ⟨[0, 1, 2, 3, 4], by decide, rfl⟩
      refine gl_nil <| gx_then <| gc_cond_f rfl <| gc_skip <| gx_block <| gx_then <| gc_region <| gl_op (op_rd rfl (by exact rd_addN (b := 1) rfl rfl (by omega)) ?_)
      refine gl_op <| op_rd rfl (rd_move rfl) <| gl_nil <| gx_then ?_
      exact gx_cut ((k + 1, sets2)) ⟨⟨by simp only; omega, hu2.no (by omega)⟩, by simp only; omega⟩ ⟨rfl, rfl, rfl, rfl, rfl, rfl, rfl, trivial⟩ ⟨[0, 1, 2, 3, 4], by decide, rfl⟩
    have hk9 : k = 128 := by omega
    subst hk9
    refine gl_nil <| gx_then <| gc_seq <| gc_cond_f rfl <| gc_exit <| gx_then_exit <| gx_then_exit <| gx_block_exit <| gx_block <| gx_then <| gc_region <| gl_op (op_rd rfl (by exact rd_addN (b := 1) rfl rfl (by omega)) ?_)
    refine gl_op <| op_rd rfl (rd_move rfl) <| gl_nil <| gx_then ?_
    exact gx_cut ((r + 1, sets2)) ⟨⟨by simp only; omega, hu2.next⟩, by simp only; omega⟩ ⟨rfl, rfl, rfl, rfl, trivial⟩ ⟨[0, 2, 3, 4], by decide, rfl⟩
  refine gl_nil <| gx_then <| gc_seq <| gc_cond_f rfl <| gc_exit <| gx_then_exit <| gx_then_exit <| gx_block_exit <| gx_then <| gc_seq ?_
  have hr9 : r = s.rs.length := by omega
  rw [hr9] at hu
  refine gc_region <| gl_op <| op_rd rfl (rd_move rfl) <| gl_op <| op_rd rfl (rd_assign rfl) <| gl_nil <| gx_then <| gc_ret <| gx_ret1 (.inl rfl) Tryd.results45 rfl [0] (by decide) ?_
  exact ⟨b13, sets, rfl, rfl, hu⟩
set_option maxRecDepth 100000 in
set_option maxHeartbeats 1000000 in
theorem Pipes_ok (s : Org) (h : Hd) (hle : OrgLe s) (hhe : HdLe h) (w0 : World) (hS : OrgIn s w0 []) (hH : HdIn h w0 []) (hT : TabIn w0) : Sp Tryd.prog 21 [s.val, h.val] w0 [] (PipesR 42 s h) := by
  refine spec_enter Tryd.func21 rfl Tryd.ntmps21 rfl (Own.refl _) ?_
  simp only [argEnv]
  refine gc_seq <| gc_region <| gl_op (op_box rfl rfl rfl (fun b2 => ?_))
  refine gl_op (op_box rfl rfl rfl (fun b3 => ?_))
  refine gl_op <| op_rd rfl (rd_assign rfl) <| gl_op <| op_rd rfl (rd_assign rfl) <| gl_nil <| gx_then <| gc_seq <| gc_seq <| gc_region <| gl_op (op_rd rfl (rd_loadAgg Tryd.underlying27 rfl ty_27 rfl (by exact cs_blk 1 (off := 0) (k := 4) rfl rfl) rfl) ?_)
  refine gl_op (op_rd rfl (rd_loadAgg Tryd.underlying31 rfl ty_31 rfl (by exact cs_blk 0 (off := 0) (k := 3) rfl rfl) rfl) ?_)
  refine gl_op (op_call rfl (vf := []) (vc := []) rfl rfl Tryd.call14 (fun w1 ho => Check_ok s h hle hhe w1 (hS.at ho) (hH.at ho)) ?_)
  rintro _ _ ⟨rfl, rfl⟩
  refine gl_op <| op_rd rfl (rd_assign rfl) <| gl_nil <| gx_then <| gc_seq <| gc_region <| gl_op <| op_rd rfl (rd_move rfl) <| gl_op (op_rd rfl (rd_neq rfl rfl) (gk_dec (fun h11 => ?_) (fun h11 => ?_)))
  · refine gl_nil <| gx_then <| gc_cond_t rfl <| gc_seq <| gc_region <| gl_op <| op_rd rfl (rd_move rfl) <| gl_op <| op_rd rfl (rd_assign rfl) <| gl_op <| op_rd rfl (rd_assign rfl) <| gl_nil <| gx_then <| gc_ret <| gx_then_ret <| gx_ret2 (.inl rfl) Tryd.results21 rfl rfl [] (by decide) ?_
    exact .inl ⟨h11, rfl, rfl⟩
  obtain ⟨n, rfl, hg⟩ := good_of (s := s) hhe (by omega)
  have hH := HNIn.of hH
  simp only [HN.hd_val]
  have hA := hg.cx
  have hnd : s.ds.length ≤ 6 := hA.nd
  obtain ⟨e0, he0⟩ : ∃ e0, handErr s n.hd = e0 := ⟨_, rfl⟩
  refine gl_nil <| gx_then <| gc_cond_f rfl <| gc_skip <| gx_then <| gc_seq <| gc_region <| gl_op (op_rd rfl (rd_loadAgg Tryd.underlying27 rfl ty_27 rfl (by exact cs_blk 1 (off := 0) (k := 4) rfl rfl) rfl) ?_)
  refine gl_op (op_rd rfl (rd_loadAgg Tryd.underlying31 rfl ty_31 rfl (by exact cs_blk 0 (off := 0) (k := 3) rfl rfl) rfl) ?_)
  refine gl_op (op_call rfl (vf := []) (vc := []) rfl rfl Tryd.call45 (fun w1 ho => sounds_ok s n hle hg w1 (hS.at ho) (hH.at ho) (hT.at ho (by decide))) ?_)
  rintro _ _ ⟨b15, sets, rfl, rfl, hu⟩
  have hsl := hu.len
  have hnr := hg.nr
  rw [← hsl]
  refine gl_op (op_call rfl (vf := []) (vc := []) rfl rfl Tryd.call44 (fun w1 ho => piped_ok sets (rowA (some b15)) sets.length (by omega) hu.lt w1 (hT.at ho (by decide)) (ho.rowSl 0 rfl)) ?_)
  rintro _ _ ⟨r, c, rfl, rfl⟩
  have hpp : pipesU sets sets.length = soundP s n := by rw [hsl]; exact hu.pipes
  rw [hpp]
  refine gl_op <| op_rd rfl (rd_assign rfl) <| gl_op <| op_rd rfl (rd_assign rfl) <| gl_nil <| gx_then <| gc_ret <| gx_ret2 (.inl rfl) Tryd.results21 rfl rfl [0] (by decide) ?_
  exact .inr ⟨by omega, n, r, c, rfl, hg, rfl, rfl⟩
end Go.Proofs.YtbjijbbkfgcleaaDoor
namespace Go.Proofs.YtbjijbbkfgcleaaDoor
open Go.Gv
open Go.RowKit
open Go.Sn
open Sx
set_option maxRecDepth 100000 in
set_option maxHeartbeats 1000000 in
theorem why1_ok (p : Pt) (n : Nat) (r0 p0 : Int) (hb0 : 0 ≤ p.lo) (hb1 : p.hi ≤ 127) (hb2 : -96 ≤ p.shift) (hb3 : p.shift ≤ 96) (bp bn : Nat) (w0 : World) (hbp : OldSl w0 [] (some ⟨bp, 0, none⟩) 2 1 [.int .i64 r0, .int .i64 p0]) (hbn : OldSl w0 [] (some ⟨bn, 0, none⟩) 1 1 [natV n]) : Sp Tryd.prog 41 [p.val, .pointer (some ⟨bp, 0, none⟩), .pointer (some ⟨bn, 0, none⟩)] w0 [] (RV (.bool (plZ p n r0 p0))) := by
  refine spec_enter Tryd.func41 rfl Tryd.ntmps41 rfl (Own.refl _) ?_
  simp only [argEnv]
  refine gc_seq <| gc_region <| gl_op (op_box rfl rfl rfl (fun b3 => ?_))
  refine gl_op <| op_rd rfl (rd_assign rfl) <| gl_nil <| gx_then <| gc_seq <| gc_region <| gl_op <| op_rd rfl (rd_fieldAddr rfl (fa_107_0 _)) <| gl_op (op_rd rfl (rd_load Tryd.underlying3 rfl rfl (by exact ld_blk 0 rfl rfl)) ?_)
  refine gl_op <| op_rd rfl (rd_fieldAddr rfl (fa_42_0 _)) <| gl_op <| op_rd rfl (rd_load Tryd.underlying3 rfl rfl (ld_sl hbp rfl)) <| gl_op (op_rd rfl (rd_eql rfl rfl) (gk_dec (fun h9 => ?_) (fun h9 => ?_)))
  · refine gl_op <| op_rd rfl (rd_move rfl) <| gl_yes rfl rfl <| op_rd rfl (rd_load Tryd.underlying3 rfl rfl (ld_sl (off := 0) hbn rfl)) <| gl_yes rfl rfl <| op_rd rfl (rd_fieldAddr rfl (fa_107_2 _)) <| gl_yes rfl rfl (op_rd rfl (rd_load Tryd.underlying3 rfl rfl (by exact ld_blk 0 rfl rfl)) ?_)
    refine gl_yes rfl rfl (op_rd rfl (rd_geq rfl rfl) (gk_dec (fun h14 => ?_) (fun h14 => ?_)))
    · refine gl_op <| op_rd rfl (rd_pick_t rfl rfl) <| gl_op <| op_rd rfl (rd_move rfl) <| gl_yes rfl rfl <| op_rd rfl (rd_load Tryd.underlying3 rfl rfl (ld_sl (off := 0) hbn rfl)) <| gl_yes rfl rfl <| op_rd rfl (rd_fieldAddr rfl (fa_107_3 _)) <| gl_yes rfl rfl (op_rd rfl (rd_load Tryd.underlying3 rfl rfl (by exact ld_blk 0 rfl rfl)) ?_)
      refine gl_yes rfl rfl (op_rd rfl (rd_leq rfl rfl) (gk_dec (fun h20 => ?_) (fun h20 => ?_)))
      · refine gl_op <| op_rd rfl (rd_pick_t rfl rfl) <| gl_op <| op_rd rfl (rd_move rfl) <| gl_yes rfl rfl <| op_rd rfl (rd_load Tryd.underlying3 rfl rfl (ld_sl (off := 0) hbn rfl)) <| gl_yes rfl rfl <| op_rd rfl (rd_fieldAddr rfl (fa_107_1 _)) <| gl_yes rfl rfl (op_rd rfl (rd_load Tryd.underlying3 rfl rfl (by exact ld_blk 0 rfl rfl)) ?_)
        refine gl_yes rfl rfl (op_rd rfl (rd_add rfl rfl (by omega) (by omega)) ?_)
        refine gl_yes rfl rfl <| op_rd rfl (rd_fieldAddr rfl (fa_42_1 _)) <| gl_yes rfl rfl <| op_rd rfl (rd_load Tryd.underlying3 rfl rfl (ld_sl hbp rfl)) <| gl_yes rfl rfl (op_rd rfl (rd_eql rfl rfl) (gk_dec (fun h29 => ?_) (fun h29 => ?_)))
        · have hyes : plZ p n r0 p0 = true := by unfold plZ; simp only [Bool.and_eq_true, decide_eq_true_eq]; omega
          refine gl_op <| op_rd rfl (rd_pick_t rfl rfl) <| gl_op <| op_rd rfl (rd_assign rfl) <| gl_nil <| gx_then <| gc_ret <| gx_ret1 (.inl rfl) Tryd.results41 rfl [] (by decide) ?_
          exact ⟨congrArg Value.bool (Eq.symm hyes), rfl⟩
        have hno : plZ p n r0 p0 = false := by unfold plZ; simp only [Bool.and_eq_false_iff, decide_eq_false_iff_not]; omega
        refine gl_op <| op_rd rfl (rd_pick_t rfl rfl) <| gl_op <| op_rd rfl (rd_assign rfl) <| gl_nil <| gx_then <| gc_ret <| gx_ret1 (.inl rfl) Tryd.results41 rfl [] (by decide) ?_
        exact ⟨congrArg Value.bool (Eq.symm hno), rfl⟩
      have hno : plZ p n r0 p0 = false := by unfold plZ; simp only [Bool.and_eq_false_iff, decide_eq_false_iff_not]; omega
      refine gl_op <| op_rd rfl (rd_pick_t rfl rfl) <| gl_op <| op_rd rfl (rd_move rfl) <| gl_no rfl rfl rfl <| gl_no rfl rfl rfl <| gl_no rfl rfl rfl <| gl_no rfl rfl rfl <| gl_no rfl rfl rfl <| gl_no rfl rfl rfl <| gl_no rfl rfl rfl <| gl_op <| op_rd rfl (rd_pick_f rfl rfl) <| gl_op <| op_rd rfl (rd_assign rfl) <| gl_nil <| gx_then <| gc_ret <| gx_ret1 (.inl rfl) Tryd.results41 rfl [] (by decide) ?_
      exact ⟨congrArg Value.bool (Eq.symm hno), rfl⟩
    have hno : plZ p n r0 p0 = false := by unfold plZ; simp only [Bool.and_eq_false_iff, decide_eq_false_iff_not]; omega
    refine gl_op <| op_rd rfl (rd_pick_t rfl rfl) <| gl_op <| op_rd rfl (rd_move rfl) <| gl_no rfl rfl rfl <| gl_no rfl rfl rfl <| gl_no rfl rfl rfl <| gl_no rfl rfl rfl <| gl_op <| op_rd rfl (rd_pick_f rfl rfl) <| gl_op <| op_rd rfl (rd_move rfl) <| gl_no rfl rfl rfl <| gl_no rfl rfl rfl <| gl_no rfl rfl rfl <| gl_no rfl rfl rfl <| gl_no rfl rfl rfl <| gl_no rfl rfl rfl <| gl_no rfl rfl rfl <| gl_op <| op_rd rfl (rd_pick_f rfl rfl) <| gl_op <| op_rd rfl (rd_assign rfl) <| gl_nil <| gx_then <| gc_ret <| gx_ret1 (.inl rfl) Tryd.results41 rfl [] (by decide) ?_
    exact ⟨congrArg Value.bool (Eq.symm hno), rfl⟩
  have hno : plZ p n r0 p0 = false := by unfold plZ; simp only [Bool.and_eq_false_iff, decide_eq_false_iff_not]; omega
  refine gl_op <| op_rd rfl (rd_move rfl) <| gl_no rfl rfl rfl <| gl_no rfl rfl rfl <| gl_no rfl rfl rfl <| gl_no rfl rfl rfl <| gl_op <| op_rd rfl (rd_pick_f rfl rfl) <| gl_op <| op_rd rfl (rd_move rfl) <| gl_no rfl rfl rfl <| gl_no rfl rfl rfl <| gl_no rfl rfl rfl <| gl_no rfl rfl rfl <| gl_op <| op_rd rfl (rd_pick_f rfl rfl) <| gl_op <| op_rd rfl (rd_move rfl) <| gl_no rfl rfl rfl <| gl_no rfl rfl rfl <| gl_no rfl rfl rfl <| gl_no rfl rfl rfl <| gl_no rfl rfl rfl <| gl_no rfl rfl rfl <| gl_no rfl rfl rfl <| gl_op <| op_rd rfl (rd_pick_f rfl rfl) <| gl_op <| op_rd rfl (rd_assign rfl) <| gl_nil <| gx_then <| gc_ret ?_
  refine gx_ret1 (.inl rfl) Tryd.results41 rfl [] (by decide) ?_
  exact ⟨congrArg Value.bool (Eq.symm hno), rfl⟩
set_option maxRecDepth 100000 in
set_option maxHeartbeats 1000000 in
theorem indexPt_ok (x : St) (n : Nat) (r0 p0 : Int) (hl : x.ps.length ≤ 1000) (hpb : ∀ p ∈ x.ps, 0 ≤ p.lo ∧ p.hi ≤ 127 ∧ -96 ≤ p.shift ∧ p.shift ≤ 96) (bp bn : Nat) (w0 : World) (hx : OldSl w0 [] x.pa x.ps.length 4 (x.ps.flatMap Pt.cells)) (hbp : OldSl w0 [] (some ⟨bp, 0, none⟩) 2 1 [.int .i64 r0, .int .i64 p0]) (hbn : OldSl w0 [] (some ⟨bn, 0, none⟩) 1 1 [natV n]) : Sp Tryd.prog 75 [.slice x.pa x.ps.length x.pc, .func (.func 41) #[] #[.pointer (some ⟨bp, 0, none⟩), .pointer (some ⟨bn, 0, none⟩)]] w0 [] (fun v L => ∃ r : Int, v = .int .i64 r ∧ L = [] ∧ (0 ≤ r ↔ playsZ x n r0 p0 = true)) := by
  refine spec_enter Tryd.func75 rfl Tryd.ntmps75 rfl (Own.refl _) ?_
  simp only [argEnv]
  refine gc_seq <| gc_region <| gl_op <| op_rd rfl (rd_assign rfl) <| gl_nil <| gx_then <| gc_seq <| gc_seq <| gc_region <| gl_op <| op_rd rfl (rd_move rfl) <| gl_op <| op_rd rfl (rd_lenSlice Tryd.underlying55 rfl) <| gl_op <| op_rd rfl (rd_move rfl) <| gl_nil <| gx_then <| gc_block <| gc_loopF (ι := Nat) [(0, _), (1, _), (7, _)] [] (fun k => k ≤ x.ps.length ∧ ∀ j, j < k → plZ (ptA x.ps j) n r0 p0 = false) (fun k Fr0 => ((8, natV k) :: Fr0)) (fun k Fr0 => Fr0) (fun k => x.ps.length - k) 0 (⟨Nat.zero_le _, fun j h => absurd h (Nat.not_lt_zero j)⟩) ⟨rfl, rfl, rfl, rfl, trivial⟩ ⟨[], by decide, rfl⟩ ?_
  rintro k ⟨hk, hall⟩
  refine gc_seq <| gc_region <| gl_op (op_rd rfl (rd_lss rfl rfl) (gk_dec (fun h9 => ?_) (fun h9 => ?_)))
  · obtain ⟨p, hp⟩ := get_some (show k < x.ps.length by omega)
    have hpt : ptA x.ps k = p := getD_some hp
    obtain ⟨hb0, hb1, hb2, hb3⟩ := hpb p (List.mem_of_getElem? hp)
    refine gl_nil <| gx_then <| gc_seq <| gc_cond_t rfl <| gc_skip <| gx_then <| gc_seq <| gc_block <| gc_seq <| gc_region <| gl_op <| op_rd rfl (rd_move rfl) <| gl_op <| op_rd rfl (rd_assign rfl) <| gl_nil <| gx_then <| gc_seq <| gc_region <| gl_op <| op_rd rfl (rd_move rfl) <| gl_op <| op_rd rfl (rd_move rfl) <| gl_op <| op_rd rfl (rd_move rfl) <| gl_op (op_rd rfl (rd_indexOld hx Tryd.underlying55 ty_107 rfl rfl (by omega) (by omega)) ?_)
    refine gl_op (op_rd rfl (rd_loadAgg Tryd.underlying107 rfl ty_107 rfl (cs_slN hx (flat_drop_get Pt.cells 4 (fun _ => rfl) hp)) rfl) ?_)
    simp only [Pt.cells]
    refine gl_op (op_call rfl (vf := []) (vc := [.pointer (some ⟨bp, 0, none⟩), .pointer (some ⟨bn, 0, none⟩)]) rfl rfl Tryd.call41 (fun w1 ho => why1_ok p n r0 p0 hb0 hb1 hb2 hb3 bp bn w1 (hbp.at ho) (hbn.at ho)) ?_)
    rintro _ _ ⟨rfl, rfl⟩
    refine gk_bool (fun hh => ?_) (fun hh => ?_)
    · refine gl_nil <| gx_then <| gc_cond_t rfl <| gc_seq <| gc_region <| gl_op <| op_rd rfl (rd_move rfl) <| gl_op <| op_rd rfl (rd_assign rfl) <| gl_nil <| gx_then <| gc_ret <| gx_block_ret <| gx_then_ret <| gx_then_ret <| gx_block_ret <| gx_then_ret <| gx_ret1 (.inl rfl) Tryd.results75 rfl [] (by decide) ?_
      exact ⟨_, rfl, rfl, ⟨fun _ => playsZ_t hp hh, fun _ => by omega⟩⟩
    have hno : plZ (ptA x.ps k) n r0 p0 = false := by rw [hpt]; exact hh
    refine gl_nil <| gx_then <| gc_cond_f rfl <| gc_skip <| gx_block <| gx_then <| gc_region <| gl_op (op_rd rfl (by exact rd_addN (b := 1) rfl rfl (by omega)) ?_)
    refine gl_op <| op_rd rfl (rd_move rfl) <| gl_nil <| gx_then ?_
    exact gx_cut (k + 1) ⟨⟨by omega, all_snocZ hall hno⟩, by omega⟩ ⟨rfl, rfl, rfl, rfl, trivial⟩ ⟨[], by decide, rfl⟩
  refine gl_nil <| gx_then <| gc_seq <| gc_cond_f rfl <| gc_exit <| gx_then_exit <| gx_then_exit <| gx_block_exit <| gx_then <| gc_seq <| gc_region <| gl_op <| op_rd rfl (rd_assign rfl) <| gl_nil <| gx_then <| gc_ret <| gx_ret1 (.inl rfl) Tryd.results75 rfl [] (by decide) ?_
  refine ⟨_, rfl, rfl, ⟨fun h => by omega, fun h => ?_⟩⟩
  rw [playsZ_f fun j hj => hall j (by omega)] at h; cases h
set_option maxRecDepth 100000 in
set_option maxHeartbeats 1000000 in
theorem containsPt_ok (x : St) (n : Nat) (r0 p0 : Int) (hl : x.ps.length ≤ 1000) (hpb : ∀ p ∈ x.ps, 0 ≤ p.lo ∧ p.hi ≤ 127 ∧ -96 ≤ p.shift ∧ p.shift ≤ 96) (bp bn : Nat) (w0 : World) (hx : OldSl w0 [] x.pa x.ps.length 4 (x.ps.flatMap Pt.cells)) (hbp : OldSl w0 [] (some ⟨bp, 0, none⟩) 2 1 [.int .i64 r0, .int .i64 p0]) (hbn : OldSl w0 [] (some ⟨bn, 0, none⟩) 1 1 [natV n]) : Sp Tryd.prog 40 [.slice x.pa x.ps.length x.pc, .func (.func 41) #[] #[.pointer (some ⟨bp, 0, none⟩), .pointer (some ⟨bn, 0, none⟩)]] w0 [] (RV (.bool (playsZ x n r0 p0))) := by
  refine spec_enter Tryd.func40 rfl Tryd.ntmps40 rfl (Own.refl _) ?_
  simp only [argEnv]
  refine gc_seq <| gc_region <| gl_op <| op_rd rfl (rd_assign rfl) <| gl_nil <| gx_then <| gc_seq <| gc_region <| gl_op <| op_rd rfl (rd_move rfl) <| gl_op <| op_rd rfl (rd_move rfl) <| gl_op (op_call rfl (vf := []) (vc := []) rfl rfl Tryd.call75 (fun w1 ho => indexPt_ok x n r0 p0 hl hpb bp bn w1 (hx.at ho) (hbp.at ho) (hbn.at ho)) ?_)
  rintro _ _ ⟨r, rfl, rfl, hr⟩
  refine gl_op <| op_rd rfl (rd_geq rfl rfl) <| gl_op <| op_rd rfl (rd_assign rfl) <| gl_nil <| gx_then <| gc_ret <| gx_ret1 (.inl rfl) Tryd.results40 rfl [] (by decide) ?_
  refine ⟨congrArg Value.bool ?_, rfl⟩
  rw [Bool.eq_iff_iff, ← hr]; simp
end Go.Proofs.YtbjijbbkfgcleaaDoor
namespace Go.Proofs.YtbjijbbkfgcleaaDoor
open Go.Gv
open Go.RowKit
open Go.Sn
open Sx
namespace Sx
theorem rd_lookupAct {dm : List Deferred} {P : Program} {n : Nat} {e : Env} {w0 : World} {S : List Nat} {l : List HL} {dst : Option Tmp} {ty : TypeId} {pos : String} {aft : Array Edge} {gd : Option (Nat × Bool)} (j : Nat) {t kt et : TypeId} {x y : Operand} {z : Value} {bb : Nat} {tb : List En} {q : Pl} {en : En} {size bytes : Nat} {f g : Field} {q1 q2 : IntKind} (he : findEn tb q = some en) (hj : l[j]? = some (.obj bb (actO tb))) (hu : P.underlying t = some (.map kt et)) (hk : I2 P kt f g q1 q2) (ht : TyF P et z size bytes) (hx : e.ev x = some (.map (some bb))) (hy : e.ev y = some (kv2 q.1 q.2)) :
    Rd P dm n e w0 S l ⟨dst, .lookup t x y false, ty, pos, aft, gd⟩ (.agg #[.int .i64 en.i, natV en.p.1, natV en.p.2]) := by
  have h := rd_lookupP (dm := dm) (n := n) (w0 := w0) (S := S) (dst := dst) (ty := ty) (pos := pos) (aft := aft) (gd := gd) j stpV (m := mpOf tb 0) (nb := tb.length) hj hu hk ht hx hy
  rw [mpOf_get, he] at h
  exact h
end Sx
open Sx
set_option maxRecDepth 100000 in
set_option maxHeartbeats 1000000 in
theorem Reverse_ok (xs : List Nat) (r : Option Nat) (c : Nat) (hl : xs.length ≤ 1000000) (S : List Nat) (w0 : World) (hown : Own w0 S w0 [.row 3 1 r xs.length c (xs.map natV)]) : Sp Tryd.prog 76 [.slice (rowA r) xs.length c] w0 S (fun v L => v = .tuple #[] ∧ L = [.row 3 1 r xs.length c (xs.reverse.map natV)]) := by
  obtain ⟨g, hrg⟩ : ∃ g, xs.length ≠ 0 → r = some g := by
    cases r with
    | none => exact ⟨0, fun h => absurd (hown.holds _ (List.mem_singleton.2 rfl)).2.1 h⟩
    | some g => exact ⟨g, fun _ => rfl⟩
  refine spec_enter Tryd.func76 rfl Tryd.ntmps76 rfl hown ?_
  simp only [argEnv]
  refine gc_seq <| gc_region <| gl_op <| op_rd rfl (rd_move rfl) <| gl_op <| op_rd rfl (rd_lenSlice Tryd.underlying29 rfl) <| gl_op (op_rd rfl (by exact rd_sub rfl rfl (by omega) (by omega)) ?_)
  refine gl_op <| op_rd rfl (rd_assign rfl) <| gl_op <| op_rd rfl (rd_assign rfl) <| gl_nil <| gx_then <| gc_block ?_
  rw [show (xs.length : Int) - 1 = (xs.length : Int) - 1 - ((0 : Nat) : Int) by omega]
  refine gc_loopF (ι := Nat × List Nat) [(0, _)] [] (fun q => 2 * q.1 ≤ xs.length + 1 ∧ Turned xs q.2 q.1) (fun q Fr0 => ((2, natV q.1) :: (3, .int .i64 ((xs.length : Int) - 1 - q.1)) :: Fr0)) (fun q Fr0 => (.row 3 1 r xs.length c (q.2.map natV) :: Fr0)) (fun q => xs.length + 1 - q.1) (0, xs) (⟨by simp only; omega, Turned.init xs⟩) ⟨rfl, rfl, rfl, trivial⟩ ⟨[0], by decide, rfl⟩ ?_
  rintro ⟨i, ys⟩ ⟨hi, ht⟩
  simp only at hi ht ⊢
  have hyl := ht.len
  refine gc_seq <| gc_seq <| gc_region <| gl_op <| op_rd rfl (rd_move rfl) <| gl_op <| op_rd rfl (rd_move rfl) <| gl_op (op_rd rfl (rd_lss rfl rfl) (gk_dec (fun h9 => ?_) (fun h9 => ?_)))
  · have hr9 := hrg (by omega)
    subst hr9
    obtain ⟨u, hu⟩ := get_some (show xs.length - 1 - i < ys.length by omega)
    obtain ⟨v, hv⟩ := get_some (show i < ys.length by omega)
    have hj9 : (xs.length : Int) - 1 - i = ((xs.length - 1 - i : Nat) : Int) := by omega
    rw [hj9]
    refine gl_nil <| gx_then <| gc_cond_t rfl <| gc_skip <| gx_then <| gc_seq <| gc_block <| gc_drawP [] false 15 rfl <| ga_first 0 (bm 16 1) rfl rfl rfl rfl (by kernel_rfl) (by kernel_rfl) ⟨[], by decide, rfl⟩ (qt_rd (rd_move rfl)) ?_
    refine ga_first 1 (bm 16 3) rfl rfl rfl rfl (by kernel_rfl) (by kernel_rfl) ⟨[], by decide, rfl⟩ (qt_rd (rd_move rfl)) ?_
    refine ga_first 2 (bm 16 7) rfl rfl rfl rfl (by kernel_rfl) (by kernel_rfl) ⟨[], by decide, rfl⟩ (qt_rd (rd_move rfl)) ?_
    refine ga_first 3 (bm 16 15) rfl rfl rfl rfl (by kernel_rfl) (by kernel_rfl) ⟨[], by decide, rfl⟩ (qt_rd (rd_move rfl)) ?_
    refine ga_first 4 (bm 16 31) rfl rfl rfl rfl (by kernel_rfl) (by kernel_rfl) ⟨[], by decide, rfl⟩ (qt_rd (rd_move rfl)) ?_
    refine ga_first 5 (bm 16 63) rfl rfl rfl rfl (by kernel_rfl) (by kernel_rfl) ⟨[], by decide, rfl⟩ (qt_rd (rd_move rfl)) ?_
    refine ga_first 6 (bm 16 127) rfl rfl rfl rfl (by kernel_rfl) (by kernel_rfl) ⟨[], by decide, rfl⟩ (qt_rd (rd_indexS1 Tryd.underlying29 ty_3 rfl rfl (by omega))) ?_
    refine ga_first 8 (bm 16 383) rfl rfl rfl rfl (by kernel_rfl) (by kernel_rfl) ⟨[], by decide, rfl⟩ (qt_rd (rd_move rfl)) ?_
    refine ga_first 9 (bm 16 895) rfl rfl rfl rfl (by kernel_rfl) (by kernel_rfl) ⟨[], by decide, rfl⟩ (qt_rd (rd_move rfl)) ?_
    refine ga_first 10 (bm 16 1919) rfl rfl rfl rfl (by kernel_rfl) (by kernel_rfl) ⟨[], by decide, rfl⟩ (qt_rd (rd_indexS1 Tryd.underlying29 ty_3 rfl rfl (by omega))) ?_
    refine ga_two 7 11 (bm 16 2047) (bm 16 3967) rfl rfl rfl rfl (by kernel_rfl) (by kernel_rfl) (by kernel_rfl) (.inr ⟨[], by decide, rfl⟩) ?_ ?_
    · refine (op_rd rfl (rd_load Tryd.underlying3 rfl rfl (ld_rowN 0 rfl (by rw [List.getElem?_map, hu]; rfl))) ?_)
      refine ga_only 11 (bm 16 4095) rfl rfl (by kernel_rfl) (by kernel_rfl) (.inr ⟨[], by decide, rfl⟩) (op_rd rfl (rd_load Tryd.underlying3 rfl rfl (ld_rowN 0 rfl (by rw [List.getElem?_map, hv]; rfl))) ?_)
      refine ga_first 12 (bm 16 8191) rfl rfl rfl rfl (by kernel_rfl) (by kernel_rfl) ⟨[], by decide, rfl⟩ (qt_rd (rd_indexS1 Tryd.underlying29 ty_3 rfl rfl (by omega))) ?_
      refine ga_only 13 (bm 16 16383) rfl rfl (by kernel_rfl) (by kernel_rfl) (.inr ⟨[], by decide, rfl⟩) (op_storeRowE 0 ty_3 rfl rfl rfl rfl (by rw [List.length_map]; omega) (by rw [← List.map_set]) (by rfl) ?_)
      refine ga_first 14 (bm 16 32767) rfl rfl rfl rfl (by kernel_rfl) (by kernel_rfl) ⟨[], by decide, rfl⟩ (qt_rd (rd_indexS1 Tryd.underlying29 ty_3 rfl rfl (by omega))) ?_
      refine ga_only 15 (bm 16 65535) rfl rfl (by kernel_rfl) (by kernel_rfl) (.inr ⟨[], by decide, rfl⟩) (op_storeRowE 0 ty_3 rfl rfl rfl rfl (by rw [List.length_map, List.length_set]; omega) (by rw [← List.map_set]) (by rfl) ?_)
      refine ga_end (by kernel_rfl) (.inl (by kernel_rfl)) ?_
      refine gx_block <| gx_then <| gc_region <| gl_op <| op_rd rfl (rd_move rfl) <| gl_op (op_rd rfl (by exact rd_addN (b := 1) rfl rfl (by omega)) ?_)
      refine gl_op <| op_rd rfl (rd_move rfl) <| gl_op (op_rd rfl (by exact rd_subN (b := 1) rfl rfl (by omega) (by omega)) ?_)
      refine gl_op <| op_rd rfl (rd_assign rfl) <| gl_op <| op_rd rfl (rd_assign rfl) <| gl_nil <| gx_then ?_
      exact gx_cut ((i + 1, (ys.set i u).set (xs.length - 1 - i) v)) ⟨⟨by simp only; omega, ht.step (by omega) hu hv⟩, by simp only; omega⟩ ⟨rfl, congrArg (fun z : Int => some (Value.int .i64 z)) (by simp only; omega), rfl, trivial⟩ ⟨[0], by decide, rfl⟩
    refine (op_rd rfl (rd_load Tryd.underlying3 rfl rfl (ld_rowN 0 rfl (by rw [List.getElem?_map, hv]; rfl))) ?_)
    refine ga_only 7 (bm 16 4095) rfl rfl (by kernel_rfl) (by kernel_rfl) (.inr ⟨[], by decide, rfl⟩) (op_rd rfl (rd_load Tryd.underlying3 rfl rfl (ld_rowN 0 rfl (by rw [List.getElem?_map, hu]; rfl))) ?_)
    refine ga_first 12 (bm 16 8191) rfl rfl rfl rfl (by kernel_rfl) (by kernel_rfl) ⟨[], by decide, rfl⟩ (qt_rd (rd_indexS1 Tryd.underlying29 ty_3 rfl rfl (by omega))) ?_
    refine ga_only 13 (bm 16 16383) rfl rfl (by kernel_rfl) (by kernel_rfl) (.inr ⟨[], by decide, rfl⟩) (op_storeRowE 0 ty_3 rfl rfl rfl rfl (by rw [List.length_map]; omega) (by rw [← List.map_set]) (by rfl) ?_)
    refine ga_first 14 (bm 16 32767) rfl rfl rfl rfl (by kernel_rfl) (by kernel_rfl) ⟨[], by decide, rfl⟩ (qt_rd (rd_indexS1 Tryd.underlying29 ty_3 rfl rfl (by omega))) ?_
    refine ga_only 15 (bm 16 65535) rfl rfl (by kernel_rfl) (by kernel_rfl) (.inr ⟨[], by decide, rfl⟩) (op_storeRowE 0 ty_3 rfl rfl rfl rfl (by rw [List.length_map, List.length_set]; omega) (by rw [← List.map_set]) (by rfl) ?_)
    refine ga_end (by kernel_rfl) (.inl (by kernel_rfl)) ?_
    refine gx_block <| gx_then <| gc_region <| gl_op <| op_rd rfl (rd_move rfl) <| gl_op (op_rd rfl (by exact rd_addN (b := 1) rfl rfl (by omega)) ?_)
    refine gl_op <| op_rd rfl (rd_move rfl) <| gl_op (op_rd rfl (by exact rd_subN (b := 1) rfl rfl (by omega) (by omega)) ?_)
    refine gl_op <| op_rd rfl (rd_assign rfl) <| gl_op <| op_rd rfl (rd_assign rfl) <| gl_nil <| gx_then ?_
    exact gx_cut ((i + 1, (ys.set i u).set (xs.length - 1 - i) v)) ⟨⟨by simp only; omega, ht.step (by omega) hu hv⟩, by simp only; omega⟩ ⟨rfl, congrArg (fun z : Int => some (Value.int .i64 z)) (by simp only; omega), rfl, trivial⟩ ⟨[0], by decide, rfl⟩
  refine gl_nil <| gx_then <| gc_cond_f rfl <| gc_exit <| gx_then_exit <| gx_then_exit <| gx_block_exit <| gx_ret0 (.inr rfl) Tryd.results76 [0] (by decide) ?_
  exact ⟨rfl, by rw [ht.done (by omega)]; rfl⟩
set_option maxRecDepth 100000 in
set_option maxHeartbeats 1000000 in
theorem chain_ok (nd b30 k27 c27 m28 : Nat) (tb : List En) (hlk : Lk tb) (q0 : Pl) (v0 : Pl × List Nat) (hv0 : tabOf tb q0 = some v0) (hc : v0.2.length ≤ 1000) (S : List Nat) (w0 : World) (hown : Own w0 S w0 [.blk b30 [.slice (rowA (some k27)) nd c27, .map (some m28)] 87, .obj m28 (actO tb)]) : Sp Tryd.prog 42 [.pointer (some ⟨b30, 0, none⟩), .agg #[natV q0.1, natV q0.2]] w0 S (fun v L => ∃ r c, v = .tuple #[.agg #[natV v0.1.1, natV v0.1.2], .slice (rowA r) v0.2.length c] ∧ L = [.blk b30 [.slice (rowA (some k27)) nd c27, .map (some m28)] 87, .obj m28 (actO tb), .row 3 1 r v0.2.length c (v0.2.map natV)]) := by
  refine spec_enter Tryd.func42 rfl Tryd.ntmps42 rfl hown ?_
  simp only [argEnv]
  refine gc_seq <| gc_region <| gl_op (op_box rfl rfl rfl (fun b3 => ?_))
  refine gl_op (op_alloc ty_110 rfl rfl (fun b4 => ?_))
  refine gl_op <| op_rd rfl (rd_assign rfl) <| gl_nil <| gx_then <| gc_seq <| gc_region <| gl_op <| op_rd rfl (rd_assign rfl) <| gl_nil <| gx_then <| gc_seq <| gc_block <| gk_nil 3 1 <| gc_loopF (ι := Pl × List Nat × Option Nat × Nat) [(0, _), (3, _), (4, _)] [_, _, _] (fun q => Back tb q0 q.1 q.2.1) (fun q Fr0 => ((6, .slice (rowA q.2.2.1) q.2.1.length q.2.2.2) :: Fr0)) (fun q Fr0 => (.blk b3 [natV q.1.1, natV q.1.2] 110 :: .row 3 1 q.2.2.1 q.2.1.length q.2.2.2 (q.2.1.map natV) :: Fr0)) (fun q => v0.2.length - q.2.1.length) (q0, [], none, 0) (Back.init hv0) ⟨rfl, rfl, rfl, rfl, trivial⟩ ⟨[2, 0, 1, 3, 4], by decide, rfl⟩ ?_
  rintro ⟨p, cs, r6, c6⟩ hb
  simp only at hb ⊢
  obtain ⟨en, hen⟩ := hb.find
  have hcl := hb.len hv0
  refine gc_seq <| gc_seq <| gc_drawP [0, 1, 2, 3, 4] true 7 rfl <| ga_first 0 (bm 8 1) rfl rfl rfl rfl (by kernel_rfl) (by kernel_rfl) ⟨[0, 1, 2, 3, 4], by decide, rfl⟩ (qt_rd (rd_move rfl)) ?_
  refine ga_first 1 (bm 8 3) rfl rfl rfl rfl (by kernel_rfl) (by kernel_rfl) ⟨[0, 1, 2, 3, 4], by decide, rfl⟩ (qt_rd (rd_nilCheck rfl)) ?_
  refine ga_first 2 (bm 8 7) rfl rfl rfl rfl (by kernel_rfl) (by kernel_rfl) ⟨[0, 1, 2, 3, 4], by decide, rfl⟩ (qt_rd (rd_fieldAddr rfl (fa_87_1 _))) ?_
  refine ga_first 3 (bm 8 15) rfl rfl rfl rfl (by kernel_rfl) (by kernel_rfl) ⟨[0, 1, 2, 3, 4], by decide, rfl⟩ (qt_rd (rd_load Tryd.underlying85 rfl rfl (by exact ld_blk 3 rfl rfl))) ?_
  refine ga_first 4 (bm 8 31) rfl rfl rfl rfl (by kernel_rfl) (by kernel_rfl) ⟨[0, 1, 2, 3, 4], by decide, rfl⟩ (qt_rd (rd_loadAgg Tryd.underlying110 rfl ty_110 rfl (by exact cs_blk 0 (off := 0) (k := 2) rfl rfl) rfl)) ?_
  refine ga_first 5 (bm 8 63) rfl rfl rfl rfl (by kernel_rfl) (by kernel_rfl) ⟨[0, 1, 2, 3, 4], by decide, rfl⟩ (qt_rd (rd_lookupAct 4 hen rfl Tryd.underlying85 i2_place ty_122 rfl rfl)) ?_
  refine ga_first 6 (bm 8 127) rfl rfl rfl rfl (by kernel_rfl) (by kernel_rfl) ⟨[0, 1, 2, 3, 4], by decide, rfl⟩ (qt_rd (rd_field rfl (fd_122_0 _ _ _))) ?_
  refine ga_first 7 (bm 8 255) rfl rfl rfl rfl (by kernel_rfl) (by kernel_rfl) ⟨[0, 1, 2, 3, 4], by decide, rfl⟩ (qt_rd (rd_geq rfl rfl)) (gk_dec (fun h14 => ?_) (fun h14 => ?_))
  · have hin : en.i = ((en.i.toNat : Nat) : Int) := by omega
    refine ga_end (by kernel_rfl) (.inr ⟨[0, 1, 2, 3, 4], by decide, rfl⟩) ?_
    refine gx_then <| gc_cond_t rfl <| gc_skip <| gx_then <| gc_block <| gc_seq <| gc_drawP [0, 2, 3, 4] false 10 rfl <| ga_first 0 (bm 11 1) rfl rfl rfl rfl (by kernel_rfl) (by kernel_rfl) ⟨[0, 2, 3, 4], by decide, rfl⟩ (qt_rd (rd_move rfl)) ?_
    refine ga_first 1 (bm 11 3) rfl rfl rfl rfl (by kernel_rfl) (by kernel_rfl) ⟨[0, 2, 3, 4], by decide, rfl⟩ (qt_rd (rd_move rfl)) ?_
    refine ga_first 2 (bm 11 7) rfl rfl rfl rfl (by kernel_rfl) (by kernel_rfl) ⟨[0, 2, 3, 4], by decide, rfl⟩ (qt_rd (rd_nilCheck rfl)) ?_
    refine ga_first 3 (bm 11 15) rfl rfl rfl rfl (by kernel_rfl) (by kernel_rfl) ⟨[0, 2, 3, 4], by decide, rfl⟩ (qt_rd (rd_fieldAddr rfl (fa_87_1 _))) ?_
    refine ga_first 4 (bm 11 31) rfl rfl rfl rfl (by kernel_rfl) (by kernel_rfl) ⟨[0, 2, 3, 4], by decide, rfl⟩ (qt_rd (rd_load Tryd.underlying85 rfl rfl (by exact ld_blk 2 rfl rfl))) ?_
    refine ga_first 5 (bm 11 63) rfl rfl rfl rfl (by kernel_rfl) (by kernel_rfl) ⟨[0, 2, 3, 4], by decide, rfl⟩ (qt_rd (rd_loadAgg Tryd.underlying110 rfl ty_110 rfl (by exact cs_blk 0 (off := 0) (k := 2) rfl rfl) rfl)) ?_
    refine ga_first 6 (bm 11 127) rfl rfl rfl rfl (by kernel_rfl) (by kernel_rfl) ⟨[0, 2, 3, 4], by decide, rfl⟩ (qt_rd (rd_lookupAct 3 hen rfl Tryd.underlying85 i2_place ty_122 rfl rfl)) ?_
    refine ga_first 7 (bm 11 255) rfl rfl rfl rfl (by kernel_rfl) (by kernel_rfl) ⟨[0, 2, 3, 4], by decide, rfl⟩ (qt_rd (rd_field rfl (fd_122_0 _ _ _))) ?_
    refine ga_only 8 (bm 11 511) rfl rfl (by kernel_rfl) (by kernel_rfl) (.inr ⟨[0, 2, 3, 4], by decide, rfl⟩) (op_buildSlice (sz := 1) rfl rfl (fun _ => bs_29_1_0 _) rfl rfl (fun b23 => ?_))
    refine ga_only 9 (bm 11 1023) rfl rfl (by kernel_rfl) (by kernel_rfl) (.inr ⟨[1, 3, 4, 5], by decide, rfl⟩) (op_appendRow 2 0 Tryd.underlying29 ty_3 rfl (by decide) rfl rfl rfl rfl rfl (by simp [Value.oneCell']) (by omega) (by omega) (fun _ => (by rfl)) (fun r24 c24 => ?_))
    refine ga_only 10 (bm 11 2047) rfl rfl (by kernel_rfl) (by kernel_rfl) (.inr ⟨[1, 3, 4, 5], by decide, rfl⟩) (op_rd rfl (rd_assign rfl) ?_)
    refine ga_end (by kernel_rfl) (.inl (by kernel_rfl)) ?_
    refine gx_then ?_
    rw [show cs.map natV ++ [.int .i64 en.i] = (cs ++ [en.i.toNat]).map natV by rw [List.map_append]; show _ = _ ++ [natV en.i.toNat]; rw [show natV en.i.toNat = .int .i64 en.i from congrArg (Value.int .i64) hin.symm], show cs.length + 1 = (cs ++ [en.i.toNat]).length by simp]
    refine gc_drawP [0, 2, 3, 4, 5] false 7 rfl <| ga_first 0 (bm 8 1) rfl rfl rfl rfl (by kernel_rfl) (by kernel_rfl) ⟨[0, 2, 3, 4, 5], by decide, rfl⟩ (qt_rd (rd_move rfl)) ?_
    refine ga_first 1 (bm 8 3) rfl rfl rfl rfl (by kernel_rfl) (by kernel_rfl) ⟨[0, 2, 3, 4, 5], by decide, rfl⟩ (qt_rd (rd_nilCheck rfl)) ?_
    refine ga_first 2 (bm 8 7) rfl rfl rfl rfl (by kernel_rfl) (by kernel_rfl) ⟨[0, 2, 3, 4, 5], by decide, rfl⟩ (qt_rd (rd_fieldAddr rfl (fa_87_1 _))) ?_
    refine ga_first 3 (bm 8 15) rfl rfl rfl rfl (by kernel_rfl) (by kernel_rfl) ⟨[0, 2, 3, 4, 5], by decide, rfl⟩ (qt_rd (rd_load Tryd.underlying85 rfl rfl (by exact ld_blk 3 rfl rfl))) ?_
    refine ga_only 4 (bm 8 31) rfl rfl (by kernel_rfl) (by kernel_rfl) (.inr ⟨[0, 2, 3, 4, 5], by decide, rfl⟩) (op_rd rfl (rd_loadAgg Tryd.underlying110 rfl ty_110 rfl (by exact cs_blk 1 (off := 0) (k := 2) rfl rfl) rfl) ?_)
    refine ga_first 5 (bm 8 63) rfl rfl rfl rfl (by kernel_rfl) (by kernel_rfl) ⟨[0, 2, 3, 4, 5], by decide, rfl⟩ (qt_rd (rd_lookupAct 4 hen rfl Tryd.underlying85 i2_place ty_122 rfl rfl)) ?_
    refine ga_first 6 (bm 8 127) rfl rfl rfl rfl (by kernel_rfl) (by kernel_rfl) ⟨[0, 2, 3, 4, 5], by decide, rfl⟩ (qt_rd (rd_field rfl (fd_122_1 _ _ _))) ?_
    refine ga_only 7 (bm 8 255) rfl rfl (by kernel_rfl) (by kernel_rfl) (.inr ⟨[0, 2, 3, 4, 5], by decide, rfl⟩) (op_storeAgg 1 ty_110 rfl rfl rfl rfl rfl rfl (by rfl) ?_)
    refine ga_end (by kernel_rfl) (.inl (by kernel_rfl)) ?_
    refine gx_block <| gx_then ?_
    exact gx_cut ((en.p, cs ++ [en.i.toNat], r24, c24)) ⟨hb.step hlk hen (by omega), by have h9 := (hb.step hlk hen (by omega)).len hv0; simp only [List.length_append, List.length_cons, List.length_nil] at h9 ⊢; omega⟩ ⟨rfl, rfl, rfl, rfl, trivial⟩ ⟨[1, 2, 3, 4, 5], by decide, rfl⟩
  refine ga_end (by kernel_rfl) (.inr ⟨[0, 1, 2, 3, 4], by decide, rfl⟩) ?_
  refine gx_then <| gc_cond_f rfl <| gc_exit <| gx_then_exit <| gx_then_exit <| gx_block_exit <| gx_then <| gc_seq <| gc_region <| gl_op <| op_rd rfl (rd_move rfl) <| gl_op (op_callM [1] [0, 2, 3, 4] rfl (vf := []) (vc := []) rfl rfl Tryd.call76 (by decide) rfl (fun w how hc => Reverse_ok cs r6 c6 (by omega) _ w hc) ?_)
  rintro _ _ ⟨rfl, rfl⟩
  refine gl_nil <| gx_then <| gc_seq <| gc_region <| gl_op (op_rd rfl (rd_loadAgg Tryd.underlying110 rfl ty_110 rfl (by exact cs_blk 1 (off := 0) (k := 2) rfl rfl) rfl) ?_)
  refine gl_op <| op_rd rfl (rd_move rfl) <| gl_op (op_storeAgg 2 ty_110 rfl rfl rfl rfl rfl rfl (by rfl) ?_)
  refine gl_op <| op_rd rfl (rd_assign rfl) <| gl_nil <| gx_then <| gc_ret <| gx_retV2 (.inl rfl) Tryd.results42 (rv_agg Tryd.underlying110 rfl ty_110 rfl (by rfl) (cs_blk 2 (off := 0) (k := 2) rfl rfl)) (rv_tmp rfl) [3, 4, 0] (by decide) ?_
  have hd := hb.done hlk hen (by omega)
  rw [hv0] at hd
  simp only [Option.some.injEq] at hd
  subst hd
  exact ⟨r6, c6, by simp only [List.length_reverse]; rfl, by simp only [List.length_reverse]; rfl⟩
end Go.Proofs.YtbjijbbkfgcleaaDoor
namespace Go.Proofs.YtbjijbbkfgcleaaDoor
open Go.Gv
open Go.RowKit
open Go.Sn
open Sx
namespace Sx
theorem i2_pipe : I2 Tryd.prog 42 (Tryd.prog.fieldsOf 42)[0]! (Tryd.prog.fieldsOf 42)[1]! .i64 .i64 := ⟨by kernel_rfl, by kernel_rfl, by kernel_rfl, by kernel_rfl, by kernel_rfl, by kernel_rfl, by kernel_rfl, by kernel_rfl⟩
theorem sameIntsN_ok (xs ys : List Nat) (a b : Option Addr) (ca cb : Nat) (hxl : xs.length ≤ 140737488355328) (w0 : World) (hx : OldSl w0 [] a xs.length 1 (xs.map natV)) (hy : OldSl w0 [] b ys.length 1 (ys.map natV)) : Sp Tryd.prog 16 [.slice a xs.length ca, .slice b ys.length cb] w0 [] (RV (.bool (decide (xs = ys)))) := by
  have h := SameInts_ok (xs.map fun n : Nat => (n : Int)) (ys.map fun n : Nat => (n : Int)) a b ca cb (by rw [List.length_map]; exact hxl) w0 (by rw [List.length_map, natI]; exact hx) (by rw [List.length_map, natI]; exact hy)
  rw [List.length_map, List.length_map, show decide ((xs.map fun n : Nat => (n : Int)) = (ys.map fun n : Nat => (n : Int))) = decide (xs = ys) from decide_eq_decide.2 castL_inj] at h
  exact h
end Sx
open Sx
set_option maxRecDepth 100000 in
set_option maxHeartbeats 1000000 in
theorem SamePipes_ok (xs ys : List Pl) (a b : Option Addr) (ca cb : Nat) (hxl : xs.length ≤ 1000000) (w0 : World) (hx : OldSl w0 [] a xs.length 2 (xs.flatMap plC)) (hy : OldSl w0 [] b ys.length 2 (ys.flatMap plC)) : Sp Tryd.prog 29 [.slice a xs.length ca, .slice b ys.length cb] w0 [] (RV (.bool (decide (xs = ys)))) := by
  refine spec_enter Tryd.func29 rfl Tryd.ntmps29 rfl (Own.refl _) ?_
  simp only [argEnv]
  refine gc_seq <| gc_region <| gl_op <| op_rd rfl (rd_assign rfl) <| gl_nil <| gx_then <| gc_seq <| gc_seq <| gc_region <| gl_op <| op_rd rfl (rd_move rfl) <| gl_op <| op_rd rfl (rd_lenSlice Tryd.underlying49 rfl) <| gl_op <| op_rd rfl (rd_move rfl) <| gl_op <| op_rd rfl (rd_lenSlice Tryd.underlying49 rfl) <| gl_op (op_rd rfl (rd_neq rfl rfl) (gk_dec (fun h10 => ?_) (fun h10 => ?_)))
  · refine gl_nil <| gx_then <| gc_cond_t rfl <| gc_seq <| gc_region <| gl_op <| op_rd rfl (rd_assign rfl) <| gl_nil <| gx_then <| gc_ret <| gx_then_ret <| gx_ret1 (.inl rfl) Tryd.results29 rfl [] (by decide) ?_
    refine ⟨congrArg Value.bool (Eq.symm ?_), rfl⟩
    exact decide_eq_false (fun e => by subst e; omega)
  refine gl_nil <| gx_then <| gc_cond_f rfl <| gc_skip <| gx_then <| gc_seq <| gc_seq <| gc_region <| gl_op <| op_rd rfl (rd_assign rfl) <| gl_nil <| gx_then <| gc_block <| gc_loopF (ι := Nat) [(0, _), (1, _)] [] (fun k => k ≤ xs.length ∧ xs.take k = ys.take k) (fun k Fr0 => ((5, natV k) :: Fr0)) (fun k Fr0 => Fr0) (fun k => xs.length - k) 0 (⟨Nat.zero_le _, rfl⟩) ⟨rfl, rfl, rfl, trivial⟩ ⟨[], by decide, rfl⟩ ?_
  rintro k ⟨hk, htk⟩
  refine gc_seq <| gc_seq <| gc_region <| gl_op <| op_rd rfl (rd_move rfl) <| gl_op <| op_rd rfl (rd_move rfl) <| gl_op <| op_rd rfl (rd_lenSlice Tryd.underlying49 rfl) <| gl_op (op_rd rfl (rd_lss rfl rfl) (gk_dec (fun h14 => ?_) (fun h14 => ?_)))
  · obtain ⟨u, hu⟩ := get_some (show k < xs.length by omega)
    obtain ⟨v, hv⟩ := get_some (show k < ys.length by omega)
    refine gl_nil <| gx_then <| gc_cond_t rfl <| gc_skip <| gx_then <| gc_seq <| gc_block <| gc_seq <| gc_drawP [] true 8 rfl <| ga_first 0 (bm 9 1) rfl rfl rfl rfl (by kernel_rfl) (by kernel_rfl) ⟨[], by decide, rfl⟩ (qt_rd (rd_move rfl)) ?_
    refine ga_first 1 (bm 9 3) rfl rfl rfl rfl (by kernel_rfl) (by kernel_rfl) ⟨[], by decide, rfl⟩ (qt_rd (rd_move rfl)) ?_
    refine ga_first 2 (bm 9 7) rfl rfl rfl rfl (by kernel_rfl) (by kernel_rfl) ⟨[], by decide, rfl⟩ (qt_rd (rd_indexOld hx Tryd.underlying49 ty_42 rfl rfl (by omega) (by omega))) ?_
    refine ga_first 3 (bm 9 15) rfl rfl rfl rfl (by kernel_rfl) (by kernel_rfl) ⟨[], by decide, rfl⟩ (qt_rd (rd_loadAgg Tryd.underlying42 rfl ty_42 rfl (cs_slN hx (flat_drop_get plC 2 (fun _ => rfl) hu)) rfl)) ?_
    refine ga_first 4 (bm 9 31) rfl rfl rfl rfl (by kernel_rfl) (by kernel_rfl) ⟨[], by decide, rfl⟩ (qt_rd (rd_move rfl)) ?_
    refine ga_first 5 (bm 9 63) rfl rfl rfl rfl (by kernel_rfl) (by kernel_rfl) ⟨[], by decide, rfl⟩ (qt_rd (rd_move rfl)) ?_
    refine ga_first 6 (bm 9 127) rfl rfl rfl rfl (by kernel_rfl) (by kernel_rfl) ⟨[], by decide, rfl⟩ (qt_rd (rd_indexOld hy Tryd.underlying49 ty_42 rfl rfl (by omega) (by omega))) ?_
    refine ga_first 7 (bm 9 255) rfl rfl rfl rfl (by kernel_rfl) (by kernel_rfl) ⟨[], by decide, rfl⟩ (qt_rd (rd_loadAgg Tryd.underlying42 rfl ty_42 rfl (cs_slN hy (flat_drop_get plC 2 (fun _ => rfl) hv)) rfl)) ?_
    refine ga_first 8 (bm 9 511) rfl rfl rfl rfl (by kernel_rfl) (by kernel_rfl) ⟨[], by decide, rfl⟩ (qt_rd (rd_neqI2 (a := (u.1 : Int)) (b := (u.2 : Int)) (c := (v.1 : Int)) (d := (v.2 : Int)) i2_pipe (by kernel_rfl) rfl rfl)) ?_
    refine gk_bool (fun h25 => ?_) (fun h25 => ?_)
    · have huv : ¬ ((u.1 : Int) = v.1 ∧ (u.2 : Int) = v.2) := fun e => by rw [decide_eq_true e] at h25; cases h25
      refine ga_end (by kernel_rfl) (.inr ⟨[], by decide, rfl⟩) ?_
      refine gx_then <| gc_cond_t rfl <| gc_seq <| gc_region <| gl_op <| op_rd rfl (rd_assign rfl) <| gl_nil <| gx_then <| gc_ret <| gx_block_ret <| gx_then_ret <| gx_then_ret <| gx_block_ret <| gx_then_ret <| gx_ret1 (.inl rfl) Tryd.results29 rfl [] (by decide) ?_
      refine ⟨congrArg Value.bool (Eq.symm ?_), rfl⟩
      exact decide_eq_false (fun e => by subst e; rw [hu] at hv; cases hv; exact huv ⟨rfl, rfl⟩)
    have huv : (u.1 : Int) = v.1 ∧ (u.2 : Int) = v.2 := by simpa using h25
    refine ga_end (by kernel_rfl) (.inr ⟨[], by decide, rfl⟩) ?_
    refine gx_then <| gc_cond_f rfl <| gc_skip <| gx_block <| gx_then <| gc_region <| gl_op <| op_rd rfl (rd_move rfl) <| gl_op (op_rd rfl (by exact rd_addN (b := 1) rfl rfl (by omega)) ?_)
    refine gl_op <| op_rd rfl (rd_assign rfl) <| gl_nil <| gx_then ?_
    exact gx_cut (k + 1) ⟨⟨by omega, by rw [take_at hu, take_at hv, htk, show u = v from Prod.ext (by have := huv.1; omega) (by have := huv.2; omega)]⟩, by omega⟩ ⟨rfl, rfl, rfl, trivial⟩ ⟨[], by decide, rfl⟩
  refine gl_nil <| gx_then <| gc_cond_f rfl <| gc_exit <| gx_then_exit <| gx_then_exit <| gx_block_exit <| gx_then <| gc_seq <| gc_region <| gl_op <| op_rd rfl (rd_assign rfl) <| gl_nil <| gx_then <| gc_ret <| gx_ret1 (.inl rfl) Tryd.results29 rfl [] (by decide) ?_
  refine ⟨congrArg Value.bool (Eq.symm ?_), rfl⟩
  rw [List.take_of_length_le (by omega), List.take_of_length_le (by omega)] at htk
  exact decide_eq_true htk
set_option maxRecDepth 100000 in
set_option maxHeartbeats 1000000 in
theorem SameReason_ok (u v : Rsn) (a b : Option Addr) (ca cb : Nat) (hl : u.ch.length ≤ 140737488355328) (w0 : World) (hx : OldSl w0 [] a u.ch.length 1 (u.ch.map natV)) (hy : OldSl w0 [] b v.ch.length 1 (v.ch.map natV)) : Sp Tryd.prog 19 [u.val a ca, v.val b cb] w0 [] (RV (.bool (decide (u = v)))) := by
  refine spec_enter Tryd.func19 rfl Tryd.ntmps19 rfl (Own.refl _) ?_
  simp only [argEnv]
  refine gc_seq <| gc_region <| gl_op (op_box rfl rfl rfl (fun b2 => ?_))
  refine gl_op (op_box rfl rfl rfl (fun b3 => ?_))
  refine gl_op <| op_rd rfl (rd_assign rfl) <| gl_nil <| gx_then <| gc_seq <| gc_region <| gl_op <| op_rd rfl (rd_fieldAddr rfl (fa_44_0 _)) <| gl_op (op_rd rfl (rd_load Tryd.underlying3 rfl rfl (by exact ld_blk 1 rfl rfl)) ?_)
  refine gl_op <| op_rd rfl (rd_fieldAddr rfl (fa_44_0 _)) <| gl_op (op_rd rfl (rd_load Tryd.underlying3 rfl rfl (by exact ld_blk 0 rfl rfl)) ?_)
  refine gl_op (op_rd rfl (rd_eql rfl rfl) (gk_dec (fun h9 => ?_) (fun h9 => ?_)))
  · refine gl_op <| op_rd rfl (rd_move rfl) <| gl_yes rfl rfl <| op_rd rfl (rd_fieldAddr rfl (fa_44_1 _)) <| gl_yes rfl rfl (op_rd rfl (rd_load Tryd.underlying3 rfl rfl (by exact ld_blk 1 rfl rfl)) ?_)
    refine gl_yes rfl rfl <| op_rd rfl (rd_fieldAddr rfl (fa_44_1 _)) <| gl_yes rfl rfl (op_rd rfl (rd_load Tryd.underlying3 rfl rfl (by exact ld_blk 0 rfl rfl)) ?_)
    refine gl_yes rfl rfl (op_rd rfl (rd_eql rfl rfl) (gk_dec (fun h15 => ?_) (fun h15 => ?_)))
    · refine gl_op <| op_rd rfl (rd_pick_t rfl rfl) <| gl_op <| op_rd rfl (rd_move rfl) <| gl_yes rfl rfl <| op_rd rfl (rd_fieldAddr rfl (fa_44_3 _)) <| gl_yes rfl rfl (op_rd rfl (rd_load Tryd.underlying3 rfl rfl (by exact ld_blk 1 rfl rfl)) ?_)
      refine gl_yes rfl rfl <| op_rd rfl (rd_fieldAddr rfl (fa_44_3 _)) <| gl_yes rfl rfl (op_rd rfl (rd_load Tryd.underlying3 rfl rfl (by exact ld_blk 0 rfl rfl)) ?_)
      refine gl_yes rfl rfl (op_rd rfl (rd_eql rfl rfl) (gk_dec (fun h22 => ?_) (fun h22 => ?_)))
      · refine gl_op <| op_rd rfl (rd_pick_t rfl rfl) <| gl_op <| op_rd rfl (rd_move rfl) <| gl_yes rfl rfl <| op_rd rfl (rd_fieldAddr rfl (fa_44_4 _)) <| gl_yes rfl rfl (op_rd rfl (rd_load Tryd.underlying3 rfl rfl (by exact ld_blk 1 rfl rfl)) ?_)
        refine gl_yes rfl rfl <| op_rd rfl (rd_fieldAddr rfl (fa_44_4 _)) <| gl_yes rfl rfl (op_rd rfl (rd_load Tryd.underlying3 rfl rfl (by exact ld_blk 0 rfl rfl)) ?_)
        refine gl_yes rfl rfl (op_rd rfl (rd_eql rfl rfl) (gk_dec (fun h29 => ?_) (fun h29 => ?_)))
        · refine gl_op <| op_rd rfl (rd_pick_t rfl rfl) <| gl_op <| op_rd rfl (rd_move rfl) <| gl_yes rfl rfl <| op_rd rfl (rd_fieldAddr rfl (fa_44_5 _)) <| gl_yes rfl rfl (op_rd rfl (rd_load Tryd.underlying3 rfl rfl (by exact ld_blk 1 rfl rfl)) ?_)
          refine gl_yes rfl rfl <| op_rd rfl (rd_fieldAddr rfl (fa_44_5 _)) <| gl_yes rfl rfl (op_rd rfl (rd_load Tryd.underlying3 rfl rfl (by exact ld_blk 0 rfl rfl)) ?_)
          refine gl_yes rfl rfl (op_rd rfl (rd_eql rfl rfl) (gk_dec (fun h36 => ?_) (fun h36 => ?_)))
          · refine gl_op <| op_rd rfl (rd_pick_t rfl rfl) <| gl_op <| op_rd rfl (rd_move rfl) <| gl_yes rfl rfl <| op_rd rfl (rd_fieldAddr rfl (fa_44_2 _)) <| gl_yes rfl rfl (op_rd rfl (rd_load Tryd.underlying29 rfl rfl (by exact ld_blk 1 rfl rfl)) ?_)
            refine gl_yes rfl rfl <| op_rd rfl (rd_fieldAddr rfl (fa_44_2 _)) <| gl_yes rfl rfl (op_rd rfl (rd_load Tryd.underlying29 rfl rfl (by exact ld_blk 0 rfl rfl)) ?_)
            refine gl_yes rfl rfl (op_call rfl (vf := []) (vc := []) rfl rfl Tryd.call16 (fun w1 ho => sameIntsN_ok u.ch v.ch a b ca cb hl w1 (hx.at ho) (hy.at ho)) ?_)
            rintro _ _ ⟨rfl, rfl⟩
            refine gl_op <| op_rd rfl (rd_pick_t rfl rfl) <| gl_op <| op_rd rfl (rd_assign rfl) <| gl_nil <| gx_then <| gc_ret <| gx_ret1 (.inl rfl) Tryd.results19 rfl [] (by decide) ?_
            refine ⟨congrArg Value.bool ?_, rfl⟩
            rw [Bool.eq_iff_iff, decide_eq_true_eq, decide_eq_true_eq]
            constructor
            · intro e
              obtain ⟨u1, u2, u3, u4, u5, u6⟩ := u
              obtain ⟨v1, v2, v3, v4, v5, v6⟩ := v
              simp only at h9 h15 h22 h29 h36 e
              simp only [Rsn.mk.injEq]
              exact ⟨by omega, by omega, e, by omega, by omega, by omega⟩
            · rintro rfl; rfl
          have hne : decide (u = v) = false := decide_eq_false (fun e => by subst e; omega)
          refine gl_op <| op_rd rfl (rd_pick_t rfl rfl) <| gl_op <| op_rd rfl (rd_move rfl) <| gl_no rfl rfl rfl <| gl_no rfl rfl rfl <| gl_no rfl rfl rfl <| gl_no rfl rfl rfl <| gl_no rfl rfl rfl <| gl_op <| op_rd rfl (rd_pick_f rfl rfl) <| gl_op <| op_rd rfl (rd_assign rfl) <| gl_nil <| gx_then <| gc_ret <| gx_ret1 (.inl rfl) Tryd.results19 rfl [] (by decide) ?_
          exact ⟨congrArg Value.bool hne.symm, rfl⟩
        have hne : decide (u = v) = false := decide_eq_false (fun e => by subst e; omega)
        refine gl_op <| op_rd rfl (rd_pick_t rfl rfl) <| gl_op <| op_rd rfl (rd_move rfl) <| gl_no rfl rfl rfl <| gl_no rfl rfl rfl <| gl_no rfl rfl rfl <| gl_no rfl rfl rfl <| gl_no rfl rfl rfl <| gl_op <| op_rd rfl (rd_pick_f rfl rfl) <| gl_op <| op_rd rfl (rd_move rfl) <| gl_no rfl rfl rfl <| gl_no rfl rfl rfl <| gl_no rfl rfl rfl <| gl_no rfl rfl rfl <| gl_no rfl rfl rfl <| gl_op <| op_rd rfl (rd_pick_f rfl rfl) <| gl_op <| op_rd rfl (rd_assign rfl) <| gl_nil <| gx_then <| gc_ret <| gx_ret1 (.inl rfl) Tryd.results19 rfl [] (by decide) ?_
        exact ⟨congrArg Value.bool hne.symm, rfl⟩
      have hne : decide (u = v) = false := decide_eq_false (fun e => by subst e; omega)
      refine gl_op <| op_rd rfl (rd_pick_t rfl rfl) <| gl_op <| op_rd rfl (rd_move rfl) <| gl_no rfl rfl rfl <| gl_no rfl rfl rfl <| gl_no rfl rfl rfl <| gl_no rfl rfl rfl <| gl_no rfl rfl rfl <| gl_op <| op_rd rfl (rd_pick_f rfl rfl) <| gl_op <| op_rd rfl (rd_move rfl) <| gl_no rfl rfl rfl <| gl_no rfl rfl rfl <| gl_no rfl rfl rfl <| gl_no rfl rfl rfl <| gl_no rfl rfl rfl <| gl_op <| op_rd rfl (rd_pick_f rfl rfl) <| gl_op <| op_rd rfl (rd_move rfl) <| gl_no rfl rfl rfl <| gl_no rfl rfl rfl <| gl_no rfl rfl rfl <| gl_no rfl rfl rfl <| gl_no rfl rfl rfl <| gl_op <| op_rd rfl (rd_pick_f rfl rfl) <| gl_op <| op_rd rfl (rd_assign rfl) <| gl_nil <| gx_then ?_
      refine gc_ret <| gx_ret1 (.inl rfl) Tryd.results19 rfl [] (by decide) ?_
      exact ⟨congrArg Value.bool hne.symm, rfl⟩
    have hne : decide (u = v) = false := decide_eq_false (fun e => by subst e; omega)
    refine gl_op <| op_rd rfl (rd_pick_t rfl rfl) <| gl_op <| op_rd rfl (rd_move rfl) <| gl_no rfl rfl rfl <| gl_no rfl rfl rfl <| gl_no rfl rfl rfl <| gl_no rfl rfl rfl <| gl_no rfl rfl rfl <| gl_op <| op_rd rfl (rd_pick_f rfl rfl) <| gl_op <| op_rd rfl (rd_move rfl) <| gl_no rfl rfl rfl <| gl_no rfl rfl rfl <| gl_no rfl rfl rfl <| gl_no rfl rfl rfl <| gl_no rfl rfl rfl <| gl_op <| op_rd rfl (rd_pick_f rfl rfl) <| gl_op <| op_rd rfl (rd_move rfl) <| gl_no rfl rfl rfl <| gl_no rfl rfl rfl <| gl_no rfl rfl rfl <| gl_no rfl rfl rfl <| gl_no rfl rfl rfl <| gl_op <| op_rd rfl (rd_pick_f rfl rfl) <| gl_op <| op_rd rfl (rd_move rfl) <| gl_no rfl rfl rfl <| gl_no rfl rfl rfl ?_
    refine gl_no rfl rfl rfl <| gl_no rfl rfl rfl <| gl_no rfl rfl rfl <| gl_op <| op_rd rfl (rd_pick_f rfl rfl) <| gl_op <| op_rd rfl (rd_assign rfl) <| gl_nil <| gx_then <| gc_ret <| gx_ret1 (.inl rfl) Tryd.results19 rfl [] (by decide) ?_
    exact ⟨congrArg Value.bool hne.symm, rfl⟩
  have hne : decide (u = v) = false := decide_eq_false (fun e => by subst e; omega)
  refine gl_op <| op_rd rfl (rd_move rfl) <| gl_no rfl rfl rfl <| gl_no rfl rfl rfl <| gl_no rfl rfl rfl <| gl_no rfl rfl rfl <| gl_no rfl rfl rfl <| gl_op <| op_rd rfl (rd_pick_f rfl rfl) <| gl_op <| op_rd rfl (rd_move rfl) <| gl_no rfl rfl rfl <| gl_no rfl rfl rfl <| gl_no rfl rfl rfl <| gl_no rfl rfl rfl <| gl_no rfl rfl rfl <| gl_op <| op_rd rfl (rd_pick_f rfl rfl) <| gl_op <| op_rd rfl (rd_move rfl) <| gl_no rfl rfl rfl <| gl_no rfl rfl rfl <| gl_no rfl rfl rfl <| gl_no rfl rfl rfl <| gl_no rfl rfl rfl <| gl_op <| op_rd rfl (rd_pick_f rfl rfl) <| gl_op <| op_rd rfl (rd_move rfl) <| gl_no rfl rfl rfl <| gl_no rfl rfl rfl <| gl_no rfl rfl rfl ?_
  refine gl_no rfl rfl rfl <| gl_no rfl rfl rfl <| gl_op <| op_rd rfl (rd_pick_f rfl rfl) <| gl_op <| op_rd rfl (rd_move rfl) <| gl_no rfl rfl rfl <| gl_no rfl rfl rfl <| gl_no rfl rfl rfl <| gl_no rfl rfl rfl <| gl_no rfl rfl rfl <| gl_op <| op_rd rfl (rd_pick_f rfl rfl) <| gl_op <| op_rd rfl (rd_assign rfl) <| gl_nil <| gx_then <| gc_ret <| gx_ret1 (.inl rfl) Tryd.results19 rfl [] (by decide) ?_
  exact ⟨congrArg Value.bool hne.symm, rfl⟩
set_option maxRecDepth 100000 in
set_option maxHeartbeats 1000000 in
theorem flutes_ok (ns : List Nat) (a : Option Addr) (ca : Nat) (hl : ns.length ≤ 1000) (w0 : World) (hx : OldSl w0 [] a ns.length 1 (ns.map natV)) : Sp Tryd.prog 30 [.slice a ns.length ca] w0 [] (fun v L => ∃ r c, v = .slice (rowA r) ns.length c ∧ L = [.row 42 2 r ns.length c ((flutesP ns).flatMap plC)]) := by
  refine spec_enter Tryd.func30 rfl Tryd.ntmps30 rfl (Own.refl _) ?_
  simp only [argEnv]
  refine gc_seq <| gc_region <| gl_op <| op_rd rfl (rd_assign rfl) <| gl_nil <| gx_then <| gc_seq <| gc_region <| gl_op <| op_rd rfl (rd_assign rfl) <| gl_nil <| gx_then <| gc_seq <| gc_seq <| gc_region <| gl_op <| op_rd rfl (rd_assign rfl) <| gl_nil <| gx_then <| gc_block <| gk_nil 42 2 <| gc_loopF (ι := Nat × Option Nat × Nat) [(0, _)] [] (fun q => q.1 ≤ ns.length) (fun q Fr0 => ((3, .slice (rowA q.2.1) q.1 q.2.2) :: (4, natV q.1) :: Fr0)) (fun q Fr0 => (.row 42 2 q.2.1 q.1 q.2.2 ((flutesP (ns.take q.1)).flatMap plC) :: Fr0)) (fun q => ns.length - q.1) (0, none, 0) (Nat.zero_le _) ⟨rfl, rfl, rfl, trivial⟩ ⟨[0], by decide, rfl⟩ ?_
  rintro ⟨k, r3, c3⟩ hk
  simp only at hk ⊢
  refine gc_seq <| gc_seq <| gc_region <| gl_op <| op_rd rfl (rd_move rfl) <| gl_op <| op_rd rfl (rd_move rfl) <| gl_op <| op_rd rfl (rd_lenSlice Tryd.underlying29 rfl) <| gl_op (op_rd rfl (rd_lss rfl rfl) (gk_dec (fun h8 => ?_) (fun h8 => ?_)))
  · obtain ⟨z, hz⟩ := get_some (show k < ns.length by omega)
    refine gl_nil <| gx_then <| gc_cond_t rfl <| gc_skip <| gx_then <| gc_seq <| gc_block <| gc_region <| gl_op <| op_rd rfl (rd_move rfl) <| gl_op <| op_rd rfl (rd_move rfl) <| gl_op <| op_rd rfl (rd_move rfl) <| gl_op (op_rd rfl (rd_indexOld1 hx Tryd.underlying29 ty_3 rfl rfl (by omega) (by omega)) ?_)
    refine gl_op (op_rd rfl (rd_load Tryd.underlying3 rfl rfl (ld_slN hx (by rw [List.getElem?_map, hz]; rfl))) ?_)
    refine gl_op (op_rd rfl (rd_build rfl (fun _ => bd_42_1 _)) ?_)
    refine gl_op (op_buildSlice (sz := 2) rfl rfl (fun _ => bs_49_1_0 _ _) rfl rfl (fun b17 => ?_))
    refine gl_op (op_appendRow 1 0 Tryd.underlying49 ty_42 rfl (by decide) rfl rfl rfl rfl rfl (by simp [Value.oneCell']) (by omega) (by omega) (fun _ => (by rfl)) (fun r18 c18 => ?_))
    refine gl_op <| op_rd rfl (rd_assign rfl) <| gl_nil <| gx_block <| gx_then ?_
    rw [show (flutesP (ns.take k)).flatMap plC ++ [.int .i64 0, natV z] = (flutesP (ns.take (k + 1))).flatMap plC by rw [take_at hz]; unfold flutesP; rw [List.map_append, List.flatMap_append]; rfl]
    refine gc_region <| gl_op <| op_rd rfl (rd_move rfl) <| gl_op (op_rd rfl (by exact rd_addN (b := 1) rfl rfl (by omega)) ?_)
    refine gl_op <| op_rd rfl (rd_assign rfl) <| gl_nil <| gx_then ?_
    exact gx_cut ((k + 1, r18, c18)) ⟨by simp only; omega, by simp only; omega⟩ ⟨rfl, rfl, rfl, trivial⟩ ⟨[1], by decide, rfl⟩
  refine gl_nil <| gx_then <| gc_cond_f rfl <| gc_exit <| gx_then_exit <| gx_then_exit <| gx_block_exit <| gx_then <| gc_seq ?_
  have hk9 : k = ns.length := by omega
  subst hk9
  rw [List.take_length]
  refine gc_region <| gl_op <| op_rd rfl (rd_move rfl) <| gl_op <| op_rd rfl (rd_assign rfl) <| gl_nil <| gx_then <| gc_ret <| gx_ret1 (.inl rfl) Tryd.results30 rfl [0] (by decide) ?_
  exact ⟨r3, c3, rfl, rfl⟩
end Go.Proofs.YtbjijbbkfgcleaaDoor
namespace Go.Proofs.YtbjijbbkfgcleaaDoor
open Go.Gv
open Go.RowKit
open Go.Sn
open Sx
set_option maxRecDepth 100000 in
set_option maxHeartbeats 1000000 in
theorem Why_ok (s : Org) (h : Hd) (hle : OrgLe s) (hhe : HdLe h) (r0 p0 : Int) (w0 : World) (hS : OrgIn s w0 []) (hH : HdIn h w0 []) (hT : TabIn w0) : Sp Tryd.prog 17 [s.val, h.val, .agg #[.int .i64 r0, .int .i64 p0]] w0 [] (WhyR 3 44 s h r0 p0) := by
  refine spec_enterM Tryd.func17 rfl Tryd.ntmps17 rfl (Own.refl _) ?_
  simp only [argEnv]
  refine rc_seq <| rc_region <| rl_op (by nofun) (op_box rfl rfl rfl (fun b3 => ?_))
  refine rl_op (by nofun) (op_box rfl rfl rfl (fun b4 => ?_))
  refine rl_op (by nofun) (op_box rfl rfl rfl (fun b5 => ?_))
  refine rl_op (by nofun) (op_alloc ty_44 rfl rfl (fun b6 => ?_))
  refine rl_op (by nofun) (op_rd rfl (rd_assign rfl) ?_)
  refine rl_nil <| gx_then <| rc_seq <| rc_seq <| rc_region <| rl_op (by nofun) (op_rd rfl (rd_loadAgg Tryd.underlying27 rfl ty_27 rfl (by exact cs_blk 3 (off := 0) (k := 4) rfl rfl) rfl) ?_)
  refine rl_op (by nofun) (op_rd rfl (rd_loadAgg Tryd.underlying31 rfl ty_31 rfl (by exact cs_blk 2 (off := 0) (k := 3) rfl rfl) rfl) ?_)
  refine rl_op (by nofun) (op_call rfl (vf := []) (vc := []) rfl rfl Tryd.call14 (fun w1 ho => Check_ok s h hle hhe w1 (hS.at ho) (hH.at ho)) ?_)
  rintro _ _ ⟨rfl, rfl⟩
  refine rl_op (by nofun) (op_rd rfl (rd_assign rfl) ?_)
  refine rl_nil <| gx_then <| rc_seq <| rc_region <| rl_op (by nofun) (op_rd rfl (rd_move rfl) ?_)
  refine rl_op (by nofun) (op_rd rfl (rd_neq rfl rfl) (gk_dec (fun h23 => ?_) (fun h23 => ?_)))
  · refine rl_nil <| gx_then <| rc_cond_t rfl <| rc_seq <| rc_region <| rl_op (by nofun) (op_rd rfl (rd_build rfl (fun _ => bd_44_)) ?_)
    refine rl_op (by nofun) (op_rd rfl (rd_move rfl) ?_)
    refine rl_op (by nofun) (op_storeAgg 0 ty_44 rfl rfl rfl rfl rfl rfl (by rfl) ?_)
    refine rl_op (by nofun) (op_rd rfl (rd_assign rfl) ?_)
    refine rl_nil <| gx_then <| rc_ret <| gx_then_ret <| gx_retMV2 [] (.inl rfl) Tryd.results17 (rv_agg Tryd.underlying44 rfl ty_44 rfl (by rfl) (cs_blk 0 (off := 0) (k := 6) rfl rfl)) (rv_tmp rfl) ⟨[0], by decide, rfl⟩ ?_
    exact ⟨b6, .inl ⟨h23, rfl, rfl⟩⟩
  obtain ⟨h, rfl, hg⟩ := good_of (s := s) hhe (by omega)
  have hH := HNIn.of hH
  simp only [HN.hd_val]
  have hA := hg.cx
  have hnd : s.ds.length ≤ 6 := hA.nd
  have hns := hg.ns
  have hss : h.ss.length ≤ s.ss.length := asc_len hg.ssA hg.ssN
  obtain ⟨e0, he0⟩ : ∃ e0, handErr s h.hd = e0 := ⟨_, rfl⟩
  refine rl_nil <| gx_then <| rc_cond_f rfl <| rc_skip <| gx_then <| rc_seq <| rc_region <| rl_op (by nofun) (op_rd rfl (rd_loadAgg Tryd.underlying27 rfl ty_27 rfl (by exact cs_blk 3 (off := 0) (k := 4) rfl rfl) rfl) ?_)
  refine rl_op (by nofun) (op_rd rfl (rd_loadAgg Tryd.underlying31 rfl ty_31 rfl (by exact cs_blk 2 (off := 0) (k := 3) rfl rfl) rfl) ?_)
  refine rl_op (by nofun) (op_call rfl (vf := []) (vc := []) rfl rfl Tryd.call32 (fun w1 ho => acting_ok s h hle hg w1 (hS.at ho) (hH.at ho)) ?_)
  rintro _ _ ⟨b30, k27, c27, m28, rfl, rfl⟩
  unfold BK RS OM
  have hset := act_set hA
  have hsl0 : (actP (cxN s h)).sets.length = s.ds.length := hset.len
  refine rl_op (by nofun) (op_alloc ty_82 rfl rfl (fun b9 => ?_))
  refine rl_op (by nofun) (op_store 0 ty_82 rfl rfl rfl rfl rfl (by rfl) (by rfl) ?_)
  refine rl_nil <| gx_then <| rc_seq <| rc_region <| rl_op (by nofun) (op_alloc ty_44 rfl rfl (fun b10 => ?_))
  refine rl_nil <| gx_then <| rc_seq <| rc_region <| rl_op (by nofun) (op_alloc ty_4 rfl rfl (fun b11 => ?_))
  refine rl_op (by nofun) (op_store 0 ty_4 rfl rfl rfl rfl rfl (by rfl) (by rfl) ?_)
  refine rl_nil <| gx_then <| rc_seq <| rc_seq <| rc_region <| rl_op (by nofun) (op_rd rfl (rd_fieldAddr rfl (fa_31_1 _)) ?_)
  refine rl_op (by nofun) (op_rd rfl (rd_load Tryd.underlying29 rfl rfl (by exact ld_blk 8 rfl rfl)) ?_)
  refine rl_op (by nofun) (op_rd rfl (rd_lenSlice Tryd.underlying29 rfl) ?_)
  refine rl_op (by nofun) (op_rd rfl (rd_move rfl) ?_)
  refine rl_nil <| gx_then <| rc_block <| gk_nil 3 1 <| rc_loopM (ι := Nat × List Nat × Option Nat × Nat) [(3, _), (5, _), (6, _), (9, _), (10, _), (11, _), (30, _), (31, _)] [_, _, _, _, _, _, _, _] (fun q => q.1 ≤ h.ss.length) (fun q => q.2.1.map Go.Gv.mark) (fun q Fr0 => ((32, natV q.1) :: Fr0)) (fun q Fr0 => (HL.blk b10 ((bestR (whyK s h r0 p0 q.1)).cells (rowA q.2.2.1) q.2.2.2) 44 :: HL.blk b11 [.bool (whyK s h r0 p0 q.1).isSome] 4 :: HL.row 3 1 q.2.2.1 (bestR (whyK s h r0 p0 q.1)).ch.length q.2.2.2 ((bestR (whyK s h r0 p0 q.1)).ch.map natV) :: (Fr0 ++ (q.2.1.map markH)))) (fun q => h.ss.length - q.1) (0, [], none, 0) (Nat.zero_le _) rfl ⟨rfl, rfl, rfl, rfl, rfl, rfl, rfl, rfl, rfl, trivial⟩ ⟨[2, 1, 0, 3, 4, 5, 6, 7, 8, 9, 10], by decide, rfl⟩ ?_
  rintro ⟨k, Ds, rB, cB⟩ hk
  simp only at hk ⊢
  refine rc_seq <| rc_region <| rl_op (by nofun) (op_rd rfl (rd_lss rfl rfl) (gk_dec (fun h33 => ?_) (fun h33 => ?_)))
  · obtain ⟨i0, hi0⟩ := get_some (show k < h.ss.length by omega)
    obtain ⟨x, hx⟩ := get_some (hg.ssN i0 (List.mem_of_getElem? hi0))
    have hxm := List.mem_of_getElem? hx
    obtain ⟨hv0, hv1, hpo, hp12, hpb⟩ := Go.Sn.stop_ok hg hx
    have hpc := hle.pc x hxm
    obtain ⟨X, hX⟩ := get_some (show x.div.toNat < (actP (cxN s h)).sets.length by omega)
    have hXl := hset.lt X (List.mem_of_getElem? hX)
    have hbl := bitsOf_len X
    have hkX := keysP_at hA (show x.div.toNat < s.ds.length by omega) hX
    have hil : i0 < s.ss.length := (List.getElem?_eq_some_iff.1 hx).1
    have hdn : x.div = ((x.div.toNat : Nat) : Int) := by omega
    have hnx := whyK_next (r0 := r0) (p0 := p0) hi0 hx hkX
    refine rl_nil <| gx_then <| rc_seq <| rc_cond_t rfl <| rc_skip <| gx_then <| rc_seq <| rc_block <| rc_seq <| rc_region <| rl_op (by nofun) (op_rd rfl (rd_indexOld1 hH.t Tryd.underlying29 ty_3 rfl rfl (by omega) (by omega)) ?_)
    refine rl_op (by nofun) (op_rd rfl (rd_load Tryd.underlying3 rfl rfl (ld_slN hH.t (get_nz hi0))) ?_)
    refine rl_op (by nofun) (op_alloc ty_3 rfl rfl (fun b13 => ?_))
    refine rl_op (by nofun) (op_store 0 ty_3 rfl rfl rfl rfl rfl (by rfl) (by rfl) ?_)
    refine rl_nil <| gx_then <| rc_seq <| rc_region <| rl_op (by nofun) (op_rd rfl (rd_fieldAddr rfl (fa_27_2 _)) ?_)
    refine rl_op (by nofun) (op_rd rfl (rd_load Tryd.underlying24 rfl rfl (by exact ld_blk 11 rfl rfl)) ?_)
    refine rl_op (by nofun) (op_rd rfl (rd_load Tryd.underlying3 rfl rfl (by exact ld_blk 0 rfl rfl)) ?_)
    refine rl_op (by nofun) (op_rd rfl (rd_indexOld hS.t Tryd.underlying24 ty_57 rfl rfl (by omega) (by omega)) ?_)
    refine rl_op (by nofun) (op_rd rfl (rd_loadAgg Tryd.underlying57 rfl ty_57 rfl (cs_slN hS.t (flat_drop_get St.cells 5 (fun _ => rfl) hx)) rfl) ?_)
    refine rl_op (by nofun) (op_alloc ty_57 rfl rfl (fun b14 => ?_))
    refine rl_op (by nofun) (op_storeAgg 0 ty_57 rfl rfl rfl rfl rfl rfl (by rfl) ?_)
    refine rl_nil <| gx_then <| rc_seq ?_
    simp only [St.cells]
    rw [show Value.int .i64 x.div = natV x.div.toNat from congrArg (Value.int .i64) hdn]
    refine rc_drawP [0, 1, 2, 3, 4, 5, 6, 7, 8, 9, 10, 11, 12] true 8 rfl rfl <| ga_first 0 (bm 9 1) rfl rfl rfl rfl (by kernel_rfl) (by kernel_rfl) ⟨[0, 1, 2, 3, 4, 5, 6, 7, 8, 9, 10, 11, 12], by decide, rfl⟩ (qt_rd (rd_load Tryd.underlying82 rfl rfl (by exact ld_blk 5 rfl rfl))) ?_
    refine ga_first 1 (bm 9 3) rfl rfl rfl rfl (by kernel_rfl) (by kernel_rfl) ⟨[0, 1, 2, 3, 4, 5, 6, 7, 8, 9, 10, 11, 12], by decide, rfl⟩ (qt_rd (rd_nilCheck rfl)) ?_
    refine ga_first 2 (bm 9 7) rfl rfl rfl rfl (by kernel_rfl) (by kernel_rfl) ⟨[0, 1, 2, 3, 4, 5, 6, 7, 8, 9, 10, 11, 12], by decide, rfl⟩ (qt_rd (rd_fieldAddr rfl (fa_87_0 _))) ?_
    refine ga_first 3 (bm 9 15) rfl rfl rfl rfl (by kernel_rfl) (by kernel_rfl) ⟨[0, 1, 2, 3, 4, 5, 6, 7, 8, 9, 10, 11, 12], by decide, rfl⟩ (qt_rd (rd_load Tryd.underlying84 rfl rfl (by exact ld_blk 6 rfl rfl))) ?_
    refine ga_first 4 (bm 9 31) rfl rfl rfl rfl (by kernel_rfl) (by kernel_rfl) ⟨[0, 1, 2, 3, 4, 5, 6, 7, 8, 9, 10, 11, 12], by decide, rfl⟩ (qt_rd (rd_fieldAddr rfl (fa_57_1 _))) ?_
    refine ga_first 5 (bm 9 63) rfl rfl rfl rfl (by kernel_rfl) (by kernel_rfl) ⟨[0, 1, 2, 3, 4, 5, 6, 7, 8, 9, 10, 11, 12], by decide, rfl⟩ (qt_rd (rd_load Tryd.underlying3 rfl rfl (by exact ld_blk 0 rfl rfl))) ?_
    refine ga_first 6 (bm 9 127) rfl rfl rfl rfl (by kernel_rfl) (by kernel_rfl) ⟨[0, 1, 2, 3, 4, 5, 6, 7, 8, 9, 10, 11, 12], by decide, rfl⟩ (qt_rd (by exact rd_indexRow 7 rfl Tryd.underlying84 ty_90 rfl rfl (by omega) (by omega))) ?_
    refine ga_first 7 (bm 9 255) rfl rfl rfl rfl (by kernel_rfl) (by kernel_rfl) ⟨[0, 1, 2, 3, 4, 5, 6, 7, 8, 9, 10, 11, 12], by decide, rfl⟩ (qt_rd (rd_loadAgg Tryd.underlying90 rfl ty_90 rfl (cs_row 7 (a := some k27) rfl (flat_drop_get setC 2 (fun _ => rfl) hX)) rfl)) ?_
    simp only [setC]
    refine ga_only 8 (bm 9 511) rfl rfl (by kernel_rfl) (by kernel_rfl) (.inr ⟨[0, 1, 2, 3, 4, 5, 6, 7, 8, 9, 10, 11, 12], by decide, rfl⟩) (op_call rfl (vf := []) (vc := []) rfl rfl Tryd.call39 (fun w1 ho => all_ok X w1) ?_)
    rintro _ _ ⟨bx, rfl, rfl⟩
    refine ga_end (by kernel_rfl) (.inr ⟨[1, 2, 3, 4, 5, 6, 7, 8, 9, 10, 11, 12, 13], by decide, rfl⟩) ?_
    refine gx_then <| rc_block <| gk_env [(3, _), (5, _), (6, _), (9, _), (10, _), (11, _), (13, _), (14, _), (30, _), (31, _), (32, _), (33, _), (34, _), (35, _), (36, _), (37, _), (38, _), (39, _), (40, _), (41, _), (42, _), (43, _), (44, _), (45, _), (46, _), (47, _), (48, _), (49, _)] ⟨rfl, rfl, rfl, rfl, rfl, rfl, rfl, rfl, rfl, rfl, rfl, rfl, rfl, rfl, rfl, rfl, rfl, rfl, rfl, rfl, rfl, rfl, rfl, rfl, rfl, rfl, rfl, rfl, trivial⟩ ?_
    refine rc_rangeF (β := Nat) (N := (bitsOf X).length) (xs := fun i => natV ((bitsOf X).getD i 0)) (gf := 73) (caps := [.pointer (some ⟨bx, 0, none⟩)]) (fun i b => [(15, .pointer (some ⟨b, 0, none⟩))]) (fun i b => [.blk b [natV ((bitsOf X).getD i 0)] 3]) rfl Tryd.call73 rfl (fun i L => ∃ r c, L = [HL.blk bx (setC X) 90, .blk b14 [.string x.name, natV x.div.toNat, .int .i64 x.num, .int .i64 x.den, .slice x.pa x.ps.length x.pc] 57, .blk b13 [natV i0] 3, HL.blk b10 ((bestR (whyI s h r0 p0 (whyK s h r0 p0 k) i0 x (bitsOf X) i)).cells (rowA r) c) 44, HL.blk b11 [.bool (whyI s h r0 p0 (whyK s h r0 p0 k) i0 x (bitsOf X) i).isSome] 4, HL.row 3 1 r (bestR (whyI s h r0 p0 (whyK s h r0 p0 k) i0 x (bitsOf X) i)).ch.length c ((bestR (whyI s h r0 p0 (whyK s h r0 p0 k) i0 x (bitsOf X) i)).ch.map natV), .blk b9 [.pointer (some ⟨b30, 0, none⟩)] 82, .blk b30 [.slice (rowA (some k27)) s.ds.length c27, .map (some m28)] 87, .row 90 2 (some k27) s.ds.length c27 ((actP (cxN s h)).sets.flatMap setC), .obj m28 (actO (actP (cxN s h)).tb), HL.blk b6 ((bestR none).cells none 0) 44, .blk b5 [.int .i64 r0, .int .i64 p0] 42, .blk b4 h.val.cells.toList 31, .blk b3 s.val.cells.toList 27] ++ Ds.map markH) (fun _ _ _ => False) (fun L => HL.blk bx (setC X) 90 ∈ L) (fun i L hd h => by
      rcases h with ⟨r, c, rfl⟩ | ⟨c, h⟩
      · exact List.mem_append_right _ (List.mem_append_left _ List.mem_cons_self)
      · exact h.elim) (⟨rB, cB, by rw [whyI_zero]; rfl⟩) (fun lb J Jx hG w1 L hY hJ hO => allIt_ok X hXl bx lb J Jx hG w1 L hY hJ hO.self (hT.at hO (by decide)) (old_out hO hT.lt (by decide))) ?_ ?_ ?_ ?_
    · intro i lb w1 S1 L1 K1 Q1 hk1
      refine rc_region <| rl_op (by nofun) (op_alloc ty_3 rfl rfl (fun b15 => ?_))
      refine rl_op (by nofun) (op_store 0 ty_3 rfl rfl rfl rfl rfl (by rfl) (by rfl) ?_)
      refine rl_nil <| gx_then ?_
      exact gk_env _ (by exact ⟨rfl, rfl, rfl, rfl, rfl, rfl, rfl, rfl, rfl, rfl, rfl, rfl, rfl, rfl, rfl, rfl, rfl, rfl, rfl, rfl, rfl, rfl, rfl, rfl, rfl, rfl, rfl, rfl, rfl, trivial⟩) (hk1 b15)
    · intro i hi L hI lb D rec w1 S1 b15 rec9 hO9 hS9
      obtain ⟨r, c, rfl⟩ := hI
      have hS1 := hS.atS (Sc := S1) hO9 (by rw [hS9]; exact own_new hO9)
      obtain ⟨n, hn⟩ := get_some hi
      have hnn : (bitsOf X).getD i 0 = n := getD_some hn
      have hnb := bitsOf_mem.1 (List.mem_of_getElem? hn)
      obtain ⟨v, hv⟩ := (hset.has (x.div.toNat, n) (show x.div.toNat < s.ds.length by omega)).1 (by unfold hasS; rw [getD_some hX]; exact hnb.2)
      have hsh := ((act_chains hA).best _ _ hv).short hA
      rw [hnn]
      refine rc_block <| rc_seq <| rc_region <| rl_op (by nofun) (op_rd rfl (rd_fieldAddr rfl (fa_57_3 _)) ?_)
      refine rl_op (by nofun) (op_rd rfl (rd_load Tryd.underlying55 rfl rfl (by exact ld_blk 4 rfl rfl)) ?_)
      refine rl_op (by nofun) (op_rd rfl (rd_makeFunc (fs := []) (cs := [.tmp 5, .tmp 15]) rfl rfl) ?_)
      refine rl_op (by nofun) (op_call rfl (vf := []) (vc := []) rfl rfl Tryd.call40 (fun w1 ho => containsPt_ok x n r0 p0 (by omega) hpb b5 b15 w1 ((hS1.p x hxm).at ho) (blkSl ho 14 rfl rfl) (blkSl ho 0 rfl rfl)) ?_)
      rintro _ _ ⟨rfl, rfl⟩
      refine gk_bool (fun hpz => ?_) (fun hpz => ?_)
      · refine rl_op (by nofun) (op_rd rfl (rd_assign rfl) ?_)
        refine rl_nil <| gx_then <| rc_seq <| rc_seq <| rc_region <| rl_op (by nofun) (op_rd rfl (rd_move rfl) ?_)
        refine rl_op (by nofun) (op_rd rfl (rd_not rfl) ?_)
        refine rl_nil <| gx_then <| rc_cond_f rfl <| rc_skip <| gx_then <| rc_seq <| rc_region <| rl_op (by nofun) (op_rd rfl (rd_load Tryd.underlying82 rfl rfl (by exact ld_blk 9 rfl rfl)) ?_)
        refine rl_op (by nofun) (op_rd rfl (rd_fieldAddr rfl (fa_57_1 _)) ?_)
        refine rl_op (by nofun) (op_rd rfl (rd_load Tryd.underlying3 rfl rfl (by exact ld_blk 4 rfl rfl)) ?_)
        refine rl_op (by nofun) (op_rd rfl (rd_load Tryd.underlying3 rfl rfl (by exact ld_blk 0 rfl rfl)) ?_)
        refine rl_op (by nofun) (op_rd rfl (rd_build rfl (fun _ => bd_110_0_1 _ _)) ?_)
        refine rl_op (by nofun) (op_callMT [_, _, _, _, _, _, _, _, _, _, _, _, _, _, _, _, _] (Ds.map markH) [10, 12] [0, 1, 2, 3, 4, 5, 6, 7, 8, 9, 11, 13, 14, 15, 16] 17 rfl rfl rfl (vf := []) (vc := []) rfl rfl Tryd.call42 (by decide) (by decide) rfl (fun w how hc => chain_ok s.ds.length b30 k27 c27 m28 (actP (cxN s h)).tb (act_lk hA) (x.div.toNat, n) v hv (by omega) _ w hc) ?_)
        rintro _ _ ⟨r63, c63, rfl, rfl⟩
        refine rl_op (by nofun) (op_rd rfl (rd_move rfl) ?_)
        refine rl_op (by nofun) (op_rd rfl (rd_extract rfl rfl) ?_)
        refine rl_op (by nofun) (op_rd rfl (rd_extract rfl rfl) ?_)
        refine rl_op (by nofun) (op_alloc ty_110 rfl rfl (fun b17 => ?_))
        refine rl_op (by nofun) (op_storeAgg 0 ty_110 rfl rfl rfl rfl rfl rfl (by rfl) ?_)
        refine rl_op (by nofun) (op_rd rfl (rd_assign rfl) ?_)
        refine rl_nil <| gx_then <| rc_seq <| rc_region <| rl_op (by nofun) (op_rd rfl (rd_load Tryd.underlying4 rfl rfl (by exact ld_blk 11 rfl rfl)) ?_)
        refine gk_bool (fun h66 => ?_) (fun h66 => ?_)
        · refine rl_op (by nofun) (op_rd rfl (rd_not rfl) ?_)
          refine rl_op (by nofun) (op_rd rfl (rd_move rfl) ?_)
          refine rl_yes (by nofun) rfl rfl (op_rd rfl (rd_move rfl) ?_)
          refine rl_yes (by nofun) rfl rfl (op_rd rfl (rd_lenSlice Tryd.underlying29 rfl) ?_)
          refine rl_yes (by nofun) rfl rfl (op_rd rfl (rd_fieldAddr rfl (fa_44_2 _)) ?_)
          refine rl_yes (by nofun) rfl rfl (op_rd rfl (rd_load Tryd.underlying29 rfl rfl (by exact ld_blk 10 rfl rfl)) ?_)
          refine rl_yes (by nofun) rfl rfl (op_rd rfl (rd_lenSlice Tryd.underlying29 rfl) ?_)
          refine rl_yes (by nofun) rfl rfl (op_rd rfl (rd_lss rfl rfl) (gk_dec (fun h74 => ?_) (fun h74 => ?_)))
          · have hch : (whyI s h r0 p0 (whyK s h r0 p0 k) i0 x (bitsOf X) i) = none ∨ v.2.length < (bestR (whyI s h r0 p0 (whyK s h r0 p0 k) i0 x (bitsOf X) i)).ch.length := .inr (by omega)
            refine rl_op (by nofun) (op_rd rfl (rd_pick_f rfl rfl) ?_)
            refine rl_nil <| gx_then <| rc_cond_t rfl <| rc_seq <| rc_region <| rl_op (by nofun) (op_rd rfl (rd_fieldAddr rfl (fa_110_0 _)) ?_)
            refine rl_op (by nofun) (op_rd rfl (rd_load Tryd.underlying3 rfl rfl (by exact ld_blk 0 rfl rfl)) ?_)
            refine rl_op (by nofun) (op_rd rfl (rd_fieldAddr rfl (fa_110_1 _)) ?_)
            refine rl_op (by nofun) (op_rd rfl (rd_load Tryd.underlying3 rfl rfl (by exact ld_blk 0 rfl rfl)) ?_)
            refine rl_op (by nofun) (op_rd rfl (rd_move rfl) ?_)
            refine rl_op (by nofun) (op_rd rfl (rd_fieldAddr rfl (fa_57_1 _)) ?_)
            refine rl_op (by nofun) (op_rd rfl (rd_load Tryd.underlying3 rfl rfl (by exact ld_blk 8 rfl rfl)) ?_)
            refine rl_op (by nofun) (op_rd rfl (rd_load Tryd.underlying3 rfl rfl (by exact ld_blk 4 rfl rfl)) ?_)
            refine rl_op (by nofun) (op_rd rfl (rd_load Tryd.underlying3 rfl rfl (by exact ld_blk 9 rfl rfl)) ?_)
            refine rl_op (by nofun) (op_rd rfl (rd_build rfl (fun _ => bd_44_0_1_2_3_4_5 _ _ _ _ _ _ _ _)) ?_)
            refine rl_op (by nofun) (op_storeAgg 10 ty_44 rfl rfl rfl rfl rfl rfl (by rfl) ?_)
            refine rl_nil <| gx_then <| rc_region <| rl_op (by nofun) (op_store 11 ty_4 rfl rfl rfl rfl rfl (by rfl) (by rfl) ?_)
            refine rl_nil <| gx_block ?_
            have hws : (whyI s h r0 p0 (whyK s h r0 p0 k) i0 x (bitsOf X) (i + 1)) = (some ⟨v.1.1, v.1.2, v.2, x.div.toNat, n, i0⟩) := by rw [whyI_snoc hn]; exact stepW_yes hpz hv hch
            rw [show HL.blk b10 [natV v.1.1, natV v.1.2, .slice (rowA r63) v.2.length c63, natV x.div.toNat, natV n, natV i0] 44 = HL.blk b10 ((bestR (whyI s h r0 p0 (whyK s h r0 p0 k) i0 x (bitsOf X) (i + 1))).cells (rowA r63) c63) 44 by rw [hws]; rfl, show HL.blk b11 ([.bool (whyI s h r0 p0 (whyK s h r0 p0 k) i0 x (bitsOf X) i).isSome].set 0 (.bool true)) 4 = HL.blk b11 [.bool (whyI s h r0 p0 (whyK s h r0 p0 k) i0 x (bitsOf X) (i + 1)).isSome] 4 by rw [hws]; rfl, show HL.row 3 1 r63 v.2.length c63 (v.2.map natV) = HL.row 3 1 r63 (bestR (whyI s h r0 p0 (whyK s h r0 p0 k) i0 x (bitsOf X) (i + 1))).ch.length c63 ((bestR (whyI s h r0 p0 (whyK s h r0 p0 k) i0 x (bitsOf X) (i + 1))).ch.map natV) by rw [hws]; rfl]
            exact rp_normal _ (⟨r63, c63, rfl⟩) (sub_tail (A := [_, _, _, _, _, _, _, _, _, _, _, _, _, _, _, _]) (B := [_, _, _, _, _, _, _, _, _, _, _, _, _, _, _, _, _, _, _]) (T := (Ds.map markH)) [5, 6, 7, 8, 9, 10, 11, 3, 13, 1, 14, 2, 15, 16, 17, 18] 19 (by decide) (by decide) rfl rfl)
          obtain ⟨u, hbu⟩ : ∃ u, (whyI s h r0 p0 (whyK s h r0 p0 k) i0 x (bitsOf X) i) = some u := Option.isSome_iff_exists.1 h66
          have hch : ¬ v.2.length < u.ch.length := by rw [hbu] at h74; have h9 : (bestR (some u)) = u := rfl; rw [h9] at h74; omega
          refine rl_op (by nofun) (op_rd rfl (rd_pick_f rfl rfl) ?_)
          refine rl_nil <| gx_then <| rc_cond_f rfl <| rc_skip <| gx_block ?_
          have hws : (whyI s h r0 p0 (whyK s h r0 p0 k) i0 x (bitsOf X) (i + 1)) = (whyI s h r0 p0 (whyK s h r0 p0 k) i0 x (bitsOf X) i) := by rw [whyI_snoc hn, hbu]; exact stepW_old hpz hv hch
          rw [← hws]
          exact rp_normal _ (⟨r, c, rfl⟩) (sub_tail (A := [_, _, _, _, _, _, _, _, _, _, _, _, _, _, _, _]) (B := [_, _, _, _, _, _, _, _, _, _, _, _, _, _, _, _, _, _, _]) (T := (Ds.map markH)) [5, 6, 7, 8, 9, 10, 11, 12, 13, 1, 14, 2, 15, 16, 17, 18] 19 (by decide) (by decide) rfl rfl)
        have hch : (whyI s h r0 p0 (whyK s h r0 p0 k) i0 x (bitsOf X) i) = none ∨ v.2.length < (bestR (whyI s h r0 p0 (whyK s h r0 p0 k) i0 x (bitsOf X) i)).ch.length := .inl (by cases hq : (whyI s h r0 p0 (whyK s h r0 p0 k) i0 x (bitsOf X) i) with
          | none => rfl
          | some u => rw [hq] at h66; cases h66)
        refine rl_op (by nofun) (op_rd rfl (rd_not rfl) ?_)
        refine rl_op (by nofun) (op_rd rfl (rd_move rfl) ?_)
        refine rl_no rfl rfl rfl <| rl_no rfl rfl rfl <| rl_no rfl rfl rfl <| rl_no rfl rfl rfl <| rl_no rfl rfl rfl <| rl_no rfl rfl rfl <| rl_op (by nofun) (op_rd rfl (rd_pick_t rfl rfl) ?_)
        refine rl_nil <| gx_then <| rc_cond_t rfl <| rc_seq <| rc_region <| rl_op (by nofun) (op_rd rfl (rd_fieldAddr rfl (fa_110_0 _)) ?_)
        refine rl_op (by nofun) (op_rd rfl (rd_load Tryd.underlying3 rfl rfl (by exact ld_blk 0 rfl rfl)) ?_)
        refine rl_op (by nofun) (op_rd rfl (rd_fieldAddr rfl (fa_110_1 _)) ?_)
        refine rl_op (by nofun) (op_rd rfl (rd_load Tryd.underlying3 rfl rfl (by exact ld_blk 0 rfl rfl)) ?_)
        refine rl_op (by nofun) (op_rd rfl (rd_move rfl) ?_)
        refine rl_op (by nofun) (op_rd rfl (rd_fieldAddr rfl (fa_57_1 _)) ?_)
        refine rl_op (by nofun) (op_rd rfl (rd_load Tryd.underlying3 rfl rfl (by exact ld_blk 8 rfl rfl)) ?_)
        refine rl_op (by nofun) (op_rd rfl (rd_load Tryd.underlying3 rfl rfl (by exact ld_blk 4 rfl rfl)) ?_)
        refine rl_op (by nofun) (op_rd rfl (rd_load Tryd.underlying3 rfl rfl (by exact ld_blk 9 rfl rfl)) ?_)
        refine rl_op (by nofun) (op_rd rfl (rd_build rfl (fun _ => bd_44_0_1_2_3_4_5 _ _ _ _ _ _ _ _)) ?_)
        refine rl_op (by nofun) (op_storeAgg 10 ty_44 rfl rfl rfl rfl rfl rfl (by rfl) ?_)
        refine rl_nil <| gx_then <| rc_region <| rl_op (by nofun) (op_store 11 ty_4 rfl rfl rfl rfl rfl (by rfl) (by rfl) ?_)
        refine rl_nil <| gx_block ?_
        have hws : (whyI s h r0 p0 (whyK s h r0 p0 k) i0 x (bitsOf X) (i + 1)) = (some ⟨v.1.1, v.1.2, v.2, x.div.toNat, n, i0⟩) := by rw [whyI_snoc hn]; exact stepW_yes hpz hv hch
        rw [show HL.blk b10 [natV v.1.1, natV v.1.2, .slice (rowA r63) v.2.length c63, natV x.div.toNat, natV n, natV i0] 44 = HL.blk b10 ((bestR (whyI s h r0 p0 (whyK s h r0 p0 k) i0 x (bitsOf X) (i + 1))).cells (rowA r63) c63) 44 by rw [hws]; rfl, show HL.blk b11 ([.bool (whyI s h r0 p0 (whyK s h r0 p0 k) i0 x (bitsOf X) i).isSome].set 0 (.bool true)) 4 = HL.blk b11 [.bool (whyI s h r0 p0 (whyK s h r0 p0 k) i0 x (bitsOf X) (i + 1)).isSome] 4 by rw [hws]; rfl, show HL.row 3 1 r63 v.2.length c63 (v.2.map natV) = HL.row 3 1 r63 (bestR (whyI s h r0 p0 (whyK s h r0 p0 k) i0 x (bitsOf X) (i + 1))).ch.length c63 ((bestR (whyI s h r0 p0 (whyK s h r0 p0 k) i0 x (bitsOf X) (i + 1))).ch.map natV) by rw [hws]; rfl]
        exact rp_normal _ (⟨r63, c63, rfl⟩) (sub_tail (A := [_, _, _, _, _, _, _, _, _, _, _, _, _, _, _, _]) (B := [_, _, _, _, _, _, _, _, _, _, _, _, _, _, _, _, _, _, _]) (T := (Ds.map markH)) [5, 6, 7, 8, 9, 10, 11, 3, 13, 1, 14, 2, 15, 16, 17, 18] 19 (by decide) (by decide) rfl rfl)
      refine rl_op (by nofun) (op_rd rfl (rd_assign rfl) ?_)
      refine rl_nil <| gx_then <| rc_seq <| rc_seq <| rc_region <| rl_op (by nofun) (op_rd rfl (rd_move rfl) ?_)
      refine rl_op (by nofun) (op_rd rfl (rd_not rfl) ?_)
      refine rl_nil <| gx_then <| rc_cond_t rfl <| rc_exit <| gx_then_exit <| gx_block_exit ?_
      have hws : (whyI s h r0 p0 (whyK s h r0 p0 k) i0 x (bitsOf X) (i + 1)) = (whyI s h r0 p0 (whyK s h r0 p0 k) i0 x (bitsOf X) i) := by rw [whyI_snoc hn]; exact stepW_no hpz
      rw [← hws]
      exact rp_normal _ (⟨r, c, rfl⟩) (sub_tail (A := [_, _, _, _, _, _, _, _, _, _, _, _, _, _, _, _]) (B := [_, _, _, _, _, _, _, _, _, _, _, _, _, _, _, _, _]) (T := (Ds.map markH)) [1, 2, 3, 4, 5, 6, 7, 8, 9, 10, 11, 12, 13, 14, 15, 16] 17 (by decide) (by decide) rfl rfl)
    · intro D L hI
      obtain ⟨r, c, rfl⟩ := hI
      rw [hnx]
      refine gk_front [_, _, _, _, _, _, _, _, _, _, _, _, _, _, _] [_, _, _, _, _, _, _, _, _, _, _, _, _, _] (Ds.map markH) [1, 2, 3, 4, 5, 6, 7, 8, 9, 10, 11, 12, 13, 14] 0 15 rfl (x := markH D) rfl rfl (by decide) (by decide) ?_
      refine gx_block <| gx_block <| gx_then <| rc_region <| rl_op (by nofun) (op_rd rfl (by exact rd_addN (b := 1) rfl rfl (by omega)) ?_)
      refine rl_op (by nofun) (op_rd rfl (rd_move rfl) ?_)
      refine rl_nil <| gx_then ?_
      exact gx_cutM ((k + 1, D :: Ds, r, c)) ⟨by simp only; omega, by simp only; omega⟩ rfl ⟨rfl, rfl, rfl, rfl, rfl, rfl, rfl, rfl, rfl, trivial⟩ (sub_tail (A := [_, _, _, _, _, _, _, _, _, _, _]) (B := [_, _, _, _, _, _, _, _, _, _, _, _, _, _]) (T := ((D :: Ds).map markH)) [3, 4, 5, 6, 7, 8, 9, 10, 11, 12, 13] 14 (by decide) (by decide) rfl rfl)
    · intro D c i L hi hI
      exact hI.elim
  refine rl_nil <| gx_then <| rc_seq <| rc_cond_f rfl <| rc_exit <| gx_then_exit <| gx_then_exit <| gx_block_exit <| gx_then <| rc_seq <| rc_seq <| rc_region <| rl_op (by nofun) (op_rd rfl (rd_load Tryd.underlying4 rfl rfl (by exact ld_blk 1 rfl rfl)) ?_)
  refine gk_bool (fun h87 => ?_) (fun h87 => ?_)
  · refine rl_op (by nofun) (op_rd rfl (rd_not rfl) ?_)
    refine rl_nil <| gx_then <| rc_cond_f rfl <| rc_skip <| gx_then <| rc_seq <| rc_region <| rl_op (by nofun) (op_rd rfl (rd_loadAgg Tryd.underlying44 rfl ty_44 rfl (by exact cs_blk 0 (off := 0) (k := 6) rfl rfl) rfl) ?_)
    refine rl_op (by nofun) (op_storeAgg 7 ty_44 rfl rfl rfl rfl rfl rfl (by rfl) ?_)
    refine rl_op (by nofun) (op_rd rfl (rd_assign rfl) ?_)
    refine rl_nil <| gx_then <| rc_ret ?_
    have hk9 : k = h.ss.length := by omega
    subst hk9
    refine gk_sub (sub_tail (A := [_, _]) (B := [_, _, _, _, _, _, _, _, _, _, _]) (T := (Ds.map markH)) [7, 2] 11 (by decide) (by decide) rfl rfl) ?_
    refine gk_sub (sub_rot [_, _] (Ds.map markH)) ?_
    obtain ⟨u, hbu⟩ : ∃ u, (whyK s h r0 p0 h.ss.length) = some u := Option.isSome_iff_exists.1 h87
    rw [hbu]
    refine gx_retMV2 Ds (.inl rfl) Tryd.results17 (rv_agg Tryd.underlying44 rfl ty_44 rfl (by rfl) (cs_blk 0 (off := 0) (k := 6) rfl rfl)) (rv_tmp rfl) (Sub.refl' _) ?_
    exact ⟨b6, .inr ⟨by omega, h, rfl, hg, .inr ⟨u, rB, cB, hbu, rfl, rfl⟩⟩⟩
  refine rl_op (by nofun) (op_rd rfl (rd_not rfl) ?_)
  refine rl_nil <| gx_then <| rc_cond_t rfl <| rc_seq <| rc_region <| rl_op (by nofun) (op_rd rfl (rd_build rfl (fun _ => bd_44_)) ?_)
  refine rl_op (by nofun) (op_storeAgg 7 ty_44 rfl rfl rfl rfl rfl rfl (by rfl) ?_)
  refine rl_op (by nofun) (op_rd rfl (rd_assign rfl) ?_)
  refine rl_nil <| gx_then <| rc_ret <| gx_then_ret ?_
  have hk9 : k = h.ss.length := by omega
  subst hk9
  refine gk_sub (sub_tail (A := [_]) (B := [_, _, _, _, _, _, _, _, _, _, _]) (T := (Ds.map markH)) [7] 11 (by decide) (by decide) rfl rfl) ?_
  refine gk_sub (sub_rot [_] (Ds.map markH)) <| gx_retMV2 Ds (.inl rfl) Tryd.results17 (rv_agg Tryd.underlying44 rfl ty_44 rfl (by rfl) (cs_blk 0 (off := 0) (k := 6) rfl rfl)) (rv_tmp rfl) (Sub.refl' _) ?_
  refine ⟨b6, .inr ⟨by omega, h, rfl, hg, .inl ⟨?_, rfl, rfl⟩⟩⟩
  cases hq : (whyK s h r0 p0 h.ss.length) with
  | none => rfl
  | some u => rw [hq] at h87; cases h87
end Go.Proofs.YtbjijbbkfgcleaaDoor
namespace Go.Proofs.YtbjijbbkfgcleaaDoor
open Go.Gv
open Go.RowKit
open Go.Sn
open Sx
end Go.Proofs.YtbjijbbkfgcleaaDoor
namespace Go.Proofs.YtbjijbbkfgcleaaDoor
open Go.Gv
open Go.RowKit
open Go.Sn
open Sx
set_option maxRecDepth 100000 in
set_option maxHeartbeats 1000000 in
theorem ex10_ok (w0 : World) : Sp Tryd.prog 46 [] w0 [] (fun v L => ∃ b0 b6 b11 b14 b18 b22 b24 b26, v = (ex10 b6 b11 b14 b18 b22 b24 b26).val ∧ L = [.blk b0 (ex10 b6 b11 b14 b18 b22 b24 b26).cells 27, .row 67 6 (some b26) 1 1 (exC1.flatMap Cp.cells), .row 57 5 (some b24) 3 3 ((exSs b14 b18 b22).flatMap St.cells), .row 107 4 (some b22) 1 1 (exP3.flatMap Pt.cells), .row 107 4 (some b18) 1 1 (exP2.flatMap Pt.cells), .row 107 4 (some b14) 1 1 (exP1.flatMap Pt.cells), .row 81 6 (some b11) 2 2 (exRs.flatMap Rk.cells), .row 65 3 (some b6) 1 1 (exDs.flatMap Dv.cells)]) := by
  refine spec_enter Tryd.func46 rfl Tryd.ntmps46 rfl (Own.refl _) ?_
  simp only [argEnv]
  refine gc_seq <| gc_region <| gl_op (op_alloc ty_27 rfl rfl (fun b0 => ?_))
  refine gl_nil <| gx_then <| gc_seq <| gc_region <| gl_op (op_rd rfl (rd_build rfl (fun _ => bd_54_0_1 _ _)) ?_)
  refine gl_op (op_rd rfl (rd_build rfl (fun _ => bd_54_0_1 _ _)) ?_)
  refine gl_op (op_alloc ty_54 rfl rfl (fun b1 => ?_))
  refine gl_op (op_alloc ty_54 rfl rfl (fun b2 => ?_))
  refine gl_op (op_storeAgg 1 ty_54 rfl rfl rfl rfl rfl rfl (by rfl) ?_)
  refine gl_op (op_storeAgg 0 ty_54 rfl rfl rfl rfl rfl rfl (by rfl) ?_)
  refine gl_nil <| gx_then <| gc_seq <| gc_region <| gl_op (op_rd rfl (rd_build rfl (fun _ => bd_65_0_1_2 _ _ _)) ?_)
  refine gl_op (op_buildSlice (sz := 3) rfl rfl (fun _ => bs_22_1_0 _ _ _) rfl rfl (fun b6 => ?_))
  refine gl_op (op_rd rfl (rd_loadAgg Tryd.underlying54 rfl ty_54 rfl (by exact cs_blk 2 (off := 0) (k := 2) rfl rfl) rfl) ?_)
  refine gl_op (op_rd rfl (rd_build rfl (fun _ => bd_81_0_1_2_3_4 _ _ _ _ _ _)) ?_)
  refine gl_op (op_rd rfl (rd_loadAgg Tryd.underlying54 rfl ty_54 rfl (by exact cs_blk 2 (off := 0) (k := 2) rfl rfl) rfl) ?_)
  refine gl_op (op_rd rfl (rd_build rfl (fun _ => bd_81_0_1_2_3_4 _ _ _ _ _ _)) ?_)
  refine gl_op (op_buildSlice (sz := 6) rfl rfl (fun _ => bs_23_2_0_1 _ _ _ _ _ _ _ _ _ _ _ _) rfl rfl (fun b11 => ?_))
  refine gl_op (op_rd rfl (rd_loadAgg Tryd.underlying54 rfl ty_54 rfl (by exact cs_blk 3 (off := 0) (k := 2) rfl rfl) rfl) ?_)
  refine gl_op (op_rd rfl (rd_build rfl (fun _ => bd_107_2_3 _ _)) ?_)
  refine gl_op (op_buildSlice (sz := 4) rfl rfl (fun _ => bs_55_1_0 _ _ _ _) rfl rfl (fun b14 => ?_))
  refine gl_op (op_rd rfl (rd_build rfl (fun _ => bd_57_0_2_3 _ _ _ _ _ _)) ?_)
  refine gl_op (op_rd rfl (rd_loadAgg Tryd.underlying54 rfl ty_54 rfl (by exact cs_blk 3 (off := 0) (k := 2) rfl rfl) rfl) ?_)
  refine gl_op (op_rd rfl (rd_build rfl (fun _ => bd_107_1_2_3 _ _ _)) ?_)
  refine gl_op (op_buildSlice (sz := 4) rfl rfl (fun _ => bs_55_1_0 _ _ _ _) rfl rfl (fun b18 => ?_))
  refine gl_op (op_rd rfl (rd_build rfl (fun _ => bd_57_0_2_3 _ _ _ _ _ _)) ?_)
  refine gl_op (op_rd rfl (rd_loadAgg Tryd.underlying54 rfl ty_54 rfl (by exact cs_blk 5 (off := 0) (k := 2) rfl rfl) rfl) ?_)
  refine gl_op (op_rd rfl (rd_build rfl (fun _ => bd_107_0_2_3 _ _ _)) ?_)
  refine gl_op (op_buildSlice (sz := 4) rfl rfl (fun _ => bs_55_1_0 _ _ _ _) rfl rfl (fun b22 => ?_))
  refine gl_op (op_rd rfl (rd_build rfl (fun _ => bd_57_0_2_3 _ _ _ _ _ _)) ?_)
  refine gl_op (op_buildSlice (sz := 5) rfl rfl (fun _ => bs_24_3_0_1_2 _ _ _ _ _ _ _ _ _ _ _ _ _ _ _ _ _ _ _ _ _) rfl rfl (fun b24 => ?_))
  refine gl_op (op_rd rfl (rd_build rfl (fun _ => bd_67_0_3 _ _)) ?_)
  refine gl_op (op_buildSlice (sz := 6) rfl rfl (fun _ => bs_25_1_0 _ _ _ _ _ _) rfl rfl (fun b26 => ?_))
  refine gl_op (op_rd rfl (rd_build rfl (fun _ => bd_27_0_1_2_3 _ _ _ _ _ _ _ _ _ _ _ _)) ?_)
  refine gl_op (op_storeAgg 9 ty_27 rfl rfl rfl rfl rfl rfl (by rfl) ?_)
  refine gl_nil <| gx_then <| gc_ret <| gx_retV1 (.inl rfl) Tryd.results46 (rv_agg Tryd.underlying27 rfl ty_27 rfl (by rfl) (cs_blk 9 (off := 0) (k := 4) rfl rfl)) [9, 0, 1, 2, 3, 4, 5, 6] (by decide) ?_
  exact ⟨b0, b6, b11, b14, b18, b22, b24, b26, rfl, rfl⟩
set_option maxRecDepth 100000 in
set_option maxHeartbeats 1000000 in
theorem ex12_ok (w0 : World) : Sp Tryd.prog 27 [] w0 [] (fun v L => ∃ b0 b6 b11 b14 b18 b22 b24 r9 c9, v = (ex12 b6 b11 b14 b18 b22 b24 r9 c9).val ∧ L = [.blk b0 (ex12 b6 b11 b14 b18 b22 b24 r9 c9).cells 27, .row 67 6 r9 4 c9 (exC4.flatMap Cp.cells), .row 57 5 (some b24) 3 3 ((exSs b14 b18 b22).flatMap St.cells), .row 107 4 (some b22) 1 1 (exP3.flatMap Pt.cells), .row 107 4 (some b18) 1 1 (exP2.flatMap Pt.cells), .row 107 4 (some b14) 1 1 (exP1.flatMap Pt.cells), .row 81 6 (some b11) 2 2 (exRs.flatMap Rk.cells), .row 65 3 (some b6) 1 1 (exDs.flatMap Dv.cells)]) := by
  refine spec_enter Tryd.func27 rfl Tryd.ntmps27 rfl (Own.refl _) ?_
  simp only [argEnv]
  refine gc_seq <| gc_region <| gl_op (op_alloc ty_27 rfl rfl (fun b0 => ?_))
  refine gl_nil <| gx_then <| gc_seq <| gc_region <| gl_op (op_call rfl (vf := []) (vc := []) rfl rfl Tryd.call46 (fun w1 ho => ex10_ok w1) ?_)
  rintro _ _ ⟨b90, b6, b11, b14, b18, b22, b24, b26, rfl, rfl⟩
  simp only [Org.cells]
  refine gl_op (op_alloc ty_27 rfl rfl (fun b1 => ?_))
  refine gl_op (op_storeAgg 0 ty_27 rfl rfl rfl rfl rfl rfl (by rfl) ?_)
  refine gl_nil <| gx_then <| gc_seq <| gc_region <| gl_op <| op_rd rfl (rd_fieldAddr rfl (fa_27_3 _)) <| gl_op (op_rd rfl (rd_load Tryd.underlying25 rfl rfl (by exact ld_blk 0 rfl rfl)) ?_)
  refine gl_op (op_rd rfl (rd_build rfl (fun _ => bd_67_0_3 _ _)) ?_)
  refine gl_op (op_rd rfl (rd_build rfl (fun _ => bd_67_0_3_4 _ _ _)) ?_)
  refine gl_op (op_rd rfl (rd_build rfl (fun _ => bd_67_0_3_5 _ _ _)) ?_)
  refine gl_op (op_buildSlice (sz := 6) rfl rfl (fun _ => bs_25_3_0_1_2 _ _ _ _ _ _ _ _ _ _ _ _ _ _ _ _ _ _) rfl rfl (fun b8 => ?_))
  refine gl_op (op_appendRow 3 0 Tryd.underlying25 ty_67 rfl (by decide) rfl rfl rfl rfl rfl (by simp [Value.oneCell']) (by omega) (by omega) (fun _ => (by rfl)) (fun r9 c9 => ?_))
  refine gl_op <| op_rd rfl (rd_fieldAddr rfl (fa_27_3 _)) <| gl_op (op_store 1 ty_25 rfl rfl rfl rfl rfl (by rfl) (by rfl) ?_)
  refine gl_nil <| gx_then <| gc_seq <| gc_region <| gl_op (op_rd rfl (rd_loadAgg Tryd.underlying27 rfl ty_27 rfl (by exact cs_blk 1 (off := 0) (k := 4) rfl rfl) rfl) ?_)
  refine gl_op (op_storeAgg 10 ty_27 rfl rfl rfl rfl rfl rfl (by rfl) ?_)
  refine gl_nil <| gx_then <| gc_ret <| gx_retV1 (.inl rfl) Tryd.results27 (rv_agg Tryd.underlying27 rfl ty_27 rfl (by rfl) (cs_blk 10 (off := 0) (k := 4) rfl rfl)) [10, 3, 4, 5, 6, 7, 8, 9] (by decide) ?_
  exact ⟨b0, b6, b11, b14, b18, b22, b24, r9, c9, rfl, rfl⟩
end Go.Proofs.YtbjijbbkfgcleaaDoor
namespace Go.Proofs.YtbjijbbkfgcleaaDoor
open Go.Gv
open Go.RowKit
open Go.Sn
open Sx
set_option maxRecDepth 100000 in
set_option maxHeartbeats 1000000 in
theorem shown_ok (w0 : World) (hT : TabIn w0) : Sp Tryd.prog 11 [] w0 [] (RV (.bool true)) := by
  refine spec_enter Tryd.func11 rfl Tryd.ntmps11 rfl (Own.refl _) ?_
  simp only [argEnv]
  refine gc_seq <| gc_region <| gl_op <| op_rd rfl (rd_assign rfl) <| gl_nil <| gx_then <| gc_seq <| gc_region <| gl_op (op_buildSlice (sz := 1) rfl rfl (fun _ => bs_29_1_0 _) rfl rfl (fun b8 => ?_))
  refine gl_op (op_buildSlice (sz := 1) rfl rfl (fun _ => bs_28_1_0 _ _ _) rfl rfl (fun b9 => ?_))
  refine gl_op (op_buildSlice (sz := 1) rfl rfl (fun _ => bs_29_2_0_1 _ _) rfl rfl (fun b10 => ?_))
  refine gl_op (op_buildSlice (sz := 1) rfl rfl (fun _ => bs_29_2_0_1 _ _) rfl rfl (fun b11 => ?_))
  refine gl_op (op_rd rfl (rd_build rfl (fun _ => bd_31_0_1_2 _ _ _ _ _ _ _ _ _)) ?_)
  refine gl_op (op_alloc ty_31 rfl rfl (fun b1 => ?_))
  refine gl_op (op_storeAgg 0 ty_31 rfl rfl rfl rfl rfl rfl (by rfl) ?_)
  refine gl_nil <| gx_then <| gc_seq <| gc_drawP [0, 1, 2, 3, 4] true 7 rfl <| ga_first 1 (bm 8 2) rfl rfl rfl rfl (by kernel_rfl) (by kernel_rfl) ⟨[0, 1, 2, 3, 4], by decide, rfl⟩ (qt_rd (rd_loadAgg Tryd.underlying31 rfl ty_31 rfl (by exact cs_blk 0 (off := 0) (k := 3) rfl rfl) rfl)) ?_
  refine ga_only 0 (bm 8 3) rfl rfl (by kernel_rfl) (by kernel_rfl) (.inr ⟨[0, 1, 2, 3, 4], by decide, rfl⟩) (op_call rfl (vf := []) (vc := []) rfl rfl Tryd.call27 (fun w1 ho => ex12_ok w1) ?_)
  rintro _ _ ⟨be14, d14, r14, pa14, pb14, pc14, t14, c14, cc14, rfl, rfl⟩
  refine ga_only 2 (bm 8 7) rfl rfl (by kernel_rfl) (by kernel_rfl) (.inr ⟨[8, 9, 10, 11, 12], by decide, rfl⟩) (op_call rfl (vf := []) (vc := []) rfl rfl Tryd.call12 (fun w1 ho => Keys_ok (ex12 d14 r14 pa14 pb14 pc14 t14 c14 cc14) (exHN (rowA (some b9)) (rowA (some b8)) (rowA (some b10)) (rowA (some b11))).hd ex_le ex_hle w1 (ex_in (ho.rowSl 7 rfl) (ho.rowSl 6 rfl) (ho.rowSl 2 rfl) (ho.rowSl 1 rfl) (ho.rowSl 5 rfl) (ho.rowSl 4 rfl) (ho.rowSl 3 rfl)) (exh_in (ho.rowSl 11 rfl) (ho.rowSl 12 rfl) (ho.rowSl 10 rfl) (ho.rowSl 9 rfl)) (hT.at ho (by decide))) ?_)
  rintro _ _ hq
  obtain ⟨r16, g16, hg16, rfl, rfl⟩ := ex_KeysR hq
  unfold KG.hl
  refine ga_first 3 (bm 8 15) rfl rfl rfl rfl (by kernel_rfl) (by kernel_rfl) ⟨[10, 11, 12, 13, 14], by decide, rfl⟩ (qt_rd (rd_move rfl)) ?_
  refine ga_first 4 (bm 8 31) rfl rfl rfl rfl (by kernel_rfl) (by kernel_rfl) ⟨[10, 11, 12, 13, 14], by decide, rfl⟩ (qt_rd (rd_extract rfl rfl)) ?_
  refine ga_first 5 (bm 8 63) rfl rfl rfl rfl (by kernel_rfl) (by kernel_rfl) ⟨[10, 11, 12, 13, 14], by decide, rfl⟩ (qt_rd (rd_extract rfl rfl)) ?_
  refine ga_first 6 (bm 8 127) rfl rfl rfl rfl (by kernel_rfl) (by kernel_rfl) ⟨[10, 11, 12, 13, 14], by decide, rfl⟩ (qt_rd (rd_assign rfl)) ?_
  refine ga_first 7 (bm 8 255) rfl rfl rfl rfl (by kernel_rfl) (by kernel_rfl) ⟨[10, 11, 12, 13, 14], by decide, rfl⟩ (qt_rd (rd_assign rfl)) ?_
  refine ga_end (by kernel_rfl) (.inr ⟨[10, 11, 12, 13, 14], by decide, rfl⟩) ?_
  refine gx_then <| gc_seq <| gc_drawP [0, 1, 2, 3, 4, 5, 6, 7, 8, 9, 10, 11, 12, 13, 14] true 7 rfl <| ga_first 1 (bm 8 2) rfl rfl rfl rfl (by kernel_rfl) (by kernel_rfl) ⟨[0, 1, 2, 3, 4, 5, 6, 7, 8, 9, 10, 11, 12, 13, 14], by decide, rfl⟩ (qt_rd (rd_loadAgg Tryd.underlying31 rfl ty_31 rfl (by exact cs_blk 10 (off := 0) (k := 3) rfl rfl) rfl)) ?_
  refine ga_only 0 (bm 8 3) rfl rfl (by kernel_rfl) (by kernel_rfl) (.inr ⟨[0, 1, 2, 3, 4, 5, 6, 7, 8, 9, 10, 11, 12, 13, 14], by decide, rfl⟩) (op_call rfl (vf := []) (vc := []) rfl rfl Tryd.call27 (fun w1 ho => ex12_ok w1) ?_)
  rintro _ _ ⟨be20, d20, r20, pa20, pb20, pc20, t20, c20, cc20, rfl, rfl⟩
  refine ga_only 2 (bm 8 7) rfl rfl (by kernel_rfl) (by kernel_rfl) (.inr ⟨[8, 9, 10, 11, 12, 13, 14, 15, 16, 17, 18, 19, 20, 21, 22], by decide, rfl⟩) (op_call rfl (vf := []) (vc := []) rfl rfl Tryd.call21 (fun w1 ho => Pipes_ok (ex12 d20 r20 pa20 pb20 pc20 t20 c20 cc20) (exHN (rowA (some b9)) (rowA (some b8)) (rowA (some b10)) (rowA (some b11))).hd ex_le ex_hle w1 (ex_in (ho.rowSl 7 rfl) (ho.rowSl 6 rfl) (ho.rowSl 2 rfl) (ho.rowSl 1 rfl) (ho.rowSl 5 rfl) (ho.rowSl 4 rfl) (ho.rowSl 3 rfl)) (exh_in (ho.rowSl 21 rfl) (ho.rowSl 22 rfl) (ho.rowSl 20 rfl) (ho.rowSl 19 rfl)) (hT.at ho (by decide))) ?_)
  rintro _ _ hq
  obtain ⟨r22, c22, rfl, rfl⟩ := ex_PipesR hq
  refine ga_first 3 (bm 8 15) rfl rfl rfl rfl (by kernel_rfl) (by kernel_rfl) ⟨[9, 10, 11, 12, 13, 14, 15, 16, 17, 18, 19, 20, 21, 22, 23], by decide, rfl⟩ (qt_rd (rd_move rfl)) ?_
  refine ga_first 4 (bm 8 31) rfl rfl rfl rfl (by kernel_rfl) (by kernel_rfl) ⟨[9, 10, 11, 12, 13, 14, 15, 16, 17, 18, 19, 20, 21, 22, 23], by decide, rfl⟩ (qt_rd (rd_extract rfl rfl)) ?_
  refine ga_first 5 (bm 8 63) rfl rfl rfl rfl (by kernel_rfl) (by kernel_rfl) ⟨[9, 10, 11, 12, 13, 14, 15, 16, 17, 18, 19, 20, 21, 22, 23], by decide, rfl⟩ (qt_rd (rd_extract rfl rfl)) ?_
  refine ga_first 6 (bm 8 127) rfl rfl rfl rfl (by kernel_rfl) (by kernel_rfl) ⟨[9, 10, 11, 12, 13, 14, 15, 16, 17, 18, 19, 20, 21, 22, 23], by decide, rfl⟩ (qt_rd (rd_assign rfl)) ?_
  refine ga_first 7 (bm 8 255) rfl rfl rfl rfl (by kernel_rfl) (by kernel_rfl) ⟨[9, 10, 11, 12, 13, 14, 15, 16, 17, 18, 19, 20, 21, 22, 23], by decide, rfl⟩ (qt_rd (rd_assign rfl)) ?_
  refine ga_end (by kernel_rfl) (.inr ⟨[9, 10, 11, 12, 13, 14, 15, 16, 17, 18, 19, 20, 21, 22, 23], by decide, rfl⟩) ?_
  refine gx_then <| gc_seq <| gc_drawP [0, 1, 2, 3, 4, 5, 6, 7, 8, 9, 10, 11, 12, 13, 14, 15, 16, 17, 18, 19, 20, 21, 22, 23] false 9 rfl <| ga_first 1 (bm 10 2) rfl rfl rfl rfl (by kernel_rfl) (by kernel_rfl) ⟨[0, 1, 2, 3, 4, 5, 6, 7, 8, 9, 10, 11, 12, 13, 14, 15, 16, 17, 18, 19, 20, 21, 22, 23], by decide, rfl⟩ (qt_rd (rd_loadAgg Tryd.underlying31 rfl ty_31 rfl (by exact cs_blk 19 (off := 0) (k := 3) rfl rfl) rfl)) ?_
  refine ga_first 2 (bm 10 6) rfl rfl rfl rfl (by kernel_rfl) (by kernel_rfl) ⟨[0, 1, 2, 3, 4, 5, 6, 7, 8, 9, 10, 11, 12, 13, 14, 15, 16, 17, 18, 19, 20, 21, 22, 23], by decide, rfl⟩ (qt_rd (rd_build rfl (fun _ => bd_42_1 _))) ?_
  refine ga_two 0 7 (bm 10 7) (bm 10 134) rfl rfl rfl rfl (by kernel_rfl) (by kernel_rfl) (by kernel_rfl) (.inr ⟨[0, 1, 2, 3, 4, 5, 6, 7, 8, 9, 10, 11, 12, 13, 14, 15, 16, 17, 18, 19, 20, 21, 22, 23], by decide, rfl⟩) ?_ ?_
  · refine (op_call rfl (vf := []) (vc := []) rfl rfl Tryd.call27 (fun w1 ho => ex12_ok w1) ?_)
    rintro _ _ ⟨be26, d26, r26, pa26, pb26, pc26, t26, c26, cc26, rfl, rfl⟩
    refine ga_two 3 7 (bm 10 15) (bm 10 135) rfl rfl rfl rfl (by kernel_rfl) (by kernel_rfl) (by kernel_rfl) (.inr ⟨[8, 9, 10, 11, 12, 13, 14, 15, 16, 17, 18, 19, 20, 21, 22, 23, 24, 25, 26, 27, 28, 29, 30, 31], by decide, rfl⟩) ?_ ?_
    · refine (op_call rfl (vf := []) (vc := []) rfl rfl Tryd.call17 (fun w1 ho => Why_ok (ex12 d26 r26 pa26 pb26 pc26 t26 c26 cc26) (exHN (rowA (some b9)) (rowA (some b8)) (rowA (some b10)) (rowA (some b11))).hd ex_le ex_hle 0 72 w1 (ex_in (ho.rowSl 7 rfl) (ho.rowSl 6 rfl) (ho.rowSl 2 rfl) (ho.rowSl 1 rfl) (ho.rowSl 5 rfl) (ho.rowSl 4 rfl) (ho.rowSl 3 rfl)) (exh_in (ho.rowSl 30 rfl) (ho.rowSl 31 rfl) (ho.rowSl 29 rfl) (ho.rowSl 28 rfl)) (hT.at ho (by decide))) ?_)
      rintro _ _ hq
      obtain ⟨b29, r29, c29, rfl, rfl⟩ := ex_WhyR hq
      refine ga_first 4 (bm 10 31) rfl rfl rfl rfl (by kernel_rfl) (by kernel_rfl) ⟨[10, 11, 12, 13, 14, 15, 16, 17, 18, 19, 20, 21, 22, 23, 24, 25, 26, 27, 28, 29, 30, 31, 32, 33], by decide, rfl⟩ (qt_rd (rd_move rfl)) ?_
      refine ga_first 5 (bm 10 63) rfl rfl rfl rfl (by kernel_rfl) (by kernel_rfl) ⟨[10, 11, 12, 13, 14, 15, 16, 17, 18, 19, 20, 21, 22, 23, 24, 25, 26, 27, 28, 29, 30, 31, 32, 33], by decide, rfl⟩ (qt_rd (rd_extract rfl rfl)) ?_
      refine ga_first 6 (bm 10 127) rfl rfl rfl rfl (by kernel_rfl) (by kernel_rfl) ⟨[10, 11, 12, 13, 14, 15, 16, 17, 18, 19, 20, 21, 22, 23, 24, 25, 26, 27, 28, 29, 30, 31, 32, 33], by decide, rfl⟩ (qt_rd (rd_extract rfl rfl)) ?_
      refine ga_only 7 (bm 10 255) rfl rfl (by kernel_rfl) (by kernel_rfl) (.inr ⟨[10, 11, 12, 13, 14, 15, 16, 17, 18, 19, 20, 21, 22, 23, 24, 25, 26, 27, 28, 29, 30, 31, 32, 33], by decide, rfl⟩) (op_alloc ty_44 rfl rfl (fun b6 => ?_))
      refine ga_only 8 (bm 10 511) rfl rfl (by kernel_rfl) (by kernel_rfl) (.inr ⟨[11, 12, 13, 14, 15, 16, 17, 18, 19, 20, 21, 22, 23, 24, 25, 26, 27, 28, 29, 30, 31, 32, 33, 34], by decide, rfl⟩) (op_storeAgg 0 ty_44 rfl rfl rfl rfl rfl rfl (by rfl) ?_)
      refine ga_only 9 (bm 10 1023) rfl rfl (by kernel_rfl) (by kernel_rfl) (.inr ⟨[11, 12, 13, 14, 15, 16, 17, 18, 19, 20, 21, 22, 23, 24, 25, 26, 27, 28, 29, 30, 31, 32, 33, 34], by decide, rfl⟩) (op_rd rfl (rd_assign rfl) ?_)
      refine ga_end (by kernel_rfl) (.inl (by kernel_rfl)) ?_
      refine gx_then <| gc_seq <| gc_region <| gl_op <| op_rd rfl (rd_move rfl) <| gl_op <| op_rd rfl (rd_lenSlice Tryd.underlying28 rfl) <| gl_op (op_rd rfl (rd_eql rfl rfl) (gk_dec (fun h34 => ?_) (fun h34 => ?_)))
      · refine gl_op <| op_rd rfl (rd_move rfl) <| gl_yes rfl rfl <| op_rd rfl (rd_move rfl) <| gl_yes rfl rfl (op_rd rfl (rd_indexRow1 20 rfl Tryd.underlying28 ty_29 rfl rfl (by omega) (by omega)) ?_)
        refine gl_yes rfl rfl <| op_rd rfl (rd_load Tryd.underlying29 rfl rfl (ld_rowN 20 (off := 0) rfl rfl)) <| gl_yes rfl rfl (op_buildSlice (sz := 1) rfl rfl (fun _ => bs_29_3_0_1_2 _ _ _) rfl rfl (fun b39 => ?_))
        unfold KG.cell
        refine gl_yes rfl rfl (op_call rfl (vf := []) (vc := []) rfl rfl Tryd.call16 (fun w1 ho => sameIntsN_ok g16.ks [36, 48, 60] _ _ _ _ (by rw [hg16]; decide) w1 (ho.rowSl 22 rfl) (ho.rowSl 0 rfl)) ?_)
        rintro _ _ ⟨rfl, rfl⟩
        refine gk_bool (fun h40 => ?_) (fun h40 => ?_)
        · refine gl_op <| op_rd rfl (rd_pick_t rfl rfl) <| gl_op <| op_rd rfl (rd_move rfl) <| gl_yes rfl rfl <| op_rd rfl (rd_move rfl) <| gl_yes rfl rfl (op_buildSlice (sz := 1) rfl rfl (fun _ => bs_29_4_0_1_2_3 _ _ _ _) rfl rfl (fun b44 => ?_))
          refine gl_yes rfl rfl (op_call rfl (vf := []) (vc := []) rfl rfl Tryd.call30 (fun w1 ho => flutes_ok [36, 48, 60, 72] _ _ (by decide) w1 (ho.rowSl 0 rfl)) ?_)
          rintro _ _ ⟨r45, c45, rfl, rfl⟩
          refine gl_yes rfl rfl (op_call rfl (vf := []) (vc := []) rfl rfl Tryd.call29 (fun w1 ho => SamePipes_ok (flutesP [36, 48, 60, 72]) (flutesP [36, 48, 60, 72]) _ _ _ _ (by decide) w1 (ho.rowSl 14 rfl) (ho.rowSl 0 rfl)) ?_)
          rintro _ _ ⟨rfl, rfl⟩
          refine gk_bool (fun h46 => ?_) (fun h46 => ?_)
          · refine gl_op <| op_rd rfl (rd_pick_t rfl rfl) <| gl_op <| op_rd rfl (rd_move rfl) <| gl_yes rfl rfl (op_rd rfl (rd_loadAgg Tryd.underlying44 rfl ty_44 rfl (by exact cs_blk 3 (off := 0) (k := 6) rfl rfl) rfl) ?_)
            refine gl_yes rfl rfl (op_buildSlice (sz := 1) rfl rfl (fun _ => bs_29_2_0_1 _ _) rfl rfl (fun b50 => ?_))
            refine gl_yes rfl rfl (op_rd rfl (rd_build rfl (fun _ => bd_44_1_2_4_5 _ _ _ _ _ _)) ?_)
            refine gl_yes rfl rfl (op_call rfl (vf := []) (vc := []) rfl rfl Tryd.call19 (fun w1 ho => SameReason_ok ⟨0, 36, [0, 3], 0, 60, 1⟩ ⟨0, 36, [0, 3], 0, 60, 1⟩ (rowA r29) (rowA (some b50)) c29 2 (by decide) w1 (ho.rowSl 6 rfl) (ho.rowSl 0 rfl)) ?_)
            rintro _ _ ⟨rfl, rfl⟩
            refine gk_bool (fun h52 => ?_) (fun h52 => ?_)
            · refine gl_op <| op_rd rfl (rd_pick_t rfl rfl) <| gl_op <| op_rd rfl (rd_move rfl) <| gl_yes rfl rfl <| op_rd rfl (rd_move rfl) <| gl_yes rfl rfl (op_rd rfl (rd_eql rfl rfl) (gk_dec (fun h56 => ?_) (fun h56 => ?_)))
              · refine gl_op <| op_rd rfl (rd_pick_t rfl rfl) <| gl_op <| op_rd rfl (rd_move rfl) <| gl_yes rfl rfl <| op_rd rfl (rd_move rfl) <| gl_yes rfl rfl (op_rd rfl (rd_eql rfl rfl) (gk_dec (fun h60 => ?_) (fun h60 => ?_)))
                · refine gl_op <| op_rd rfl (rd_pick_t rfl rfl) <| gl_op <| op_rd rfl (rd_move rfl) <| gl_yes rfl rfl <| op_rd rfl (rd_move rfl) <| gl_yes rfl rfl (op_rd rfl (rd_eql rfl rfl) (gk_dec (fun h64 => ?_) (fun h64 => ?_)))
                  · refine gl_op <| op_rd rfl (rd_pick_t rfl rfl) <| gl_op <| op_rd rfl (rd_assign rfl) <| gl_nil <| gx_then <| gc_ret <| gx_ret1 (.inl rfl) Tryd.results11 rfl [] (by decide) ?_
                    exact ⟨rfl, rfl⟩
                  refine gl_op <| op_rd rfl (rd_pick_t rfl rfl) <| gl_op <| op_rd rfl (rd_assign rfl) <| gl_nil <| gx_then <| gc_ret <| gx_ret1 (.inl rfl) Tryd.results11 rfl [] (by decide) ?_
                  exact absurd rfl h64
                refine gl_op <| op_rd rfl (rd_pick_t rfl rfl) <| gl_op <| op_rd rfl (rd_move rfl) <| gl_no rfl rfl rfl <| gl_no rfl rfl rfl <| gl_op <| op_rd rfl (rd_pick_f rfl rfl) <| gl_op <| op_rd rfl (rd_assign rfl) <| gl_nil <| gx_then <| gc_ret <| gx_ret1 (.inl rfl) Tryd.results11 rfl [] (by decide) ?_
                exact absurd rfl h60
              refine gl_op <| op_rd rfl (rd_pick_t rfl rfl) <| gl_op <| op_rd rfl (rd_move rfl) <| gl_no rfl rfl rfl <| gl_no rfl rfl rfl <| gl_op <| op_rd rfl (rd_pick_f rfl rfl) <| gl_op <| op_rd rfl (rd_move rfl) <| gl_no rfl rfl rfl <| gl_no rfl rfl rfl <| gl_op <| op_rd rfl (rd_pick_f rfl rfl) <| gl_op <| op_rd rfl (rd_assign rfl) <| gl_nil <| gx_then <| gc_ret <| gx_ret1 (.inl rfl) Tryd.results11 rfl [] (by decide) ?_
              exact absurd rfl h56
            refine gl_op <| op_rd rfl (rd_pick_t rfl rfl) <| gl_op <| op_rd rfl (rd_move rfl) <| gl_no rfl rfl rfl <| gl_no rfl rfl rfl <| gl_op <| op_rd rfl (rd_pick_f rfl rfl) <| gl_op <| op_rd rfl (rd_move rfl) <| gl_no rfl rfl rfl <| gl_no rfl rfl rfl <| gl_op <| op_rd rfl (rd_pick_f rfl rfl) <| gl_op <| op_rd rfl (rd_move rfl) <| gl_no rfl rfl rfl <| gl_no rfl rfl rfl <| gl_op <| op_rd rfl (rd_pick_f rfl rfl) <| gl_op <| op_rd rfl (rd_assign rfl) <| gl_nil <| gx_then <| gc_ret <| gx_ret1 (.inl rfl) Tryd.results11 rfl [] (by decide) ?_
            rw [decide_eq_true rfl] at h52; cases h52
          refine gl_op <| op_rd rfl (rd_pick_t rfl rfl) <| gl_op <| op_rd rfl (rd_move rfl) <| gl_no rfl rfl rfl <| gl_no rfl rfl rfl <| gl_no rfl rfl rfl <| gl_no rfl rfl rfl <| gl_op <| op_rd rfl (rd_pick_f rfl rfl) <| gl_op <| op_rd rfl (rd_move rfl) <| gl_no rfl rfl rfl <| gl_no rfl rfl rfl <| gl_op <| op_rd rfl (rd_pick_f rfl rfl) <| gl_op <| op_rd rfl (rd_move rfl) <| gl_no rfl rfl rfl <| gl_no rfl rfl rfl <| gl_op <| op_rd rfl (rd_pick_f rfl rfl) <| gl_op <| op_rd rfl (rd_move rfl) <| gl_no rfl rfl rfl <| gl_no rfl rfl rfl <| gl_op <| op_rd rfl (rd_pick_f rfl rfl) <| gl_op <| op_rd rfl (rd_assign rfl) <| gl_nil <| gx_then <| gc_ret <| gx_ret1 (.inl rfl) Tryd.results11 rfl [] (by decide) ?_
          rw [decide_eq_true rfl] at h46; cases h46
        refine gl_op <| op_rd rfl (rd_pick_t rfl rfl) <| gl_op <| op_rd rfl (rd_move rfl) <| gl_no rfl rfl rfl <| gl_no rfl rfl rfl <| gl_no rfl rfl rfl <| gl_no rfl rfl rfl <| gl_op <| op_rd rfl (rd_pick_f rfl rfl) <| gl_op <| op_rd rfl (rd_move rfl) <| gl_no rfl rfl rfl <| gl_no rfl rfl rfl <| gl_no rfl rfl rfl <| gl_no rfl rfl rfl <| gl_op <| op_rd rfl (rd_pick_f rfl rfl) <| gl_op <| op_rd rfl (rd_move rfl) <| gl_no rfl rfl rfl <| gl_no rfl rfl rfl <| gl_op <| op_rd rfl (rd_pick_f rfl rfl) <| gl_op <| op_rd rfl (rd_move rfl) <| gl_no rfl rfl rfl <| gl_no rfl rfl rfl <| gl_op <| op_rd rfl (rd_pick_f rfl rfl) <| gl_op <| op_rd rfl (rd_move rfl) <| gl_no rfl rfl rfl <| gl_no rfl rfl rfl <| gl_op <| op_rd rfl (rd_pick_f rfl rfl) ?_
        refine gl_op <| op_rd rfl (rd_assign rfl) <| gl_nil <| gx_then <| gc_ret <| gx_ret1 (.inl rfl) Tryd.results11 rfl [] (by decide) ?_
        rw [decide_eq_true hg16] at h40; cases h40
      refine gl_op <| op_rd rfl (rd_move rfl) <| gl_no rfl rfl rfl <| gl_no rfl rfl rfl <| gl_no rfl rfl rfl <| gl_no rfl rfl rfl <| gl_no rfl rfl rfl <| gl_op <| op_rd rfl (rd_pick_f rfl rfl) <| gl_op <| op_rd rfl (rd_move rfl) <| gl_no rfl rfl rfl <| gl_no rfl rfl rfl <| gl_no rfl rfl rfl <| gl_no rfl rfl rfl <| gl_op <| op_rd rfl (rd_pick_f rfl rfl) <| gl_op <| op_rd rfl (rd_move rfl) <| gl_no rfl rfl rfl <| gl_no rfl rfl rfl <| gl_no rfl rfl rfl <| gl_no rfl rfl rfl <| gl_op <| op_rd rfl (rd_pick_f rfl rfl) <| gl_op <| op_rd rfl (rd_move rfl) <| gl_no rfl rfl rfl <| gl_no rfl rfl rfl <| gl_op <| op_rd rfl (rd_pick_f rfl rfl) <| gl_op <| op_rd rfl (rd_move rfl) <| gl_no rfl rfl rfl ?_
      refine gl_no rfl rfl rfl <| gl_op <| op_rd rfl (rd_pick_f rfl rfl) <| gl_op <| op_rd rfl (rd_move rfl) <| gl_no rfl rfl rfl <| gl_no rfl rfl rfl <| gl_op <| op_rd rfl (rd_pick_f rfl rfl) <| gl_op <| op_rd rfl (rd_assign rfl) <| gl_nil <| gx_then <| gc_ret <| gx_ret1 (.inl rfl) Tryd.results11 rfl [] (by decide) ?_
      exact absurd rfl h34
    refine (op_alloc ty_44 rfl rfl (fun b6 => ?_))
    refine ga_only 3 (bm 10 143) rfl rfl (by kernel_rfl) (by kernel_rfl) (.inr ⟨[9, 10, 11, 12, 13, 14, 15, 16, 17, 18, 19, 20, 21, 22, 23, 24, 25, 26, 27, 28, 29, 30, 31, 32], by decide, rfl⟩) (op_call rfl (vf := []) (vc := []) rfl rfl Tryd.call17 (fun w1 ho => Why_ok (ex12 d26 r26 pa26 pb26 pc26 t26 c26 cc26) (exHN (rowA (some b9)) (rowA (some b8)) (rowA (some b10)) (rowA (some b11))).hd ex_le ex_hle 0 72 w1 (ex_in (ho.rowSl 8 rfl) (ho.rowSl 7 rfl) (ho.rowSl 3 rfl) (ho.rowSl 2 rfl) (ho.rowSl 6 rfl) (ho.rowSl 5 rfl) (ho.rowSl 4 rfl)) (exh_in (ho.rowSl 31 rfl) (ho.rowSl 32 rfl) (ho.rowSl 30 rfl) (ho.rowSl 29 rfl)) (hT.at ho (by decide))) ?_)
    rintro _ _ hq
    obtain ⟨b29, r29, c29, rfl, rfl⟩ := ex_WhyR hq
    refine ga_first 4 (bm 10 159) rfl rfl rfl rfl (by kernel_rfl) (by kernel_rfl) ⟨[11, 12, 13, 14, 15, 16, 17, 18, 19, 20, 21, 22, 23, 24, 25, 26, 27, 28, 29, 30, 31, 32, 33, 34], by decide, rfl⟩ (qt_rd (rd_move rfl)) ?_
    refine ga_first 5 (bm 10 191) rfl rfl rfl rfl (by kernel_rfl) (by kernel_rfl) ⟨[11, 12, 13, 14, 15, 16, 17, 18, 19, 20, 21, 22, 23, 24, 25, 26, 27, 28, 29, 30, 31, 32, 33, 34], by decide, rfl⟩ (qt_rd (rd_extract rfl rfl)) ?_
    refine ga_first 6 (bm 10 255) rfl rfl rfl rfl (by kernel_rfl) (by kernel_rfl) ⟨[11, 12, 13, 14, 15, 16, 17, 18, 19, 20, 21, 22, 23, 24, 25, 26, 27, 28, 29, 30, 31, 32, 33, 34], by decide, rfl⟩ (qt_rd (rd_extract rfl rfl)) ?_
    refine ga_only 8 (bm 10 511) rfl rfl (by kernel_rfl) (by kernel_rfl) (.inr ⟨[11, 12, 13, 14, 15, 16, 17, 18, 19, 20, 21, 22, 23, 24, 25, 26, 27, 28, 29, 30, 31, 32, 33, 34], by decide, rfl⟩) (op_storeAgg 2 ty_44 rfl rfl rfl rfl rfl rfl (by rfl) ?_)
    refine ga_only 9 (bm 10 1023) rfl rfl (by kernel_rfl) (by kernel_rfl) (.inr ⟨[11, 12, 13, 14, 15, 16, 17, 18, 19, 20, 21, 22, 23, 24, 25, 26, 27, 28, 29, 30, 31, 32, 33, 34], by decide, rfl⟩) (op_rd rfl (rd_assign rfl) ?_)
    refine ga_end (by kernel_rfl) (.inl (by kernel_rfl)) ?_
    refine gx_then <| gc_seq <| gc_region <| gl_op <| op_rd rfl (rd_move rfl) <| gl_op <| op_rd rfl (rd_lenSlice Tryd.underlying28 rfl) <| gl_op (op_rd rfl (rd_eql rfl rfl) (gk_dec (fun h34 => ?_) (fun h34 => ?_)))
    · refine gl_op <| op_rd rfl (rd_move rfl) <| gl_yes rfl rfl <| op_rd rfl (rd_move rfl) <| gl_yes rfl rfl (op_rd rfl (rd_indexRow1 20 rfl Tryd.underlying28 ty_29 rfl rfl (by omega) (by omega)) ?_)
      refine gl_yes rfl rfl <| op_rd rfl (rd_load Tryd.underlying29 rfl rfl (ld_rowN 20 (off := 0) rfl rfl)) <| gl_yes rfl rfl (op_buildSlice (sz := 1) rfl rfl (fun _ => bs_29_3_0_1_2 _ _ _) rfl rfl (fun b39 => ?_))
      unfold KG.cell
      refine gl_yes rfl rfl (op_call rfl (vf := []) (vc := []) rfl rfl Tryd.call16 (fun w1 ho => sameIntsN_ok g16.ks [36, 48, 60] _ _ _ _ (by rw [hg16]; decide) w1 (ho.rowSl 22 rfl) (ho.rowSl 0 rfl)) ?_)
      rintro _ _ ⟨rfl, rfl⟩
      refine gk_bool (fun h40 => ?_) (fun h40 => ?_)
      · refine gl_op <| op_rd rfl (rd_pick_t rfl rfl) <| gl_op <| op_rd rfl (rd_move rfl) <| gl_yes rfl rfl <| op_rd rfl (rd_move rfl) <| gl_yes rfl rfl (op_buildSlice (sz := 1) rfl rfl (fun _ => bs_29_4_0_1_2_3 _ _ _ _) rfl rfl (fun b44 => ?_))
        refine gl_yes rfl rfl (op_call rfl (vf := []) (vc := []) rfl rfl Tryd.call30 (fun w1 ho => flutes_ok [36, 48, 60, 72] _ _ (by decide) w1 (ho.rowSl 0 rfl)) ?_)
        rintro _ _ ⟨r45, c45, rfl, rfl⟩
        refine gl_yes rfl rfl (op_call rfl (vf := []) (vc := []) rfl rfl Tryd.call29 (fun w1 ho => SamePipes_ok (flutesP [36, 48, 60, 72]) (flutesP [36, 48, 60, 72]) _ _ _ _ (by decide) w1 (ho.rowSl 14 rfl) (ho.rowSl 0 rfl)) ?_)
        rintro _ _ ⟨rfl, rfl⟩
        refine gk_bool (fun h46 => ?_) (fun h46 => ?_)
        · refine gl_op <| op_rd rfl (rd_pick_t rfl rfl) <| gl_op <| op_rd rfl (rd_move rfl) <| gl_yes rfl rfl (op_rd rfl (rd_loadAgg Tryd.underlying44 rfl ty_44 rfl (by exact cs_blk 5 (off := 0) (k := 6) rfl rfl) rfl) ?_)
          refine gl_yes rfl rfl (op_buildSlice (sz := 1) rfl rfl (fun _ => bs_29_2_0_1 _ _) rfl rfl (fun b50 => ?_))
          refine gl_yes rfl rfl (op_rd rfl (rd_build rfl (fun _ => bd_44_1_2_4_5 _ _ _ _ _ _)) ?_)
          refine gl_yes rfl rfl (op_call rfl (vf := []) (vc := []) rfl rfl Tryd.call19 (fun w1 ho => SameReason_ok ⟨0, 36, [0, 3], 0, 60, 1⟩ ⟨0, 36, [0, 3], 0, 60, 1⟩ (rowA r29) (rowA (some b50)) c29 2 (by decide) w1 (ho.rowSl 5 rfl) (ho.rowSl 0 rfl)) ?_)
          rintro _ _ ⟨rfl, rfl⟩
          refine gk_bool (fun h52 => ?_) (fun h52 => ?_)
          · refine gl_op <| op_rd rfl (rd_pick_t rfl rfl) <| gl_op <| op_rd rfl (rd_move rfl) <| gl_yes rfl rfl <| op_rd rfl (rd_move rfl) <| gl_yes rfl rfl (op_rd rfl (rd_eql rfl rfl) (gk_dec (fun h56 => ?_) (fun h56 => ?_)))
            · refine gl_op <| op_rd rfl (rd_pick_t rfl rfl) <| gl_op <| op_rd rfl (rd_move rfl) <| gl_yes rfl rfl <| op_rd rfl (rd_move rfl) <| gl_yes rfl rfl (op_rd rfl (rd_eql rfl rfl) (gk_dec (fun h60 => ?_) (fun h60 => ?_)))
              · refine gl_op <| op_rd rfl (rd_pick_t rfl rfl) <| gl_op <| op_rd rfl (rd_move rfl) <| gl_yes rfl rfl <| op_rd rfl (rd_move rfl) <| gl_yes rfl rfl (op_rd rfl (rd_eql rfl rfl) (gk_dec (fun h64 => ?_) (fun h64 => ?_)))
                · refine gl_op <| op_rd rfl (rd_pick_t rfl rfl) <| gl_op <| op_rd rfl (rd_assign rfl) <| gl_nil <| gx_then <| gc_ret <| gx_ret1 (.inl rfl) Tryd.results11 rfl [] (by decide) ?_
                  exact ⟨rfl, rfl⟩
                refine gl_op <| op_rd rfl (rd_pick_t rfl rfl) <| gl_op <| op_rd rfl (rd_assign rfl) <| gl_nil <| gx_then <| gc_ret <| gx_ret1 (.inl rfl) Tryd.results11 rfl [] (by decide) ?_
                exact absurd rfl h64
              refine gl_op <| op_rd rfl (rd_pick_t rfl rfl) <| gl_op <| op_rd rfl (rd_move rfl) <| gl_no rfl rfl rfl <| gl_no rfl rfl rfl <| gl_op <| op_rd rfl (rd_pick_f rfl rfl) <| gl_op <| op_rd rfl (rd_assign rfl) <| gl_nil <| gx_then <| gc_ret <| gx_ret1 (.inl rfl) Tryd.results11 rfl [] (by decide) ?_
              exact absurd rfl h60
            refine gl_op <| op_rd rfl (rd_pick_t rfl rfl) <| gl_op <| op_rd rfl (rd_move rfl) <| gl_no rfl rfl rfl <| gl_no rfl rfl rfl <| gl_op <| op_rd rfl (rd_pick_f rfl rfl) <| gl_op <| op_rd rfl (rd_move rfl) <| gl_no rfl rfl rfl <| gl_no rfl rfl rfl <| gl_op <| op_rd rfl (rd_pick_f rfl rfl) <| gl_op <| op_rd rfl (rd_assign rfl) <| gl_nil <| gx_then <| gc_ret <| gx_ret1 (.inl rfl) Tryd.results11 rfl [] (by decide) ?_
            exact absurd rfl h56
          refine gl_op <| op_rd rfl (rd_pick_t rfl rfl) <| gl_op <| op_rd rfl (rd_move rfl) <| gl_no rfl rfl rfl <| gl_no rfl rfl rfl <| gl_op <| op_rd rfl (rd_pick_f rfl rfl) <| gl_op <| op_rd rfl (rd_move rfl) <| gl_no rfl rfl rfl <| gl_no rfl rfl rfl <| gl_op <| op_rd rfl (rd_pick_f rfl rfl) <| gl_op <| op_rd rfl (rd_move rfl) <| gl_no rfl rfl rfl <| gl_no rfl rfl rfl <| gl_op <| op_rd rfl (rd_pick_f rfl rfl) <| gl_op <| op_rd rfl (rd_assign rfl) <| gl_nil <| gx_then <| gc_ret <| gx_ret1 (.inl rfl) Tryd.results11 rfl [] (by decide) ?_
          rw [decide_eq_true rfl] at h52; cases h52
        refine gl_op <| op_rd rfl (rd_pick_t rfl rfl) <| gl_op <| op_rd rfl (rd_move rfl) <| gl_no rfl rfl rfl <| gl_no rfl rfl rfl <| gl_no rfl rfl rfl <| gl_no rfl rfl rfl <| gl_op <| op_rd rfl (rd_pick_f rfl rfl) <| gl_op <| op_rd rfl (rd_move rfl) <| gl_no rfl rfl rfl <| gl_no rfl rfl rfl <| gl_op <| op_rd rfl (rd_pick_f rfl rfl) <| gl_op <| op_rd rfl (rd_move rfl) <| gl_no rfl rfl rfl <| gl_no rfl rfl rfl <| gl_op <| op_rd rfl (rd_pick_f rfl rfl) <| gl_op <| op_rd rfl (rd_move rfl) <| gl_no rfl rfl rfl <| gl_no rfl rfl rfl <| gl_op <| op_rd rfl (rd_pick_f rfl rfl) <| gl_op <| op_rd rfl (rd_assign rfl) <| gl_nil <| gx_then <| gc_ret <| gx_ret1 (.inl rfl) Tryd.results11 rfl [] (by decide) ?_
        rw [decide_eq_true rfl] at h46; cases h46
      refine gl_op <| op_rd rfl (rd_pick_t rfl rfl) <| gl_op <| op_rd rfl (rd_move rfl) <| gl_no rfl rfl rfl <| gl_no rfl rfl rfl <| gl_no rfl rfl rfl <| gl_no rfl rfl rfl <| gl_op <| op_rd rfl (rd_pick_f rfl rfl) <| gl_op <| op_rd rfl (rd_move rfl) <| gl_no rfl rfl rfl <| gl_no rfl rfl rfl <| gl_no rfl rfl rfl <| gl_no rfl rfl rfl <| gl_op <| op_rd rfl (rd_pick_f rfl rfl) <| gl_op <| op_rd rfl (rd_move rfl) <| gl_no rfl rfl rfl <| gl_no rfl rfl rfl <| gl_op <| op_rd rfl (rd_pick_f rfl rfl) <| gl_op <| op_rd rfl (rd_move rfl) <| gl_no rfl rfl rfl <| gl_no rfl rfl rfl <| gl_op <| op_rd rfl (rd_pick_f rfl rfl) <| gl_op <| op_rd rfl (rd_move rfl) <| gl_no rfl rfl rfl <| gl_no rfl rfl rfl <| gl_op <| op_rd rfl (rd_pick_f rfl rfl) ?_
      refine gl_op <| op_rd rfl (rd_assign rfl) <| gl_nil <| gx_then <| gc_ret <| gx_ret1 (.inl rfl) Tryd.results11 rfl [] (by decide) ?_
      rw [decide_eq_true hg16] at h40; cases h40
    refine gl_op <| op_rd rfl (rd_move rfl) <| gl_no rfl rfl rfl <| gl_no rfl rfl rfl <| gl_no rfl rfl rfl <| gl_no rfl rfl rfl <| gl_no rfl rfl rfl <| gl_op <| op_rd rfl (rd_pick_f rfl rfl) <| gl_op <| op_rd rfl (rd_move rfl) <| gl_no rfl rfl rfl <| gl_no rfl rfl rfl <| gl_no rfl rfl rfl <| gl_no rfl rfl rfl <| gl_op <| op_rd rfl (rd_pick_f rfl rfl) <| gl_op <| op_rd rfl (rd_move rfl) <| gl_no rfl rfl rfl <| gl_no rfl rfl rfl <| gl_no rfl rfl rfl <| gl_no rfl rfl rfl <| gl_op <| op_rd rfl (rd_pick_f rfl rfl) <| gl_op <| op_rd rfl (rd_move rfl) <| gl_no rfl rfl rfl <| gl_no rfl rfl rfl <| gl_op <| op_rd rfl (rd_pick_f rfl rfl) <| gl_op <| op_rd rfl (rd_move rfl) <| gl_no rfl rfl rfl ?_
    refine gl_no rfl rfl rfl <| gl_op <| op_rd rfl (rd_pick_f rfl rfl) <| gl_op <| op_rd rfl (rd_move rfl) <| gl_no rfl rfl rfl <| gl_no rfl rfl rfl <| gl_op <| op_rd rfl (rd_pick_f rfl rfl) <| gl_op <| op_rd rfl (rd_assign rfl) <| gl_nil <| gx_then <| gc_ret <| gx_ret1 (.inl rfl) Tryd.results11 rfl [] (by decide) ?_
    exact absurd rfl h34
  refine (op_alloc ty_44 rfl rfl (fun b6 => ?_))
  refine ga_only 0 (bm 10 135) rfl rfl (by kernel_rfl) (by kernel_rfl) (.inr ⟨[1, 2, 3, 4, 5, 6, 7, 8, 9, 10, 11, 12, 13, 14, 15, 16, 17, 18, 19, 20, 21, 22, 23, 24], by decide, rfl⟩) (op_call rfl (vf := []) (vc := []) rfl rfl Tryd.call27 (fun w1 ho => ex12_ok w1) ?_)
  rintro _ _ ⟨be26, d26, r26, pa26, pb26, pc26, t26, c26, cc26, rfl, rfl⟩
  refine ga_only 3 (bm 10 143) rfl rfl (by kernel_rfl) (by kernel_rfl) (.inr ⟨[9, 10, 11, 12, 13, 14, 15, 16, 17, 18, 19, 20, 21, 22, 23, 24, 25, 26, 27, 28, 29, 30, 31, 32], by decide, rfl⟩) (op_call rfl (vf := []) (vc := []) rfl rfl Tryd.call17 (fun w1 ho => Why_ok (ex12 d26 r26 pa26 pb26 pc26 t26 c26 cc26) (exHN (rowA (some b9)) (rowA (some b8)) (rowA (some b10)) (rowA (some b11))).hd ex_le ex_hle 0 72 w1 (ex_in (ho.rowSl 7 rfl) (ho.rowSl 6 rfl) (ho.rowSl 2 rfl) (ho.rowSl 1 rfl) (ho.rowSl 5 rfl) (ho.rowSl 4 rfl) (ho.rowSl 3 rfl)) (exh_in (ho.rowSl 31 rfl) (ho.rowSl 32 rfl) (ho.rowSl 30 rfl) (ho.rowSl 29 rfl)) (hT.at ho (by decide))) ?_)
  rintro _ _ hq
  obtain ⟨b29, r29, c29, rfl, rfl⟩ := ex_WhyR hq
  refine ga_first 4 (bm 10 159) rfl rfl rfl rfl (by kernel_rfl) (by kernel_rfl) ⟨[11, 12, 13, 14, 15, 16, 17, 18, 19, 20, 21, 22, 23, 24, 25, 26, 27, 28, 29, 30, 31, 32, 33, 34], by decide, rfl⟩ (qt_rd (rd_move rfl)) ?_
  refine ga_first 5 (bm 10 191) rfl rfl rfl rfl (by kernel_rfl) (by kernel_rfl) ⟨[11, 12, 13, 14, 15, 16, 17, 18, 19, 20, 21, 22, 23, 24, 25, 26, 27, 28, 29, 30, 31, 32, 33, 34], by decide, rfl⟩ (qt_rd (rd_extract rfl rfl)) ?_
  refine ga_first 6 (bm 10 255) rfl rfl rfl rfl (by kernel_rfl) (by kernel_rfl) ⟨[11, 12, 13, 14, 15, 16, 17, 18, 19, 20, 21, 22, 23, 24, 25, 26, 27, 28, 29, 30, 31, 32, 33, 34], by decide, rfl⟩ (qt_rd (rd_extract rfl rfl)) ?_
  refine ga_only 8 (bm 10 511) rfl rfl (by kernel_rfl) (by kernel_rfl) (.inr ⟨[11, 12, 13, 14, 15, 16, 17, 18, 19, 20, 21, 22, 23, 24, 25, 26, 27, 28, 29, 30, 31, 32, 33, 34], by decide, rfl⟩) (op_storeAgg 10 ty_44 rfl rfl rfl rfl rfl rfl (by rfl) ?_)
  refine ga_only 9 (bm 10 1023) rfl rfl (by kernel_rfl) (by kernel_rfl) (.inr ⟨[11, 12, 13, 14, 15, 16, 17, 18, 19, 20, 21, 22, 23, 24, 25, 26, 27, 28, 29, 30, 31, 32, 33, 34], by decide, rfl⟩) (op_rd rfl (rd_assign rfl) ?_)
  refine ga_end (by kernel_rfl) (.inl (by kernel_rfl)) ?_
  refine gx_then <| gc_seq <| gc_region <| gl_op <| op_rd rfl (rd_move rfl) <| gl_op <| op_rd rfl (rd_lenSlice Tryd.underlying28 rfl) <| gl_op (op_rd rfl (rd_eql rfl rfl) (gk_dec (fun h34 => ?_) (fun h34 => ?_)))
  · refine gl_op <| op_rd rfl (rd_move rfl) <| gl_yes rfl rfl <| op_rd rfl (rd_move rfl) <| gl_yes rfl rfl (op_rd rfl (rd_indexRow1 20 rfl Tryd.underlying28 ty_29 rfl rfl (by omega) (by omega)) ?_)
    refine gl_yes rfl rfl <| op_rd rfl (rd_load Tryd.underlying29 rfl rfl (ld_rowN 20 (off := 0) rfl rfl)) <| gl_yes rfl rfl (op_buildSlice (sz := 1) rfl rfl (fun _ => bs_29_3_0_1_2 _ _ _) rfl rfl (fun b39 => ?_))
    unfold KG.cell
    refine gl_yes rfl rfl (op_call rfl (vf := []) (vc := []) rfl rfl Tryd.call16 (fun w1 ho => sameIntsN_ok g16.ks [36, 48, 60] _ _ _ _ (by rw [hg16]; decide) w1 (ho.rowSl 22 rfl) (ho.rowSl 0 rfl)) ?_)
    rintro _ _ ⟨rfl, rfl⟩
    refine gk_bool (fun h40 => ?_) (fun h40 => ?_)
    · refine gl_op <| op_rd rfl (rd_pick_t rfl rfl) <| gl_op <| op_rd rfl (rd_move rfl) <| gl_yes rfl rfl <| op_rd rfl (rd_move rfl) <| gl_yes rfl rfl (op_buildSlice (sz := 1) rfl rfl (fun _ => bs_29_4_0_1_2_3 _ _ _ _) rfl rfl (fun b44 => ?_))
      refine gl_yes rfl rfl (op_call rfl (vf := []) (vc := []) rfl rfl Tryd.call30 (fun w1 ho => flutes_ok [36, 48, 60, 72] _ _ (by decide) w1 (ho.rowSl 0 rfl)) ?_)
      rintro _ _ ⟨r45, c45, rfl, rfl⟩
      refine gl_yes rfl rfl (op_call rfl (vf := []) (vc := []) rfl rfl Tryd.call29 (fun w1 ho => SamePipes_ok (flutesP [36, 48, 60, 72]) (flutesP [36, 48, 60, 72]) _ _ _ _ (by decide) w1 (ho.rowSl 14 rfl) (ho.rowSl 0 rfl)) ?_)
      rintro _ _ ⟨rfl, rfl⟩
      refine gk_bool (fun h46 => ?_) (fun h46 => ?_)
      · refine gl_op <| op_rd rfl (rd_pick_t rfl rfl) <| gl_op <| op_rd rfl (rd_move rfl) <| gl_yes rfl rfl (op_rd rfl (rd_loadAgg Tryd.underlying44 rfl ty_44 rfl (by exact cs_blk 13 (off := 0) (k := 6) rfl rfl) rfl) ?_)
        refine gl_yes rfl rfl (op_buildSlice (sz := 1) rfl rfl (fun _ => bs_29_2_0_1 _ _) rfl rfl (fun b50 => ?_))
        refine gl_yes rfl rfl (op_rd rfl (rd_build rfl (fun _ => bd_44_1_2_4_5 _ _ _ _ _ _)) ?_)
        refine gl_yes rfl rfl (op_call rfl (vf := []) (vc := []) rfl rfl Tryd.call19 (fun w1 ho => SameReason_ok ⟨0, 36, [0, 3], 0, 60, 1⟩ ⟨0, 36, [0, 3], 0, 60, 1⟩ (rowA r29) (rowA (some b50)) c29 2 (by decide) w1 (ho.rowSl 5 rfl) (ho.rowSl 0 rfl)) ?_)
        rintro _ _ ⟨rfl, rfl⟩
        refine gk_bool (fun h52 => ?_) (fun h52 => ?_)
        · refine gl_op <| op_rd rfl (rd_pick_t rfl rfl) <| gl_op <| op_rd rfl (rd_move rfl) <| gl_yes rfl rfl <| op_rd rfl (rd_move rfl) <| gl_yes rfl rfl (op_rd rfl (rd_eql rfl rfl) (gk_dec (fun h56 => ?_) (fun h56 => ?_)))
          · refine gl_op <| op_rd rfl (rd_pick_t rfl rfl) <| gl_op <| op_rd rfl (rd_move rfl) <| gl_yes rfl rfl <| op_rd rfl (rd_move rfl) <| gl_yes rfl rfl (op_rd rfl (rd_eql rfl rfl) (gk_dec (fun h60 => ?_) (fun h60 => ?_)))
            · refine gl_op <| op_rd rfl (rd_pick_t rfl rfl) <| gl_op <| op_rd rfl (rd_move rfl) <| gl_yes rfl rfl <| op_rd rfl (rd_move rfl) <| gl_yes rfl rfl (op_rd rfl (rd_eql rfl rfl) (gk_dec (fun h64 => ?_) (fun h64 => ?_)))
              · refine gl_op <| op_rd rfl (rd_pick_t rfl rfl) <| gl_op <| op_rd rfl (rd_assign rfl) <| gl_nil <| gx_then <| gc_ret <| gx_ret1 (.inl rfl) Tryd.results11 rfl [] (by decide) ?_
                exact ⟨rfl, rfl⟩
              refine gl_op <| op_rd rfl (rd_pick_t rfl rfl) <| gl_op <| op_rd rfl (rd_assign rfl) <| gl_nil <| gx_then <| gc_ret <| gx_ret1 (.inl rfl) Tryd.results11 rfl [] (by decide) ?_
              exact absurd rfl h64
            refine gl_op <| op_rd rfl (rd_pick_t rfl rfl) <| gl_op <| op_rd rfl (rd_move rfl) <| gl_no rfl rfl rfl <| gl_no rfl rfl rfl <| gl_op <| op_rd rfl (rd_pick_f rfl rfl) <| gl_op <| op_rd rfl (rd_assign rfl) <| gl_nil <| gx_then <| gc_ret <| gx_ret1 (.inl rfl) Tryd.results11 rfl [] (by decide) ?_
            exact absurd rfl h60
          refine gl_op <| op_rd rfl (rd_pick_t rfl rfl) <| gl_op <| op_rd rfl (rd_move rfl) <| gl_no rfl rfl rfl <| gl_no rfl rfl rfl <| gl_op <| op_rd rfl (rd_pick_f rfl rfl) <| gl_op <| op_rd rfl (rd_move rfl) <| gl_no rfl rfl rfl <| gl_no rfl rfl rfl <| gl_op <| op_rd rfl (rd_pick_f rfl rfl) <| gl_op <| op_rd rfl (rd_assign rfl) <| gl_nil <| gx_then <| gc_ret <| gx_ret1 (.inl rfl) Tryd.results11 rfl [] (by decide) ?_
          exact absurd rfl h56
        refine gl_op <| op_rd rfl (rd_pick_t rfl rfl) <| gl_op <| op_rd rfl (rd_move rfl) <| gl_no rfl rfl rfl <| gl_no rfl rfl rfl <| gl_op <| op_rd rfl (rd_pick_f rfl rfl) <| gl_op <| op_rd rfl (rd_move rfl) <| gl_no rfl rfl rfl <| gl_no rfl rfl rfl <| gl_op <| op_rd rfl (rd_pick_f rfl rfl) <| gl_op <| op_rd rfl (rd_move rfl) <| gl_no rfl rfl rfl <| gl_no rfl rfl rfl <| gl_op <| op_rd rfl (rd_pick_f rfl rfl) <| gl_op <| op_rd rfl (rd_assign rfl) <| gl_nil <| gx_then <| gc_ret <| gx_ret1 (.inl rfl) Tryd.results11 rfl [] (by decide) ?_
        rw [decide_eq_true rfl] at h52; cases h52
      refine gl_op <| op_rd rfl (rd_pick_t rfl rfl) <| gl_op <| op_rd rfl (rd_move rfl) <| gl_no rfl rfl rfl <| gl_no rfl rfl rfl <| gl_no rfl rfl rfl <| gl_no rfl rfl rfl <| gl_op <| op_rd rfl (rd_pick_f rfl rfl) <| gl_op <| op_rd rfl (rd_move rfl) <| gl_no rfl rfl rfl <| gl_no rfl rfl rfl <| gl_op <| op_rd rfl (rd_pick_f rfl rfl) <| gl_op <| op_rd rfl (rd_move rfl) <| gl_no rfl rfl rfl <| gl_no rfl rfl rfl <| gl_op <| op_rd rfl (rd_pick_f rfl rfl) <| gl_op <| op_rd rfl (rd_move rfl) <| gl_no rfl rfl rfl <| gl_no rfl rfl rfl <| gl_op <| op_rd rfl (rd_pick_f rfl rfl) <| gl_op <| op_rd rfl (rd_assign rfl) <| gl_nil <| gx_then <| gc_ret <| gx_ret1 (.inl rfl) Tryd.results11 rfl [] (by decide) ?_
      rw [decide_eq_true rfl] at h46; cases h46
    refine gl_op <| op_rd rfl (rd_pick_t rfl rfl) <| gl_op <| op_rd rfl (rd_move rfl) <| gl_no rfl rfl rfl <| gl_no rfl rfl rfl <| gl_no rfl rfl rfl <| gl_no rfl rfl rfl <| gl_op <| op_rd rfl (rd_pick_f rfl rfl) <| gl_op <| op_rd rfl (rd_move rfl) <| gl_no rfl rfl rfl <| gl_no rfl rfl rfl <| gl_no rfl rfl rfl <| gl_no rfl rfl rfl <| gl_op <| op_rd rfl (rd_pick_f rfl rfl) <| gl_op <| op_rd rfl (rd_move rfl) <| gl_no rfl rfl rfl <| gl_no rfl rfl rfl <| gl_op <| op_rd rfl (rd_pick_f rfl rfl) <| gl_op <| op_rd rfl (rd_move rfl) <| gl_no rfl rfl rfl <| gl_no rfl rfl rfl <| gl_op <| op_rd rfl (rd_pick_f rfl rfl) <| gl_op <| op_rd rfl (rd_move rfl) <| gl_no rfl rfl rfl <| gl_no rfl rfl rfl <| gl_op <| op_rd rfl (rd_pick_f rfl rfl) ?_
    refine gl_op <| op_rd rfl (rd_assign rfl) <| gl_nil <| gx_then <| gc_ret <| gx_ret1 (.inl rfl) Tryd.results11 rfl [] (by decide) ?_
    rw [decide_eq_true hg16] at h40; cases h40
  refine gl_op <| op_rd rfl (rd_move rfl) <| gl_no rfl rfl rfl <| gl_no rfl rfl rfl <| gl_no rfl rfl rfl <| gl_no rfl rfl rfl <| gl_no rfl rfl rfl <| gl_op <| op_rd rfl (rd_pick_f rfl rfl) <| gl_op <| op_rd rfl (rd_move rfl) <| gl_no rfl rfl rfl <| gl_no rfl rfl rfl <| gl_no rfl rfl rfl <| gl_no rfl rfl rfl <| gl_op <| op_rd rfl (rd_pick_f rfl rfl) <| gl_op <| op_rd rfl (rd_move rfl) <| gl_no rfl rfl rfl <| gl_no rfl rfl rfl <| gl_no rfl rfl rfl <| gl_no rfl rfl rfl <| gl_op <| op_rd rfl (rd_pick_f rfl rfl) <| gl_op <| op_rd rfl (rd_move rfl) <| gl_no rfl rfl rfl <| gl_no rfl rfl rfl <| gl_op <| op_rd rfl (rd_pick_f rfl rfl) <| gl_op <| op_rd rfl (rd_move rfl) <| gl_no rfl rfl rfl ?_
  refine gl_no rfl rfl rfl <| gl_op <| op_rd rfl (rd_pick_f rfl rfl) <| gl_op <| op_rd rfl (rd_move rfl) <| gl_no rfl rfl rfl <| gl_no rfl rfl rfl <| gl_op <| op_rd rfl (rd_pick_f rfl rfl) <| gl_op <| op_rd rfl (rd_assign rfl) <| gl_nil <| gx_then <| gc_ret <| gx_ret1 (.inl rfl) Tryd.results11 rfl [] (by decide) ?_
  exact absurd rfl h34
end Go.Proofs.YtbjijbbkfgcleaaDoor
namespace Go.Proofs.YtbjijbbkfgcleaaDoor
open Go.Gv
open Go.RowKit
open Go.Sn
open Sx
end Go.Proofs.YtbjijbbkfgcleaaDoor
namespace Go.Proofs.YtbjijbbkfgcleaaDoor
open Go.Gv
open Go.RowKit
open Go.Sn
open Go.Deep Go.ChangeShapes Go.WideShapes
namespace Sx
section
variable {H : Type} {enc : TypeId × Value → H} {W : World} {base : Nat} {sp : Nat → Bool} {held : Bool}
end
end Sx
end Go.Proofs.YtbjijbbkfgcleaaDoor
namespace Go.Proofs.YtbjijbbkfgcleaaDoor
open Go.Gv
open Go.RowKit
open Go.Sn
open Go.ChangeShapes Go.WideShapes Go.ChangeAt Go.WideMaps Go.WideElems
namespace Sx
theorem tryLaid : laidOutB Tryd.prog = true := by kernel_rfl
theorem tryOwn : ownKnob Tryd.prog.godebug = none := by kernel_rfl
theorem stays {H : Type} {enc : TypeId × Value → H} {W W' : World} (hb : Below W.heap.size W W') {sp : Nat → Bool} : ∀ {ts : List TypeId} {vs : List Value} {ds : List (DataW H)} {p : List MemPlace},
    DataW.TrodAll enc Tryd.prog W 0 (fun _ => true) true ts vs ds p → (∀ t ∈ ts, Tryd.prog.readableRec t = true ∧ t < Tryd.prog.types.size) → (∀ x ∈ p, x.block < W.heap.size) → (∀ x ∈ p, sp x.block = true) → DataW.TrodAll enc Tryd.prog W' 0 sp true ts vs ds p
  | [], _, _, _, h, _, _, _ => by
    obtain ⟨rfl, rfl, rfl⟩ := trodAll_nil h
    exact h
  | t :: ts, _, _, _, h, hr, hlt, hsp => by
    obtain ⟨v, vs1, d, ds1, a, b, rfl, rfl, rfl, h1, h2⟩ := trodAll_cons h
    have hr1 := hr t (by simp)
    exact ⟨a, b, WideElems.Trod_stays tryLaid hr1.1 hr1.2 h1 (fun x hx => hb.same (hlt x (List.mem_append_left _ hx))) (fun x hx => hsp x (List.mem_append_left _ hx)),
      stays hb h2 (fun u hu => hr u (List.mem_cons_of_mem _ hu)) (fun x hx => hlt x (List.mem_append_right _ hx)) (fun x hx => hsp x (List.mem_append_right _ hx)), rfl⟩
set_option maxRecDepth 100000 in
/-- the law's row: it returned true, and nothing that was there has turned -/
theorem law_post {H : Type} {enc : TypeId × Value → H} {f : Func} {s : ChangeSpec} {fresh handsOn again : Bool} {W W' : World} {args : Array Value} {ds gs : List (DataW H)} {before : List MemPlace}
    (hW : DataW.Whole enc Tryd.prog f.params.toList s.vars false W args.toList ds gs before) (hv : s.vars = []) (hb : Below W.heap.size W W')
    (hrt : f.resultTypes = #[4]) (hres : (s.fn H ds).results = [.lit (.bool true)]) (hargs : (s.fn H ds).args = ds) (hvars : (s.fn H ds).vars = []) (hr : ∀ t ∈ f.params.toList, Tryd.prog.readableRec t = true ∧ t < Tryd.prog.types.size) :
    s.post enc Tryd.prog f false fresh handsOn again W args (.bool true) W' := by
  have hlt : ∀ x ∈ before, x.block < W.heap.size := fun x hx => by simpa using hW.lt x hx
  have hW0 := hW
  obtain ⟨p, q, hA, hV, rfl, hz, hn⟩ := hW
  rw [hv] at hV
  obtain ⟨rfl, rfl⟩ := trodVars_none hV
  simp only [List.append_nil] at hz hlt hW0
  have hR : ∀ (b : Nat) (sp : Nat → Bool) (hd : Bool), DataW.TrodAll enc Tryd.prog W' b sp hd f.resultTypes.toList ((Value.bool true).resultList f.resultTypes.size) (s.fn H (ds ++ [])).results [] := fun b sp hd => by
    rw [List.append_nil, hres, hrt]
    exact trodAll_cons_mk (shut_bool Tryd.underlying4 _) trodAll_mk0
  have hA' : ∀ sp : Nat → Bool, (∀ x ∈ p, sp x.block = true) → DataW.TrodAll enc Tryd.prog W' 0 sp true f.params.toList args.toList (s.fn H (ds ++ [])).args p := fun sp hsp => by
    rw [List.append_nil, hargs]; exact stays hb hA hr hlt hsp
  have hVv : ∀ sp : Nat → Bool, DataW.TrodVars enc Tryd.prog W' sp s.vars (s.fn H (ds ++ [])).vars [] := fun sp => by
    rw [List.append_nil, hv, hvars]; rfl
  have hok : ∀ (j : Nat) (t : TypeId) (r : Value), f.resultTypes[j]? = some t → ((Value.bool true).resultList f.resultTypes.size)[j]? = some r → Value.okWide Tryd.prog W' .any 0 t r := ok_one hrt rfl (okWide_bool_mk Tryd.underlying4 _)
  refine ⟨ds, [], p, [], p, [], hW0, hR _ _ _, hA' _ (fun x hx => by simpa using hlt x hx), hVv _, World.keptBut_mono (fun x hx => ⟨hx, .inr (by simpa using hx)⟩) (hb.frame _), fun _ => ?_⟩
  refine ⟨hok, _, _, ([] ++ p) ++ [], ⟨[] ++ p, [], trodAll_append (hA' (fun _ => true) (fun _ _ => rfl)) (hR _ _ _), hVv _, rfl, ?_, fun h => by cases h⟩, ?_⟩
  · intro b off hp
    have hp' : MemPlace.cell b off ∈ p := by simpa using hp
    rw [hb.frozen (p := ⟨b, off, none⟩) (hlt _ hp')]
    exact hz b off hp'
  · intro x hx _
    simpa using hx
set_option maxRecDepth 100000
def laidL : List (String × DataW Unit) := [("math/bits.deBruijn32tab", Rows.laid_math_bits_deBruijn32tab), ("math/bits.deBruijn64tab", Rows.laid_math_bits_deBruijn64tab), ("internal/strconv.uint64pow10", Rows.laid_internal_strconv_uint64pow10)]
theorem door_met (os : Os) (args : Array Value) : laidMetH Tryd.prog laidL ((World.doorLaid Tryd.prog 400 os).forCall (fun _ _ => 0) ⟨#[], args, []⟩).memory :=
  laidMetH_of_parts3 (fuel := 8) (laidMet_of_run' 8 (by kernel_rfl) (by kernel_rfl)) (by kernel_rfl) (by kernel_rfl)
theorem tab_of {W : World} (h : laidMetH Tryd.prog laidL W) : TabIn W := by
  rw [MakeChecks.laidMetH_plain _ _ _ (by kernel_rfl)] at h
  obtain ⟨ps, ⟨g0, t0, cs0, f0, p0, q0, hg0, ht0, hv0, hd0, ⟨g1, t1, cs1, f1, p1, q1, hg1, ht1, hv1, hd1, ⟨g2, t2, cs2, f2, p2, q2, hg2, ht2, hv2, hd2, _⟩, _⟩, _⟩, _, _⟩ := h
  obtain rfl := Option.some.inj ((show Tryd.prog.globalNamed "math/bits.deBruijn64tab" = some 0 by kernel_rfl).symm.trans hg1)
  obtain rfl := Option.some.inj ((show (Tryd.prog.globals[0]?).map (·.type) = some 162 by kernel_rfl).symm.trans ht1)
  intro i hi
  have h1 := arr_cells (l := tab64) Tryd.underlying162 Tryd.underlying5 (by kernel_rfl) hd1 i hi
  have h2 := World.var?_cell hg1 hv1 i
  rw [show ((⟨0, 0, none⟩ : Addr).add i) = ⟨0, i, none⟩ by rw [Addr.add_lit, Nat.zero_add], h2, ← Array.getElem?_toList]
  exact h1
end Sx
end Go.Proofs.YtbjijbbkfgcleaaDoor
namespace Go.Proofs.YtbjijbbkfgcleaaDoor
open Go.Gv
open Go.RowKit
open Go.Sn
open Sx
namespace Sx
theorem setC_put {X Y k : Nat} (hk : k < 2) : (setC (wD X Y k)).set k (.int .u64 ((andn (wordOf X k) (wordOf Y k) : Nat) : Int)) = setC (wD X Y (k + 1)) := by
  rcases (show k = 0 ∨ k = 1 by omega) with rfl | rfl
  · unfold setC
    rw [wD_lo, wD_hi, wD_lo, wD_hi, if_neg (by omega), if_neg (by omega), if_pos (by omega), if_neg (by omega)]; rfl
  · unfold setC
    rw [wD_lo, wD_hi, wD_lo, wD_hi, if_pos (by omega), if_neg (by omega), if_pos (by omega), if_pos (by omega)]; rfl
theorem word_at {zs : List Nat} {i k Z W : Nat} (h : zs[i]? = some Z) (hk : k < 2) (hw : wordOf Z k = W) : (zs.flatMap setC)[i * 2 + k]? = some (.int .u64 ((W : Nat) : Int)) := by
  rw [get_flat setC 2 (fun _ => rfl) h (j := k) hk (setC_at _ k hk), hw]
end Sx
open Sx
set_option maxRecDepth 100000 in
set_option maxHeartbeats 1000000 in
theorem Change_ok (s : Org) (m n : Hd) (hle : OrgLe s) (hhem : HdLe m) (hhen : HdLe n) (w0 : World) (hS : OrgIn s w0 []) (hHm : HdIn m w0 []) (hHn : HdIn n w0 []) (hT : TabIn w0) : Sp Tryd.prog 26 [s.val, m.val, n.val] w0 [] (ChangeR 42 s m n) := by
  refine spec_enter Tryd.func26 rfl Tryd.ntmps26 rfl (Own.refl _) ?_
  simp only [argEnv]
  refine gc_seq <| gc_region <| gl_op (op_box rfl rfl rfl (fun b3 => ?_))
  refine gl_op (op_box rfl rfl rfl (fun b4 => ?_))
  refine gl_op (op_box rfl rfl rfl (fun b5 => ?_))
  refine gl_op <| op_rd rfl (rd_assign rfl) <| gl_op <| op_rd rfl (rd_assign rfl) <| gl_op <| op_rd rfl (rd_assign rfl) <| gl_nil <| gx_then <| gc_seq <| gc_seq <| gc_region <| gl_op (op_rd rfl (rd_loadAgg Tryd.underlying27 rfl ty_27 rfl (by exact cs_blk 2 (off := 0) (k := 4) rfl rfl) rfl) ?_)
  refine gl_op (op_rd rfl (rd_loadAgg Tryd.underlying31 rfl ty_31 rfl (by exact cs_blk 1 (off := 0) (k := 3) rfl rfl) rfl) ?_)
  refine gl_op (op_call rfl (vf := []) (vc := []) rfl rfl Tryd.call14 (fun w1 ho => Check_ok s m hle hhem w1 (hS.at ho) (hHm.at ho)) ?_)
  rintro _ _ ⟨rfl, rfl⟩
  refine gl_op <| op_rd rfl (rd_assign rfl) <| gl_nil <| gx_then <| gc_seq <| gc_region <| gl_op <| op_rd rfl (rd_move rfl) <| gl_op (op_rd rfl (rd_neq rfl rfl) (gk_dec (fun h19 => ?_) (fun h19 => ?_)))
  · refine gl_nil <| gx_then <| gc_cond_t rfl <| gc_seq <| gc_region <| gl_op <| op_rd rfl (rd_move rfl) <| gl_op <| op_rd rfl (rd_assign rfl) <| gl_op <| op_rd rfl (rd_assign rfl) <| gl_op <| op_rd rfl (rd_assign rfl) <| gl_nil <| gx_then <| gc_ret <| gx_then_ret <| gx_ret3 (.inl rfl) Tryd.results26 rfl rfl rfl [] (by decide) ?_
    exact .inl ⟨h19, rfl, rfl⟩
  refine gl_nil <| gx_then <| gc_cond_f rfl <| gc_skip <| gx_then <| gc_seq <| gc_seq <| gc_region <| gl_op (op_rd rfl (rd_loadAgg Tryd.underlying27 rfl ty_27 rfl (by exact cs_blk 2 (off := 0) (k := 4) rfl rfl) rfl) ?_)
  refine gl_op (op_rd rfl (rd_loadAgg Tryd.underlying31 rfl ty_31 rfl (by exact cs_blk 0 (off := 0) (k := 3) rfl rfl) rfl) ?_)
  refine gl_op (op_call rfl (vf := []) (vc := []) rfl rfl Tryd.call14 (fun w1 ho => Check_ok s n hle hhen w1 (hS.at ho) (hHn.at ho)) ?_)
  rintro _ _ ⟨rfl, rfl⟩
  refine gl_op <| op_rd rfl (rd_assign rfl) <| gl_nil <| gx_then <| gc_seq <| gc_region <| gl_op <| op_rd rfl (rd_move rfl) <| gl_op (op_rd rfl (rd_neq rfl rfl) (gk_dec (fun h25 => ?_) (fun h25 => ?_)))
  · refine gl_nil <| gx_then <| gc_cond_t rfl <| gc_seq <| gc_region <| gl_op <| op_rd rfl (rd_move rfl) <| gl_op <| op_rd rfl (rd_assign rfl) <| gl_op <| op_rd rfl (rd_assign rfl) <| gl_op <| op_rd rfl (rd_assign rfl) <| gl_nil <| gx_then <| gc_ret <| gx_then_ret <| gx_ret3 (.inl rfl) Tryd.results26 rfl rfl rfl [] (by decide) ?_
    exact .inr (.inl ⟨by omega, h25, rfl, rfl⟩)
  have hem : handErr s m = 0 := by omega
  have hen : handErr s n = 0 := by omega
  obtain ⟨m, rfl, hgm⟩ := good_of (s := s) hhem hem
  obtain ⟨n, rfl, hgn⟩ := good_of (s := s) hhen hen
  have hNm := HNIn.of hHm
  have hNn := HNIn.of hHn
  simp only [HN.hd_val]
  have hnr := hgm.nr
  refine gl_nil <| gx_then <| gc_cond_f rfl <| gc_skip <| gx_then <| gc_seq <| gc_drawP [0, 1, 2] true 7 rfl <| ga_first 0 (bm 8 1) rfl rfl rfl rfl (by kernel_rfl) (by kernel_rfl) ⟨[0, 1, 2], by decide, rfl⟩ (qt_rd (rd_loadAgg Tryd.underlying27 rfl ty_27 rfl (by exact cs_blk 2 (off := 0) (k := 4) rfl rfl) rfl)) ?_
  refine ga_first 1 (bm 8 3) rfl rfl rfl rfl (by kernel_rfl) (by kernel_rfl) ⟨[0, 1, 2], by decide, rfl⟩ (qt_rd (rd_loadAgg Tryd.underlying31 rfl ty_31 rfl (by exact cs_blk 1 (off := 0) (k := 3) rfl rfl) rfl)) ?_
  refine ga_first 3 (bm 8 11) rfl rfl rfl rfl (by kernel_rfl) (by kernel_rfl) ⟨[0, 1, 2], by decide, rfl⟩ (qt_rd (rd_loadAgg Tryd.underlying27 rfl ty_27 rfl (by exact cs_blk 2 (off := 0) (k := 4) rfl rfl) rfl)) ?_
  refine ga_first 4 (bm 8 27) rfl rfl rfl rfl (by kernel_rfl) (by kernel_rfl) ⟨[0, 1, 2], by decide, rfl⟩ (qt_rd (rd_loadAgg Tryd.underlying31 rfl ty_31 rfl (by exact cs_blk 0 (off := 0) (k := 3) rfl rfl) rfl)) ?_
  refine ga_only 2 (bm 8 31) rfl rfl (by kernel_rfl) (by kernel_rfl) (.inr ⟨[0, 1, 2], by decide, rfl⟩) (op_call rfl (vf := []) (vc := []) rfl rfl Tryd.call45 (fun w1 ho => sounds_ok s m hle hgm w1 (hS.at ho) (hNm.at ho) (hT.at ho (by decide))) ?_)
  rintro _ _ ⟨b29, xs, rfl, rfl, hux⟩
  have hxl := hux.len
  refine ga_only 5 (bm 8 63) rfl rfl (by kernel_rfl) (by kernel_rfl) (.inr ⟨[1, 2, 3], by decide, rfl⟩) (op_call rfl (vf := []) (vc := []) rfl rfl Tryd.call45 (fun w1 ho => sounds_ok s n hle hgn w1 (hS.at ho) (hNn.at ho) (hT.at ho (by decide))) ?_)
  rintro _ _ ⟨b32, ys, rfl, rfl, huy⟩
  have hyl := huy.len
  refine ga_first 6 (bm 8 127) rfl rfl rfl rfl (by kernel_rfl) (by kernel_rfl) ⟨[2, 3, 4], by decide, rfl⟩ (qt_rd (rd_assign rfl)) ?_
  refine ga_first 7 (bm 8 255) rfl rfl rfl rfl (by kernel_rfl) (by kernel_rfl) ⟨[2, 3, 4], by decide, rfl⟩ (qt_rd (rd_assign rfl)) ?_
  refine ga_end (by kernel_rfl) (.inr ⟨[2, 3, 4], by decide, rfl⟩) ?_
  refine gx_then <| gc_seq <| gc_seq <| gc_region <| gl_op <| op_rd rfl (rd_move rfl) <| gl_op <| op_rd rfl (rd_lenSlice Tryd.underlying84 rfl) <| gl_op <| op_rd rfl (rd_move rfl) <| gl_nil <| gx_then <| gc_block ?_
  rw [show xs.flatMap setC = (chg xs ys 0 0).flatMap setC by rw [chg_zero], show ys.flatMap setC = (chg ys xs 0 0).flatMap setC by rw [chg_zero]]
  refine gc_loopF (ι := Nat) [(11, _), (12, _), (34, _)] [_, _, _] (fun i => i ≤ s.rs.length) (fun i Fr0 => ((35, natV i) :: Fr0)) (fun i Fr0 => (.row 90 2 (some b29) s.rs.length s.rs.length ((chg xs ys i 0).flatMap setC) :: .row 90 2 (some b32) s.rs.length s.rs.length ((chg ys xs i 0).flatMap setC) :: Fr0)) (fun i => s.rs.length - i) 0 (Nat.zero_le _) ⟨rfl, rfl, rfl, rfl, trivial⟩ ⟨[1, 0, 2, 3, 4], by decide, rfl⟩ ?_
  rintro i hi
  refine gc_seq <| gc_region <| gl_op (op_rd rfl (rd_lss rfl rfl) (gk_dec (fun h36 => ?_) (fun h36 => ?_)))
  · have hX := huy.lt
    have hXx := hux.lt
    obtain ⟨X, hXd⟩ : ∃ X, xs.getD i 0 = X := ⟨_, rfl⟩
    obtain ⟨Y, hYd⟩ : ∃ Y, ys.getD i 0 = Y := ⟨_, rfl⟩
    have hXl : X < 2 ^ 128 := by rw [← hXd]; exact getD_lt hux.lt i
    have hYl : Y < 2 ^ 128 := by rw [← hYd]; exact getD_lt huy.lt i
    refine gl_nil <| gx_then <| gc_seq <| gc_cond_t rfl <| gc_skip <| gx_then <| gc_seq <| gc_block <| gc_seq <| gc_region <| gl_op <| op_rd rfl (rd_move rfl) <| gl_op <| op_rd rfl (rd_assign rfl) <| gl_nil <| gx_then <| gc_seq <| gc_region <| gl_op <| op_rd rfl (rd_move rfl) <| gl_nil <| gx_then <| gc_block <| gc_loopF (ι := Nat) [(11, _), (12, _), (13, _), (34, _), (35, _)] [_, _, _] (fun k => k ≤ 2) (fun k Fr0 => ((38, natV k) :: Fr0)) (fun k Fr0 => (.row 90 2 (some b29) s.rs.length s.rs.length ((chg xs ys i k).flatMap setC) :: .row 90 2 (some b32) s.rs.length s.rs.length ((chg ys xs i k).flatMap setC) :: Fr0)) (fun k => 2 - k) 0 (Nat.zero_le _) ⟨rfl, rfl, rfl, rfl, rfl, rfl, trivial⟩ ⟨[0, 1, 2, 3, 4], by decide, rfl⟩ ?_
    rintro k hk
    refine gc_seq <| gc_region <| gl_op (op_rd rfl (rd_lss rfl rfl) (gk_dec (fun h39 => ?_) (fun h39 => ?_)))
    · have hgx := chg_get (xs := xs) (ys := ys) (k := k) (show i < xs.length by omega)
      have hgy := chg_get (xs := ys) (ys := xs) (k := k) (show i < ys.length by omega)
      rw [hXd, hYd] at hgx hgy
      have hwx : wordOf (wD X Y k) k = wordOf X k := wD_word (by omega)
      have hwy : wordOf (wD Y X k) k = wordOf Y k := wD_word (by omega)
      have hxlt := wordOf_lt (i := k) hXl
      have hylt := wordOf_lt (i := k) hYl
      refine gl_nil <| gx_then <| gc_seq <| gc_cond_t rfl <| gc_skip <| gx_then <| gc_seq <| gc_block <| gc_seq <| gc_region <| gl_op <| op_rd rfl (rd_move rfl) <| gl_op <| op_rd rfl (rd_assign rfl) <| gl_nil <| gx_then <| gc_drawP [0, 1, 2, 3, 4] false 34 rfl <| ga_first 0 (bm 38 1) rfl rfl rfl rfl (by kernel_rfl) (by kernel_rfl) ⟨[0, 1, 2, 3, 4], by decide, rfl⟩ (qt_rd (rd_move rfl)) ?_
      refine ga_first 1 (bm 38 3) rfl rfl rfl rfl (by kernel_rfl) (by kernel_rfl) ⟨[0, 1, 2, 3, 4], by decide, rfl⟩ (qt_rd (rd_move rfl)) ?_
      refine ga_first 2 (bm 38 7) rfl rfl rfl rfl (by kernel_rfl) (by kernel_rfl) ⟨[0, 1, 2, 3, 4], by decide, rfl⟩ (qt_rd (rd_move rfl)) ?_
      refine ga_first 6 (bm 38 71) rfl rfl rfl rfl (by kernel_rfl) (by kernel_rfl) ⟨[0, 1, 2, 3, 4], by decide, rfl⟩ (qt_rd (rd_move rfl)) ?_
      refine ga_first 7 (bm 38 199) rfl rfl rfl rfl (by kernel_rfl) (by kernel_rfl) ⟨[0, 1, 2, 3, 4], by decide, rfl⟩ (qt_rd (rd_move rfl)) ?_
      refine ga_first 8 (bm 38 455) rfl rfl rfl rfl (by kernel_rfl) (by kernel_rfl) ⟨[0, 1, 2, 3, 4], by decide, rfl⟩ (qt_rd (rd_move rfl)) ?_
      refine ga_first 9 (bm 38 967) rfl rfl rfl rfl (by kernel_rfl) (by kernel_rfl) ⟨[0, 1, 2, 3, 4], by decide, rfl⟩ (qt_rd (rd_indexS Tryd.underlying84 ty_90 rfl rfl (by omega) (by omega))) ?_
      refine ga_first 10 (bm 38 1991) rfl rfl rfl rfl (by kernel_rfl) (by kernel_rfl) ⟨[0, 1, 2, 3, 4], by decide, rfl⟩ (qt_rd (rd_indexArrN Tryd.underlying90 ty_88 rfl rfl (by omega))) ?_
      refine ga_first 11 (bm 38 4039) rfl rfl rfl rfl (by kernel_rfl) (by kernel_rfl) ⟨[0, 1, 2, 3, 4], by decide, rfl⟩ (qt_rd (rd_load Tryd.underlying88 rfl rfl (ld_row 0 (a := some b29) rfl (word_at hgx (by omega) hwx)))) ?_
      refine ga_first 12 (bm 38 8135) rfl rfl rfl rfl (by kernel_rfl) (by kernel_rfl) ⟨[0, 1, 2, 3, 4], by decide, rfl⟩ (qt_rd (rd_move rfl)) ?_
      refine ga_first 13 (bm 38 16327) rfl rfl rfl rfl (by kernel_rfl) (by kernel_rfl) ⟨[0, 1, 2, 3, 4], by decide, rfl⟩ (qt_rd (rd_move rfl)) ?_
      refine ga_first 14 (bm 38 32711) rfl rfl rfl rfl (by kernel_rfl) (by kernel_rfl) ⟨[0, 1, 2, 3, 4], by decide, rfl⟩ (qt_rd (rd_move rfl)) ?_
      refine ga_first 15 (bm 38 65479) rfl rfl rfl rfl (by kernel_rfl) (by kernel_rfl) ⟨[0, 1, 2, 3, 4], by decide, rfl⟩ (qt_rd (rd_indexS Tryd.underlying84 ty_90 rfl rfl (by omega) (by omega))) ?_
      refine ga_first 16 (bm 38 131015) rfl rfl rfl rfl (by kernel_rfl) (by kernel_rfl) ⟨[0, 1, 2, 3, 4], by decide, rfl⟩ (qt_rd (rd_indexArrN Tryd.underlying90 ty_88 rfl rfl (by omega))) ?_
      refine ga_first 17 (bm 38 262087) rfl rfl rfl rfl (by kernel_rfl) (by kernel_rfl) ⟨[0, 1, 2, 3, 4], by decide, rfl⟩ (qt_rd (rd_load Tryd.underlying88 rfl rfl (ld_row 1 (a := some b32) rfl (word_at hgy (by omega) hwy)))) ?_
      refine ga_first 18 (bm 38 524231) rfl rfl rfl rfl (by kernel_rfl) (by kernel_rfl) ⟨[0, 1, 2, 3, 4], by decide, rfl⟩ (qt_rd (rd_andNotU (a := wordOf X k) (b := wordOf Y k) (c := andn (wordOf X k) (wordOf Y k)) rfl rfl hxlt hylt rfl)) ?_
      refine ga_firstT 3 (bm 38 524239) rfl rfl rfl rfl (by kernel_rfl) (by kernel_rfl) (fun _ => rd_move rfl) ?_
      refine ga_firstT 4 (bm 38 524255) rfl rfl rfl rfl (by kernel_rfl) (by kernel_rfl) (fun _ => rd_move rfl) ?_
      refine ga_firstT 5 (bm 38 524287) rfl rfl rfl rfl (by kernel_rfl) (by kernel_rfl) (fun _ => rd_move rfl) ?_
      refine ga_firstT 19 (bm 38 1048575) rfl rfl rfl rfl (by kernel_rfl) (by kernel_rfl) (fun _ => rd_move rfl) ?_
      refine ga_firstT 20 (bm 38 2097151) rfl rfl rfl rfl (by kernel_rfl) (by kernel_rfl) (fun _ => rd_move rfl) ?_
      refine ga_firstT 21 (bm 38 4194303) rfl rfl rfl rfl (by kernel_rfl) (by kernel_rfl) (fun _ => rd_move rfl) ?_
      refine ga_firstT 22 (bm 38 8388607) rfl rfl rfl rfl (by kernel_rfl) (by kernel_rfl) (fun _ => rd_indexS Tryd.underlying84 ty_90 rfl rfl (by omega) (by omega)) ?_
      refine ga_firstT 23 (bm 38 16777215) rfl rfl rfl rfl (by kernel_rfl) (by kernel_rfl) (fun _ => rd_indexArrN Tryd.underlying90 ty_88 rfl rfl (by omega)) ?_
      refine ga_first 24 (bm 38 33554431) rfl rfl rfl rfl (by kernel_rfl) (by kernel_rfl) ⟨[0, 1, 2, 3, 4], by decide, rfl⟩ (qt_rd (rd_load Tryd.underlying88 rfl rfl (ld_row 1 (a := some b32) rfl (word_at hgy (by omega) hwy)))) ?_
      refine ga_firstT 25 (bm 38 67108863) rfl rfl rfl rfl (by kernel_rfl) (by kernel_rfl) (fun _ => rd_move rfl) ?_
      refine ga_firstT 26 (bm 38 134217727) rfl rfl rfl rfl (by kernel_rfl) (by kernel_rfl) (fun _ => rd_move rfl) ?_
      refine ga_firstT 27 (bm 38 268435455) rfl rfl rfl rfl (by kernel_rfl) (by kernel_rfl) (fun _ => rd_move rfl) ?_
      refine ga_firstT 28 (bm 38 536870911) rfl rfl rfl rfl (by kernel_rfl) (by kernel_rfl) (fun _ => rd_indexS Tryd.underlying84 ty_90 rfl rfl (by omega) (by omega)) ?_
      refine ga_firstT 29 (bm 38 1073741823) rfl rfl rfl rfl (by kernel_rfl) (by kernel_rfl) (fun _ => rd_indexArrN Tryd.underlying90 ty_88 rfl rfl (by omega)) ?_
      refine ga_first 30 (bm 38 2147483647) rfl rfl rfl rfl (by kernel_rfl) (by kernel_rfl) ⟨[0, 1, 2, 3, 4], by decide, rfl⟩ (qt_rd (rd_load Tryd.underlying88 rfl rfl (ld_row 0 (a := some b29) rfl (word_at hgx (by omega) hwx)))) ?_
      refine ga_firstT 31 (bm 38 4294967295) rfl rfl rfl rfl (by kernel_rfl) (by kernel_rfl) (fun _ => rd_andNotU (a := wordOf Y k) (b := wordOf X k) (c := andn (wordOf Y k) (wordOf X k)) rfl rfl hylt hxlt rfl) ?_
      refine ga_firstT 32 (bm 38 8589934591) rfl rfl rfl rfl (by kernel_rfl) (by kernel_rfl) (fun _ => rd_indexS Tryd.underlying84 ty_90 rfl rfl (by omega) (by omega)) ?_
      refine ga_first 33 (bm 38 17179869183) rfl rfl rfl rfl (by kernel_rfl) (by kernel_rfl) ⟨[0, 1, 2, 3, 4], by decide, rfl⟩ (qt_rd (rd_indexArrN Tryd.underlying90 ty_88 rfl rfl (by omega))) ?_
      refine ga_firstT 35 (bm 38 51539607551) rfl rfl rfl rfl (by kernel_rfl) (by kernel_rfl) (fun _ => rd_indexS Tryd.underlying84 ty_90 rfl rfl (by omega) (by omega)) ?_
      refine ga_only 34 (bm 38 68719476735) rfl rfl (by kernel_rfl) (by kernel_rfl) (.inr ⟨[0, 1, 2, 3, 4], by decide, rfl⟩) (op_storeRowE 0 ty_88 rfl rfl rfl rfl (by rw [flat_len setC 2 (fun _ => rfl), chg_len]; omega) (show ((chg xs ys i k).flatMap setC).set (i * 2 + k) _ = (chg xs ys i (k + 1)).flatMap setC from by rw [flat_setOne setC 2 (fun _ => rfl) (by omega) _ i _ _ hgx (setC_put (by omega)), chg_set (by omega) (by rw [hXd, hYd])]) (by rfl) ?_)
      refine ga_only 36 (bm 38 137438953471) rfl rfl (by kernel_rfl) (by kernel_rfl) (.inl (by kernel_rfl)) (op_rd rfl (rd_indexArrN Tryd.underlying90 ty_88 rfl rfl (by omega)) ?_)
      refine ga_only 37 (bm 38 274877906943) rfl rfl (by kernel_rfl) (by kernel_rfl) (.inl (by kernel_rfl)) (op_storeRowE 1 ty_88 rfl rfl rfl rfl (by rw [flat_len setC 2 (fun _ => rfl), chg_len]; omega) (show ((chg ys xs i k).flatMap setC).set (i * 2 + k) _ = (chg ys xs i (k + 1)).flatMap setC from by rw [flat_setOne setC 2 (fun _ => rfl) (by omega) _ i _ _ hgy (setC_put (by omega)), chg_set (by omega) (by rw [hXd, hYd])]) (by rfl) ?_)
      refine ga_end (by kernel_rfl) (.inl (by kernel_rfl)) ?_
      refine gx_block <| gx_then <| gc_region <| gl_op (op_rd rfl (by exact rd_addN (b := 1) rfl rfl (by omega)) ?_)
      refine gl_op <| op_rd rfl (rd_move rfl) <| gl_nil <| gx_then ?_
      exact gx_cut (k + 1) ⟨by omega, by omega⟩ ⟨rfl, rfl, rfl, rfl, rfl, rfl, trivial⟩ ⟨[0, 1, 2, 3, 4], by decide, rfl⟩
    have hk9 : k = 2 := by omega
    subst hk9
    rw [chg_next, chg_next]
    refine gl_nil <| gx_then <| gc_seq <| gc_cond_f rfl <| gc_exit <| gx_then_exit <| gx_then_exit <| gx_block_exit <| gx_block <| gx_then <| gc_region <| gl_op (op_rd rfl (by exact rd_addN (b := 1) rfl rfl (by omega)) ?_)
    refine gl_op <| op_rd rfl (rd_move rfl) <| gl_nil <| gx_then ?_
    exact gx_cut (i + 1) ⟨by omega, by omega⟩ ⟨rfl, rfl, rfl, rfl, trivial⟩ ⟨[0, 1, 2, 3, 4], by decide, rfl⟩
  refine gl_nil <| gx_then <| gc_seq <| gc_cond_f rfl <| gc_exit <| gx_then_exit <| gx_then_exit <| gx_block_exit <| gx_then <| gc_seq ?_
  have hi9 : i = s.rs.length := by omega
  subst hi9
  have hpy := chg_pipes (xs := ys) (ys := xs) (by omega) hux.lt
  have hpx := chg_pipes (xs := xs) (ys := ys) (by omega) huy.lt
  rw [hyl, huy.pipes, hux.pipes] at hpy
  rw [hxl, hux.pipes, huy.pipes] at hpx
  have hcy : (chg ys xs s.rs.length 0).length = s.rs.length := by rw [chg_len]; exact hyl
  have hcx : (chg xs ys s.rs.length 0).length = s.rs.length := by rw [chg_len]; exact hxl
  have hdy : pipesU (chg ys xs s.rs.length 0) (chg ys xs s.rs.length 0).length = diffP s n m := by rw [hcy]; exact hpy
  have hdx : pipesU (chg xs ys s.rs.length 0) (chg xs ys s.rs.length 0).length = diffP s m n := by rw [hcx]; exact hpx
  refine gc_region <| gl_op <| op_rd rfl (rd_move rfl) ?_
  refine gl_op (op_call rfl (vf := []) (vc := []) rfl rfl Tryd.call44 (fun w1 ho => by
    have h9 := piped_ok (chg ys xs s.rs.length 0) (rowA (some b32)) s.rs.length (by omega) (chg_lt huy.lt) w1 (hT.at ho (by decide)) (by rw [hcy]; exact ho.rowSl 1 rfl)
    rw [hdy, hcy] at h9
    exact h9) ?_)
  rintro _ _ ⟨r80, c80, rfl, rfl⟩
  refine gl_op <| op_rd rfl (rd_move rfl) ?_
  refine gl_op (op_call rfl (vf := []) (vc := []) rfl rfl Tryd.call44 (fun w1 ho => by
    have h9 := piped_ok (chg xs ys s.rs.length 0) (rowA (some b29)) s.rs.length (by omega) (chg_lt hux.lt) w1 (hT.at ho (by decide)) (by rw [hcx]; exact ho.rowSl 1 rfl)
    rw [hdx, hcx] at h9
    exact h9) ?_)
  rintro _ _ ⟨r82, c82, rfl, rfl⟩
  refine gl_op <| op_rd rfl (rd_assign rfl) <| gl_op <| op_rd rfl (rd_assign rfl) <| gl_op <| op_rd rfl (rd_assign rfl) <| gl_nil <| gx_then <| gc_ret <| gx_ret3 (.inl rfl) Tryd.results26 rfl rfl rfl [1, 0] (by decide) ?_
  exact .inr (.inr ⟨hem, hen, m, n, r80, r82, c80, c82, rfl, rfl, hgm, hgn, rfl, rfl⟩)
end Go.Proofs.YtbjijbbkfgcleaaDoor
namespace Go.Proofs.YtbjijbbkfgcleaaDoor
open Go.Gv
open Go.RowKit
open Go.Sn
open Sx
namespace Sx
theorem d3_db : D3 Tryd.prog 79 (Tryd.prog.fieldsOf 79)[0]! (Tryd.prog.fieldsOf 79)[1]! (Tryd.prog.fieldsOf 42)[0]! (Tryd.prog.fieldsOf 42)[1]! .i64 .i64 .i64 :=
  ⟨by kernel_rfl, by kernel_rfl, by kernel_rfl, by kernel_rfl, by kernel_rfl, by kernel_rfl, by
    have h : ((Tryd.prog.fieldsOf 79)[0]!).type = 42 := by kernel_rfl
    rw [h]; exact i2_pipe, by kernel_rfl, by kernel_rfl⟩
theorem dbC_inj {u v : Db} (h : (u.1.1 : Int) = v.1.1 ∧ (u.1.2 : Int) = v.1.2 ∧ (u.2 : Int) = v.2) : u = v := Prod.ext (Prod.ext (by omega) (by omega)) (by omega)
end Sx
open Sx
set_option maxRecDepth 100000 in
set_option maxHeartbeats 1000000 in
theorem Doubled_ok (s : Org) (h : Hd) (hle : OrgLe s) (hhe : HdLe h) (w0 : World) (hS : OrgIn s w0 []) (hH : HdIn h w0 []) (hT : TabIn w0) : Sp Tryd.prog 28 [s.val, h.val] w0 [] (DoubR 79 s h) := by
  refine spec_enter Tryd.func28 rfl Tryd.ntmps28 rfl (Own.refl _) ?_
  simp only [argEnv]
  refine gc_seq <| gc_region <| gl_op (op_box rfl rfl rfl (fun b2 => ?_))
  refine gl_op (op_box rfl rfl rfl (fun b3 => ?_))
  refine gl_op <| op_rd rfl (rd_assign rfl) <| gl_op <| op_rd rfl (rd_assign rfl) <| gl_nil <| gx_then <| gc_seq <| gc_seq <| gc_region <| gl_op (op_rd rfl (rd_loadAgg Tryd.underlying27 rfl ty_27 rfl (by exact cs_blk 1 (off := 0) (k := 4) rfl rfl) rfl) ?_)
  refine gl_op (op_rd rfl (rd_loadAgg Tryd.underlying31 rfl ty_31 rfl (by exact cs_blk 0 (off := 0) (k := 3) rfl rfl) rfl) ?_)
  refine gl_op (op_call rfl (vf := []) (vc := []) rfl rfl Tryd.call14 (fun w1 ho => Check_ok s h hle hhe w1 (hS.at ho) (hH.at ho)) ?_)
  rintro _ _ ⟨rfl, rfl⟩
  refine gl_op <| op_rd rfl (rd_assign rfl) <| gl_nil <| gx_then <| gc_seq <| gc_region <| gl_op <| op_rd rfl (rd_move rfl) <| gl_op (op_rd rfl (rd_neq rfl rfl) (gk_dec (fun h16 => ?_) (fun h16 => ?_)))
  · refine gl_nil <| gx_then <| gc_cond_t rfl <| gc_seq <| gc_region <| gl_op <| op_rd rfl (rd_move rfl) <| gl_op <| op_rd rfl (rd_assign rfl) <| gl_op <| op_rd rfl (rd_assign rfl) <| gl_nil <| gx_then <| gc_ret <| gx_then_ret <| gx_ret2 (.inl rfl) Tryd.results28 rfl rfl [] (by decide) ?_
    exact .inl ⟨h16, rfl, rfl⟩
  obtain ⟨n, rfl, hg⟩ := good_of (s := s) hhe (by omega)
  have hH := HNIn.of hH
  simp only [HN.hd_val]
  have hA := hg.cx
  have hnd : s.ds.length ≤ 6 := hA.nd
  obtain ⟨e0, he0⟩ : ∃ e0, handErr s n.hd = e0 := ⟨_, rfl⟩
  have hnr := hg.nr
  have hcle := cntP_le s n n.ss.length
  have hssl := asc_len hg.ssA hg.ssN
  have hns := hg.ns
  refine gl_nil <| gx_then <| gc_cond_f rfl <| gc_skip <| gx_then <| gc_seq <| gc_region <| gl_op <| op_rd rfl (rd_assign rfl) <| gl_nil <| gx_then <| gc_seq <| gc_seq <| gc_region <| gl_op (op_rd rfl (rd_loadAgg Tryd.underlying27 rfl ty_27 rfl (by exact cs_blk 1 (off := 0) (k := 4) rfl rfl) rfl) ?_)
  refine gl_op (op_rd rfl (rd_loadAgg Tryd.underlying31 rfl ty_31 rfl (by exact cs_blk 0 (off := 0) (k := 3) rfl rfl) rfl) ?_)
  refine gl_op (op_call rfl (vf := []) (vc := []) rfl rfl Tryd.call47 (fun w1 ho => count_ok s n hle hg w1 (hS.at ho) (hH.at ho) (hT.at ho (by decide))) ?_)
  rintro _ _ ⟨b20, rfl, rfl⟩
  refine gl_op <| op_rd rfl (rd_lenSlice Tryd.underlying117 rfl) <| gl_op <| op_rd rfl (rd_move rfl) <| gl_nil <| gx_then <| gc_block <| gk_nil 79 3 <| gc_loopF (ι := Nat × Option Nat × Nat) [(20, _), (21, _)] [_, _, _] (fun q => q.1 ≤ s.rs.length) (fun q Fr0 => ((7, .slice (rowA q.2.1) (dbP q.1 (cntP s n n.ss.length)).length q.2.2) :: (22, natV q.1) :: Fr0)) (fun q Fr0 => (.row 79 3 q.2.1 (dbP q.1 (cntP s n n.ss.length)).length q.2.2 ((dbP q.1 (cntP s n n.ss.length)).flatMap dbC) :: Fr0)) (fun q => s.rs.length - q.1) (0, none, 0) (Nat.zero_le _) ⟨rfl, rfl, rfl, rfl, trivial⟩ ⟨[0, 1, 2, 3], by decide, rfl⟩ ?_
  rintro ⟨r, r7, c7⟩ hr
  simp only at hr ⊢
  have hpl := dbP_len (cntP s n n.ss.length) r
  refine gc_seq <| gc_region <| gl_op (op_rd rfl (rd_lss rfl rfl) (gk_dec (fun h23 => ?_) (fun h23 => ?_)))
  · refine gl_nil <| gx_then <| gc_seq <| gc_cond_t rfl <| gc_skip <| gx_then <| gc_seq <| gc_block <| gc_seq <| gc_region <| gl_op <| op_rd rfl (rd_move rfl) <| gl_op (op_rd rfl (rd_indexS Tryd.underlying117 ty_119 rfl rfl (by omega) (by omega)) ?_)
    refine gl_op (op_rd rfl (rd_loadAgg Tryd.underlying119 rfl ty_119 rfl (cs_row 1 (a := some b20) rfl (cntC_row _ (by omega))) rfl) ?_)
    refine gl_op (op_alloc ty_119 rfl rfl (fun b9 => ?_))
    refine gl_op <| op_rd rfl (rd_assign rfl) <| gl_op (op_storeAgg 0 ty_119 rfl rfl rfl rfl rfl rfl (by rfl) ?_)
    refine gl_nil <| gx_then <| gc_seq <| gc_region <| gl_op (op_rd rfl (rd_loadAgg Tryd.underlying119 rfl ty_119 rfl (by exact cs_blk 0 (off := 0) (k := 128) rfl rfl) rfl) ?_)
    refine gl_op <| op_rd rfl (rd_move rfl) <| gl_nil <| gx_then <| gc_block ?_
    rw [show dbP r (cntP s n n.ss.length) = (dbP r (cntP s n n.ss.length) ++ dbI (cntP s n n.ss.length) r 0) from (List.append_nil _).symm]
    refine gc_loopF (ι := Nat × Option Nat × Nat) [(8, _), (20, _), (21, _), (22, _), (27, _)] [_, _, _, _] (fun q => q.1 ≤ 128) (fun q Fr0 => ((7, .slice (rowA q.2.1) ((dbP r (cntP s n n.ss.length) ++ dbI (cntP s n n.ss.length) r q.1)).length q.2.2) :: (28, natV q.1) :: Fr0)) (fun q Fr0 => (.row 79 3 q.2.1 ((dbP r (cntP s n n.ss.length) ++ dbI (cntP s n n.ss.length) r q.1)).length q.2.2 (((dbP r (cntP s n n.ss.length) ++ dbI (cntP s n n.ss.length) r q.1)).flatMap dbC) :: Fr0)) (fun q => 128 - q.1) (0, r7, c7) (Nat.zero_le _) ⟨rfl, rfl, rfl, rfl, rfl, rfl, rfl, trivial⟩ ⟨[1, 0, 2, 3, 4], by decide, rfl⟩ ?_
    rintro ⟨k, r8, c8⟩ hk
    simp only at hk ⊢
    have hil : (dbP r (cntP s n n.ss.length) ++ dbI (cntP s n n.ss.length) r k).length ≤ r * 128 + k := by rw [List.length_append]; have := dbI_len (cntP s n n.ss.length) r k; omega
    refine gc_seq <| gc_region <| gl_op (op_rd rfl (rd_lss rfl rfl) (gk_dec (fun h29 => ?_) (fun h29 => ?_)))
    · refine gl_nil <| gx_then <| gc_seq <| gc_cond_t rfl <| gc_skip <| gx_then <| gc_seq <| gc_block <| gc_seq <| gc_region <| gl_op <| op_rd rfl (rd_move rfl) <| gl_op (op_rd rfl (rd_indexArrV Tryd.underlying119 Tryd.underlying3 ty_3 rfl rfl (by omega) (v := natV ((cntP s n n.ss.length) (r, k))) (rowC_arr _ _ (by omega))) ?_)
      refine gl_op <| op_rd rfl (rd_assign rfl) <| gl_op <| op_rd rfl (rd_assign rfl) <| gl_nil <| gx_then <| gc_seq <| gc_region <| gl_op <| op_rd rfl (rd_move rfl) <| gl_op (op_rd rfl (rd_gtr rfl rfl) (gk_dec (fun h33 => ?_) (fun h33 => ?_)))
      · refine gl_nil <| gx_then <| gc_cond_t rfl <| gc_region <| gl_op <| op_rd rfl (rd_move rfl) <| gl_op <| op_rd rfl (rd_move rfl) <| gl_op <| op_rd rfl (rd_move rfl) <| gl_op (op_rd rfl (rd_build rfl (fun _ => bd_42_0_1 _ _)) ?_)
        refine gl_op <| op_rd rfl (rd_move rfl) <| gl_op (op_rd rfl (rd_build rfl (fun _ => bd_79_0_1 _ _ _)) ?_)
        refine gl_op (op_buildSlice (sz := 3) rfl rfl (fun _ => bs_72_1_0 _ _ _) rfl rfl (fun b40 => ?_))
        refine gl_op (op_appendRow 1 0 Tryd.underlying72 ty_79 rfl (by decide) rfl rfl rfl rfl rfl (by simp [Value.oneCell']) (by omega) (by omega) (fun _ => (by rfl)) (fun r41 c41 => ?_))
        refine gl_op <| op_rd rfl (rd_assign rfl) <| gl_nil <| gx_block <| gx_then <| gc_region <| gl_op (op_rd rfl (by exact rd_addN (b := 1) rfl rfl (by omega)) ?_)
        refine gl_op <| op_rd rfl (rd_move rfl) <| gl_nil <| gx_then ?_
        have hdb := dbI_yes (f := (cntP s n n.ss.length)) (r := r) (k := k) (by omega)
        rw [show (dbP r (cntP s n n.ss.length) ++ dbI (cntP s n n.ss.length) r k).length + 1 = (dbP r (cntP s n n.ss.length) ++ dbI (cntP s n n.ss.length) r (k + 1)).length by rw [hdb, ← List.append_assoc]; exact db_len _ _, show (dbP r (cntP s n n.ss.length) ++ dbI (cntP s n n.ss.length) r k).flatMap dbC ++ [natV r, natV k, natV ((cntP s n n.ss.length) (r, k))] = (dbP r (cntP s n n.ss.length) ++ dbI (cntP s n n.ss.length) r (k + 1)).flatMap dbC by rw [hdb, ← List.append_assoc]; exact db_cells _ ((r, k), _)]
        exact gx_cut ((k + 1, r41, c41)) ⟨by simp only; omega, by simp only; omega⟩ ⟨rfl, rfl, rfl, rfl, rfl, rfl, rfl, trivial⟩ ⟨[1, 2, 3, 4, 5], by decide, rfl⟩
      refine gl_nil <| gx_then <| gc_cond_f rfl <| gc_skip <| gx_block <| gx_then <| gc_region <| gl_op (op_rd rfl (by exact rd_addN (b := 1) rfl rfl (by omega)) ?_)
      refine gl_op <| op_rd rfl (rd_move rfl) <| gl_nil <| gx_then ?_
      rw [← dbI_no (f := (cntP s n n.ss.length)) (r := r) (k := k) (by omega)]
      exact gx_cut ((k + 1, r8, c8)) ⟨by simp only; omega, by simp only; omega⟩ ⟨rfl, rfl, rfl, rfl, rfl, rfl, rfl, trivial⟩ ⟨[0, 1, 2, 3, 4], by decide, rfl⟩
    have hk9 : k = 128 := by omega
    subst hk9
    rw [← dbP_next]
    refine gl_nil <| gx_then <| gc_seq <| gc_cond_f rfl <| gc_exit <| gx_then_exit <| gx_then_exit <| gx_block_exit <| gx_block <| gx_then <| gc_region <| gl_op (op_rd rfl (by exact rd_addN (b := 1) rfl rfl (by omega)) ?_)
    refine gl_op <| op_rd rfl (rd_move rfl) <| gl_nil <| gx_then ?_
    exact gx_cut ((r + 1, r8, c8)) ⟨by simp only; omega, by simp only; omega⟩ ⟨rfl, rfl, rfl, rfl, trivial⟩ ⟨[0, 2, 3, 4], by decide, rfl⟩
  have hr9 : r = s.rs.length := by omega
  subst hr9
  refine gl_nil <| gx_then <| gc_seq <| gc_cond_f rfl <| gc_exit <| gx_then_exit <| gx_then_exit <| gx_block_exit <| gx_then <| gc_seq <| gc_region <| gl_op <| op_rd rfl (rd_move rfl) <| gl_op <| op_rd rfl (rd_assign rfl) <| gl_op <| op_rd rfl (rd_assign rfl) <| gl_nil <| gx_then <| gc_ret <| gx_ret2 (.inl rfl) Tryd.results28 rfl rfl [0] (by decide) ?_
  exact .inr ⟨by omega, n, r7, c7, rfl, hg, rfl, rfl⟩
set_option maxRecDepth 100000 in
set_option maxHeartbeats 1000000 in
theorem doubled_ok (xs ys : List Db) (a b : Option Addr) (ca cb : Nat) (hxl : xs.length ≤ 1000000) (w0 : World) (hx : OldSl w0 [] a xs.length 3 (xs.flatMap dbC)) (hy : OldSl w0 [] b ys.length 3 (ys.flatMap dbC)) : Sp Tryd.prog 31 [.slice a xs.length ca, .slice b ys.length cb] w0 [] (RV (.bool (decide (xs = ys)))) := by
  refine spec_enter Tryd.func31 rfl Tryd.ntmps31 rfl (Own.refl _) ?_
  simp only [argEnv]
  refine gc_seq <| gc_region <| gl_op <| op_rd rfl (rd_assign rfl) <| gl_nil <| gx_then <| gc_seq <| gc_seq <| gc_region <| gl_op <| op_rd rfl (rd_move rfl) <| gl_op <| op_rd rfl (rd_lenSlice Tryd.underlying72 rfl) <| gl_op <| op_rd rfl (rd_move rfl) <| gl_op <| op_rd rfl (rd_lenSlice Tryd.underlying72 rfl) <| gl_op (op_rd rfl (rd_neq rfl rfl) (gk_dec (fun h10 => ?_) (fun h10 => ?_)))
  · refine gl_nil <| gx_then <| gc_cond_t rfl <| gc_seq <| gc_region <| gl_op <| op_rd rfl (rd_assign rfl) <| gl_nil <| gx_then <| gc_ret <| gx_then_ret <| gx_ret1 (.inl rfl) Tryd.results31 rfl [] (by decide) ?_
    refine ⟨congrArg Value.bool (Eq.symm ?_), rfl⟩
    exact decide_eq_false (fun e => by subst e; omega)
  refine gl_nil <| gx_then <| gc_cond_f rfl <| gc_skip <| gx_then <| gc_seq <| gc_seq <| gc_region <| gl_op <| op_rd rfl (rd_assign rfl) <| gl_nil <| gx_then <| gc_block <| gc_loopF (ι := Nat) [(0, _), (1, _)] [] (fun k => k ≤ xs.length ∧ xs.take k = ys.take k) (fun k Fr0 => ((5, natV k) :: Fr0)) (fun k Fr0 => Fr0) (fun k => xs.length - k) 0 (⟨Nat.zero_le _, rfl⟩) ⟨rfl, rfl, rfl, trivial⟩ ⟨[], by decide, rfl⟩ ?_
  rintro k ⟨hk, htk⟩
  refine gc_seq <| gc_seq <| gc_region <| gl_op <| op_rd rfl (rd_move rfl) <| gl_op <| op_rd rfl (rd_move rfl) <| gl_op <| op_rd rfl (rd_lenSlice Tryd.underlying72 rfl) <| gl_op (op_rd rfl (rd_lss rfl rfl) (gk_dec (fun h14 => ?_) (fun h14 => ?_)))
  · obtain ⟨u, hu⟩ := get_some (show k < xs.length by omega)
    obtain ⟨v, hv⟩ := get_some (show k < ys.length by omega)
    refine gl_nil <| gx_then <| gc_cond_t rfl <| gc_skip <| gx_then <| gc_seq <| gc_block <| gc_seq <| gc_drawP [] true 8 rfl <| ga_first 0 (bm 9 1) rfl rfl rfl rfl (by kernel_rfl) (by kernel_rfl) ⟨[], by decide, rfl⟩ (qt_rd (rd_move rfl)) ?_
    refine ga_first 1 (bm 9 3) rfl rfl rfl rfl (by kernel_rfl) (by kernel_rfl) ⟨[], by decide, rfl⟩ (qt_rd (rd_move rfl)) ?_
    refine ga_first 2 (bm 9 7) rfl rfl rfl rfl (by kernel_rfl) (by kernel_rfl) ⟨[], by decide, rfl⟩ (qt_rd (rd_indexOld hx Tryd.underlying72 ty_79 rfl rfl (by omega) (by omega))) ?_
    refine ga_first 3 (bm 9 15) rfl rfl rfl rfl (by kernel_rfl) (by kernel_rfl) ⟨[], by decide, rfl⟩ (qt_rd (rd_loadAgg Tryd.underlying79 rfl ty_79 rfl (cs_slN hx (flat_drop_get dbC 3 (fun _ => rfl) hu)) rfl)) ?_
    refine ga_first 4 (bm 9 31) rfl rfl rfl rfl (by kernel_rfl) (by kernel_rfl) ⟨[], by decide, rfl⟩ (qt_rd (rd_move rfl)) ?_
    refine ga_first 5 (bm 9 63) rfl rfl rfl rfl (by kernel_rfl) (by kernel_rfl) ⟨[], by decide, rfl⟩ (qt_rd (rd_move rfl)) ?_
    refine ga_first 6 (bm 9 127) rfl rfl rfl rfl (by kernel_rfl) (by kernel_rfl) ⟨[], by decide, rfl⟩ (qt_rd (rd_indexOld hy Tryd.underlying72 ty_79 rfl rfl (by omega) (by omega))) ?_
    refine ga_first 7 (bm 9 255) rfl rfl rfl rfl (by kernel_rfl) (by kernel_rfl) ⟨[], by decide, rfl⟩ (qt_rd (rd_loadAgg Tryd.underlying79 rfl ty_79 rfl (cs_slN hy (flat_drop_get dbC 3 (fun _ => rfl) hv)) rfl)) ?_
    refine ga_first 8 (bm 9 511) rfl rfl rfl rfl (by kernel_rfl) (by kernel_rfl) ⟨[], by decide, rfl⟩ (qt_rd (rd_neqD3 (a := (u.1.1 : Int)) (b := (u.1.2 : Int)) (m := (u.2 : Int)) (c := (v.1.1 : Int)) (d := (v.1.2 : Int)) (o := (v.2 : Int)) d3_db (by kernel_rfl) rfl rfl)) ?_
    refine gk_bool (fun h25 => ?_) (fun h25 => ?_)
    · have huv : ¬ ((u.1.1 : Int) = v.1.1 ∧ (u.1.2 : Int) = v.1.2 ∧ (u.2 : Int) = v.2) := fun e => by rw [decide_eq_true e] at h25; cases h25
      refine ga_end (by kernel_rfl) (.inr ⟨[], by decide, rfl⟩) ?_
      refine gx_then <| gc_cond_t rfl <| gc_seq <| gc_region <| gl_op <| op_rd rfl (rd_assign rfl) <| gl_nil <| gx_then <| gc_ret <| gx_block_ret <| gx_then_ret <| gx_then_ret <| gx_block_ret <| gx_then_ret <| gx_ret1 (.inl rfl) Tryd.results31 rfl [] (by decide) ?_
      refine ⟨congrArg Value.bool (Eq.symm ?_), rfl⟩
      exact decide_eq_false (fun e => by subst e; rw [hu] at hv; cases hv; exact huv ⟨rfl, rfl, rfl⟩)
    have huv : (u.1.1 : Int) = v.1.1 ∧ (u.1.2 : Int) = v.1.2 ∧ (u.2 : Int) = v.2 := by simpa using h25
    refine ga_end (by kernel_rfl) (.inr ⟨[], by decide, rfl⟩) ?_
    refine gx_then <| gc_cond_f rfl <| gc_skip <| gx_block <| gx_then <| gc_region <| gl_op <| op_rd rfl (rd_move rfl) <| gl_op (op_rd rfl (by exact rd_addN (b := 1) rfl rfl (by omega)) ?_)
    refine gl_op <| op_rd rfl (rd_assign rfl) <| gl_nil <| gx_then ?_
    exact gx_cut (k + 1) ⟨⟨by omega, by rw [take_at hu, take_at hv, htk, dbC_inj huv]⟩, by omega⟩ ⟨rfl, rfl, rfl, trivial⟩ ⟨[], by decide, rfl⟩
  refine gl_nil <| gx_then <| gc_cond_f rfl <| gc_exit <| gx_then_exit <| gx_then_exit <| gx_block_exit <| gx_then <| gc_seq <| gc_region <| gl_op <| op_rd rfl (rd_assign rfl) <| gl_nil <| gx_then <| gc_ret <| gx_ret1 (.inl rfl) Tryd.results31 rfl [] (by decide) ?_
  refine ⟨congrArg Value.bool (Eq.symm ?_), rfl⟩
  rw [List.take_of_length_le (by omega), List.take_of_length_le (by omega)] at htk
  exact decide_eq_true htk
end Go.Proofs.YtbjijbbkfgcleaaDoor
