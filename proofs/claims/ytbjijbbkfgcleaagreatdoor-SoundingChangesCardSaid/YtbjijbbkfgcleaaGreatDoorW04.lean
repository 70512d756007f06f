import Derived.Test.YtbjijbbkfgcleaaGreatDoorW03
import Derived.Test.YtbjijbbkfgcleaaGreatDoorW01
import Derived.Test.YtbjijbbkfgcleaaGreatDoorW00
/- A part of the proof: walks of the program. -/
set_option autoImplicit false
set_option linter.unusedSimpArgs false
set_option linter.unusedVariables false
set_option linter.unnecessarySimpa false
namespace Go.Proofs.YtbjijbbkfgcleaaGreatDoor
open Go.Gv
open Go.RowKit
open Go.Sn
open Sx
namespace Sx
def CEs (tb : List (List CE)) (TC : List HL) : Prop := ∀ q, (entR tb q).there = true → CEIn TC (entR tb q) ∧ (entR tb q).ch.length ≤ 100000
theorem CEIn.mono {TC TC' : List HL} {e : CE} (h : CEIn TC e) (hm : ∀ x ∈ TC, x ∈ TC') : CEIn TC' e := by
  rcases h with h | h
  · exact .inl h
  · exact .inr (hm _ h)
theorem CEs.put {tb : List (List CE)} {TC : List HL} {nd : Nat} (h : CEs tb TC) (htb : TbLen nd tb) {lo hi : Int} {d : Nat} (hd : d < nd) (h0 : 0 ≤ lo) (h1 : hi ≤ 127) {key : Int} {x : CE} {row : HL} (hx : CEIn (TC ++ [row]) x) (hl : x.ch.length ≤ 100000) : CEs (addR lo hi tb d key x) (TC ++ [row]) := fun q hq => by
  rcases addR_ent (x := x) (key := key) htb hd h0 h1 q with e | e
  · rw [e]; exact ⟨hx, hl⟩
  · rw [e] at hq ⊢
    exact ⟨(h q hq).1.mono fun y hy => List.mem_append_left _ hy, (h q hq).2⟩
theorem gsC_put (gs : List Nat) (b nd : Nat) (h : gs.length < nd) : (gsC gs ++ List.replicate (nd - gs.length) (Value.slice none 0 0)).set gs.length (.slice (rowA (some b)) 128 128) = gsC (gs ++ [b]) ++ List.replicate (nd - (gs.length + 1)) (Value.slice none 0 0) := by
  have hl : (gsC gs).length = gs.length := by unfold gsC; simp
  rw [List.set_append_right _ _ (by omega), hl, Nat.sub_self, show nd - gs.length = (nd - (gs.length + 1)) + 1 by omega, List.replicate_succ, List.set_cons_zero]
  unfold gsC
  rw [List.map_append, List.append_assoc]; rfl
theorem gsC_at (gs : List Nat) (b : Nat) (R : List Value) : (gsC (gs ++ [b]) ++ R)[gs.length]? = some (.slice (rowA (some b)) 128 128) := by
  have hl : (gsC (gs ++ [b])).length = gs.length + 1 := by unfold gsC; simp
  rw [List.getElem?_append_left (by omega)]
  exact gsC_get (by rw [List.getElem?_append_right (Nat.le_refl _), Nat.sub_self]; rfl)
theorem gk_mvL {dm : List Deferred} {n : Nat} {K : Act → World → Prop} {e : Env} {w0 : World} {S : List Nat} (B B' T : List HL) (ic : List Nat) (i m : Nat) (hB : pick ic B = B') {x : HL} (hm : B.length = m) (hx : B[i]? = some x) (hno : (ic ++ [i]).Nodup) (hlt : ∀ j ∈ ic ++ [i], j < m) (h : GK dm n K e w0 S (B' ++ (T ++ [x]))) : GK dm n K e w0 S (B ++ T) := by
  subst hB
  exact gk_mv B T ic i m hm hx hno hlt h
theorem ce0_cells : (Value.agg #[.bool false, .int .i64 0, .int .i64 0, .slice none 0 0]).cells.toList = ceC ce0 := rfl
end Sx
open Sx
set_option maxRecDepth 100000 in
set_option maxHeartbeats 1000000 in
theorem chains_ok (s : Org) (h : HN) (hle : OrgLe s) (hg : HGood s h) (w0 : World) (hS : OrgIn s w0 []) (hH : HNIn h w0 []) : Sp Tryz.prog 29 [s.val, h.val] w0 [] (fun v L => ∃ g5 gs tb TC, v = .slice (rowA (some g5)) s.ds.length s.ds.length ∧ L = [R5 g5 s.ds.length s.ds.length gs] ++ (TR gs tb ++ TC) ∧ gs.length = s.ds.length ∧ TbLen s.ds.length tb ∧ CEs tb TC ∧ Chains (cxN s h) (tabR tb)) := by
  have hA := hg.cx
  have hnd : s.ds.length ≤ 6 := hA.nd
  have hkl : h.ks.length = s.ds.length := by have := hA.nk; simpa [cxN] using this
  have hnc := hg.nc
  have hcl : h.cs.length ≤ s.cs.length := asc_len hA.dra hA.drn
  refine spec_enter Tryz.func29 rfl Tryz.ntmps29 rfl (Own.refl _) ?_
  simp only [argEnv]
  refine gc_seq <| gc_region <| gl_op (op_box rfl rfl rfl (fun b2 => ?_))
  refine gl_op (op_box rfl rfl rfl (fun b3 => ?_))
  refine gl_op <| op_rd rfl (rd_assign rfl) <| gl_nil <| gx_then <| gc_seq <| gc_region <| gl_op <| op_rd rfl (rd_fieldAddr rfl (fa_27_0 _)) <| gl_op (op_rd rfl (rd_load Tryz.underlying22 rfl rfl (by exact ld_blk 1 rfl rfl)) ?_)
  refine gl_op <| op_rd rfl (rd_lenSlice Tryz.underlying22 rfl) <| gl_op (op_makeSlice (s.ds.length) Tryz.underlying78 ty_115 rfl rfl rfl (by omega) (by omega) (by omega) (by omega) (fun b22 => ?_))
  refine gl_op <| op_rd rfl (rd_assign rfl) <| gl_nil <| gx_then <| gc_seq <| gc_seq ?_
  rw [made_one _ rfl]
  refine gc_region <| gl_op <| op_rd rfl (rd_assign rfl) <| gl_nil <| gx_then <| gc_block <| gc_loopF (ι := List Nat) [(2, _), (3, _), (5, _)] [_, _] (fun gs => gs.length ≤ s.ds.length) (fun gs Fr0 => ((6, natV gs.length) :: Fr0)) (fun gs Fr0 => (.row 115 1 (some b22) s.ds.length s.ds.length (gsC gs ++ List.replicate (s.ds.length - gs.length) (Value.slice none 0 0)) :: (Fr0 ++ (TR gs (tbPl (cxN s h) gs.length))))) (fun gs => s.ds.length - gs.length) [] (Nat.zero_le _) ⟨rfl, rfl, rfl, rfl, trivial⟩ ⟨[0, 1, 2], by decide, rfl⟩ ?_
  rintro gs hgl
  refine gc_seq <| gc_seq <| gc_region <| gl_op <| op_rd rfl (rd_move rfl) <| gl_op <| op_rd rfl (rd_move rfl) <| gl_op <| op_rd rfl (rd_lenSlice Tryz.underlying78 rfl) <| gl_op (op_rd rfl (rd_lss rfl rfl) (gk_dec (fun h26 => ?_) (fun h26 => ?_)))
  · obtain ⟨r, hr⟩ := get_some (show gs.length < h.ks.length by omega)
    have hrm := List.mem_of_getElem? hr
    have hkd : (cxN s h).kd gs.length = r.ks := by
      show (h.ks.map KN.ks).getD gs.length [] = r.ks
      rw [List.getD_eq_getElem?_getD, List.getElem?_map, hr]; rfl
    refine gl_nil <| gx_then <| gc_cond_t rfl <| gc_skip <| gx_then <| gc_seq <| gc_block <| gc_seq <| gc_region <| gl_op <| op_rd rfl (rd_move rfl) <| gl_op <| op_rd rfl (rd_move rfl) <| gl_op (op_makeSlice (128) Tryz.underlying115 ty_114 rfl rfl rfl (by omega) (by omega) (by omega) (by omega) (fun b31 => ?_))
    refine gl_op (op_rd rfl (rd_indexRow1 1 rfl Tryz.underlying78 ty_115 rfl rfl (by omega) (by omega)) ?_)
    refine gl_op (op_storeRowE 1 ty_115 rfl rfl rfl rfl (by rw [List.length_append, List.length_replicate]; unfold gsC; rw [List.length_map]; omega) (gsC_put gs b31 s.ds.length (by omega)) (by rfl) ?_)
    refine gl_nil <| gx_then <| gc_seq ?_
    rw [made_flat ceC 4 _ ce0 ce0_cells (fun _ => rfl) (by decide) 128]
    refine gc_region <| gl_op <| op_rd rfl (rd_assign rfl) <| gl_nil <| gx_then <| gc_block <| gc_loopF (ι := Nat) [(2, _), (3, _), (5, _), (6, _)] (_ :: _ :: _ :: (TR gs (tbPl (cxN s h) gs.length))) (fun j => j ≤ r.ks.length) (fun j Fr0 => ((7, natV j) :: Fr0)) (fun j Fr0 => (.row 114 4 (some b31) 128 128 ((rowPl (cxN s h) gs.length j).flatMap ceC) :: Fr0)) (fun j => r.ks.length - j) 0 (Nat.zero_le _) ⟨rfl, rfl, rfl, rfl, rfl, trivial⟩ (sub_tail (A := [_, _, _, _]) (B := [_, _, _, _]) (T := (TR gs (tbPl (cxN s h) gs.length))) [0, 1, 2, 3] 4 (by decide) (by decide) rfl rfl) ?_
    rintro j hj
    refine gc_seq <| gc_seq <| gc_region <| gl_op <| op_rd rfl (rd_move rfl) <| gl_op <| op_rd rfl (rd_fieldAddr rfl (fa_31_0 _)) <| gl_op (op_rd rfl (rd_load Tryz.underlying28 rfl rfl (by exact ld_blk 2 rfl rfl)) ?_)
    refine gl_op <| op_rd rfl (rd_move rfl) <| gl_op (op_rd rfl (rd_indexOld1 hH.k Tryz.underlying28 ty_29 rfl rfl (by omega) (by omega)) ?_)
    refine gl_op <| op_rd rfl (rd_load Tryz.underlying29 rfl rfl (ld_slN hH.k (get_kn hr))) <| gl_op <| op_rd rfl (rd_lenSlice Tryz.underlying29 rfl) <| gl_op (op_rd rfl (rd_lss rfl rfl) (gk_dec (fun h40 => ?_) (fun h40 => ?_)))
    · obtain ⟨n, hn⟩ := get_some (show j < r.ks.length by omega)
      have hkn : ((cxN s h).kd gs.length)[j]? = some n := by rw [hkd]; exact hn
      have hkk := hA.key gs.length n (by rw [hkd]; exact List.mem_of_getElem? hn)
      have hkr := hA.rng gs.length (show gs.length < s.ds.length by omega)
      have hrpl := rowPl_len (A := cxN s h) gs.length j
      have hkm := hg.hk r hrm
      refine gl_nil <| gx_then <| gc_cond_t rfl <| gc_skip <| gx_then <| gc_seq <| gc_block <| gc_drawP [1, 2, 3] false 23 rfl <| ga_first 0 (bm 24 1) rfl rfl rfl rfl (by kernel_rfl) (by kernel_rfl) ⟨[1, 2, 3], by decide, rfl⟩ (qt_rd (rd_move rfl)) ?_
      refine ga_first 1 (bm 24 3) rfl rfl rfl rfl (by kernel_rfl) (by kernel_rfl) ⟨[1, 2, 3], by decide, rfl⟩ (qt_rd (rd_move rfl)) ?_
      refine ga_first 2 (bm 24 7) rfl rfl rfl rfl (by kernel_rfl) (by kernel_rfl) ⟨[1, 2, 3], by decide, rfl⟩ (qt_rd (rd_indexRow1 0 rfl Tryz.underlying78 ty_115 rfl rfl (by omega) (by omega))) ?_
      refine ga_first 3 (bm 24 15) rfl rfl rfl rfl (by kernel_rfl) (by kernel_rfl) ⟨[1, 2, 3], by decide, rfl⟩ (qt_rd (rd_load Tryz.underlying115 rfl rfl (ld_rowN 0 rfl (gsC_at gs b31 _)))) ?_
      refine ga_first 4 (bm 24 31) rfl rfl rfl rfl (by kernel_rfl) (by kernel_rfl) ⟨[1, 2, 3], by decide, rfl⟩ (qt_rd (rd_fieldAddr rfl (fa_31_0 _))) ?_
      refine ga_first 5 (bm 24 63) rfl rfl rfl rfl (by kernel_rfl) (by kernel_rfl) ⟨[1, 2, 3], by decide, rfl⟩ (qt_rd (rd_load Tryz.underlying28 rfl rfl (by exact ld_blk 1 rfl rfl))) ?_
      refine ga_first 6 (bm 24 127) rfl rfl rfl rfl (by kernel_rfl) (by kernel_rfl) ⟨[1, 2, 3], by decide, rfl⟩ (qt_rd (rd_move rfl)) ?_
      refine ga_first 7 (bm 24 255) rfl rfl rfl rfl (by kernel_rfl) (by kernel_rfl) ⟨[1, 2, 3], by decide, rfl⟩ (qt_rd (rd_indexOld1 hH.k Tryz.underlying28 ty_29 rfl rfl (by omega) (by omega))) ?_
      refine ga_first 8 (bm 24 511) rfl rfl rfl rfl (by kernel_rfl) (by kernel_rfl) ⟨[1, 2, 3], by decide, rfl⟩ (qt_rd (rd_load Tryz.underlying29 rfl rfl (ld_slN hH.k (get_kn hr)))) ?_
      refine ga_first 9 (bm 24 1023) rfl rfl rfl rfl (by kernel_rfl) (by kernel_rfl) ⟨[1, 2, 3], by decide, rfl⟩ (qt_rd (rd_move rfl)) ?_
      refine ga_first 10 (bm 24 2047) rfl rfl rfl rfl (by kernel_rfl) (by kernel_rfl) ⟨[1, 2, 3], by decide, rfl⟩ (qt_rd (rd_indexOld1 (hH.r r hrm) Tryz.underlying29 ty_3 rfl rfl (by omega) (by omega))) ?_
      refine ga_first 11 (bm 24 4095) rfl rfl rfl rfl (by kernel_rfl) (by kernel_rfl) ⟨[1, 2, 3], by decide, rfl⟩ (qt_rd (rd_load Tryz.underlying3 rfl rfl (ld_slN (hH.r r hrm) (get_nz hn)))) ?_
      refine ga_first 12 (bm 24 8191) rfl rfl rfl rfl (by kernel_rfl) (by kernel_rfl) ⟨[1, 2, 3], by decide, rfl⟩ (qt_rd (rd_move rfl)) ?_
      refine ga_first 13 (bm 24 16383) rfl rfl rfl rfl (by kernel_rfl) (by kernel_rfl) ⟨[1, 2, 3], by decide, rfl⟩ (qt_rd (rd_fieldAddr rfl (fa_31_0 _))) ?_
      refine ga_first 14 (bm 24 32767) rfl rfl rfl rfl (by kernel_rfl) (by kernel_rfl) ⟨[1, 2, 3], by decide, rfl⟩ (qt_rd (rd_load Tryz.underlying28 rfl rfl (by exact ld_blk 1 rfl rfl))) ?_
      refine ga_first 15 (bm 24 65535) rfl rfl rfl rfl (by kernel_rfl) (by kernel_rfl) ⟨[1, 2, 3], by decide, rfl⟩ (qt_rd (rd_move rfl)) ?_
      refine ga_first 16 (bm 24 131071) rfl rfl rfl rfl (by kernel_rfl) (by kernel_rfl) ⟨[1, 2, 3], by decide, rfl⟩ (qt_rd (rd_indexOld1 hH.k Tryz.underlying28 ty_29 rfl rfl (by omega) (by omega))) ?_
      refine ga_first 17 (bm 24 262143) rfl rfl rfl rfl (by kernel_rfl) (by kernel_rfl) ⟨[1, 2, 3], by decide, rfl⟩ (qt_rd (rd_load Tryz.underlying29 rfl rfl (ld_slN hH.k (get_kn hr)))) ?_
      refine ga_first 18 (bm 24 524287) rfl rfl rfl rfl (by kernel_rfl) (by kernel_rfl) ⟨[1, 2, 3], by decide, rfl⟩ (qt_rd (rd_move rfl)) ?_
      refine ga_first 19 (bm 24 1048575) rfl rfl rfl rfl (by kernel_rfl) (by kernel_rfl) ⟨[1, 2, 3], by decide, rfl⟩ (qt_rd (rd_indexOld1 (hH.r r hrm) Tryz.underlying29 ty_3 rfl rfl (by omega) (by omega))) ?_
      refine ga_first 20 (bm 24 2097151) rfl rfl rfl rfl (by kernel_rfl) (by kernel_rfl) ⟨[1, 2, 3], by decide, rfl⟩ (qt_rd (rd_load Tryz.underlying3 rfl rfl (ld_slN (hH.r r hrm) (get_nz hn)))) ?_
      refine ga_first 21 (bm 24 4194303) rfl rfl rfl rfl (by kernel_rfl) (by kernel_rfl) ⟨[1, 2, 3], by decide, rfl⟩ (qt_rd (rd_build rfl (fun _ => bd_114_0_2_1 _ _ _))) ?_
      refine ga_first 22 (bm 24 8388607) rfl rfl rfl rfl (by kernel_rfl) (by kernel_rfl) ⟨[1, 2, 3], by decide, rfl⟩ (qt_rd (rd_indexS Tryz.underlying115 ty_114 rfl rfl (by omega) (by omega))) ?_
      refine ga_only 23 (bm 24 16777215) rfl rfl (by kernel_rfl) (by kernel_rfl) (.inr ⟨[1, 2, 3], by decide, rfl⟩) (op_storeRowP 0 ty_114 rfl rfl rfl rfl rfl (by rw [flat_len ceC 4 (fun _ => rfl), hrpl]; omega) (putAt_flat ceC 4 (fun _ => rfl) (rowPl (cxN s h) gs.length j) n (plCE gs.length n) (by rw [hrpl]; omega)) (by rfl) ?_)
      refine ga_end (by kernel_rfl) (.inl (by kernel_rfl)) ?_
      refine gx_block <| gx_then ?_
      rw [← rowPl_snoc hkn]
      refine gc_region <| gl_op <| op_rd rfl (rd_move rfl) <| gl_op (op_rd rfl (by exact rd_addN (b := 1) rfl rfl (by omega)) ?_)
      refine gl_op <| op_rd rfl (rd_assign rfl) <| gl_nil <| gx_then ?_
      exact gx_cut (j + 1) ⟨by omega, by omega⟩ ⟨rfl, rfl, rfl, rfl, rfl, trivial⟩ (sub_tail (A := [_, _, _, _]) (B := [_, _, _, _]) (T := (TR gs (tbPl (cxN s h) gs.length))) [0, 1, 2, 3] 4 (by decide) (by decide) rfl rfl)
    refine gl_nil <| gx_then <| gc_cond_f rfl <| gc_exit <| gx_then_exit <| gx_then_exit <| gx_block_exit <| gx_block <| gx_then ?_
    have hj9 : j = ((cxN s h).kd gs.length).length := by rw [hkd]; omega
    rw [hj9]
    refine gk_mvL [_, _, _, _] [_, _, _] (TR gs (tbPl (cxN s h) gs.length)) [1, 2, 3] 0 4 rfl (x := rowT b31 (rowPl (cxN s h) gs.length ((cxN s h).kd gs.length).length)) rfl rfl (by decide) (by decide) ?_
    rw [TR_snoc (by rw [(tbPl_len _).len]), ← tbPl_snoc, show gs.length + 1 = (gs ++ [b31]).length by rw [List.length_append]; rfl]
    refine gc_region <| gl_op <| op_rd rfl (rd_move rfl) <| gl_op (op_rd rfl (by exact rd_addN (b := 1) rfl rfl (by omega)) ?_)
    refine gl_op <| op_rd rfl (rd_assign rfl) <| gl_nil <| gx_then ?_
    exact gx_cut (gs ++ [b31]) ⟨by rw [List.length_append, List.length_cons, List.length_nil]; omega, by rw [List.length_append, List.length_cons, List.length_nil]; omega⟩ ⟨(by rw [List.length_append]; rfl), rfl, rfl, rfl, trivial⟩ (sub_tail (A := [_, _, _]) (B := [_, _, _]) (T := (TR (gs ++ [b31]) (tbPl (cxN s h) (gs ++ [b31]).length))) [0, 1, 2] 3 (by decide) (by decide) rfl rfl)
  refine gl_nil <| gx_then <| gc_cond_f rfl <| gc_exit <| gx_then_exit <| gx_then_exit <| gx_block_exit <| gx_then <| gc_seq <| gc_seq ?_
  have hgl9 : gs.length = s.ds.length := by omega
  rw [hgl9, Nat.sub_self, List.replicate_zero, List.append_nil]
  have hT0 := tabOk_pl hA
  obtain ⟨tb0, htb0⟩ : ∃ tb0, tbPl (cxN s h) s.ds.length = tb0 := ⟨_, rfl⟩
  rw [show (cxN s h).ds.length = s.ds.length from rfl, htb0] at hT0
  have htbl : TbLen s.ds.length tb0 := htb0 ▸ tbPl_len _
  have hce : CEs tb0 [] := fun q hq => by
    rw [← htb0, show s.ds.length = (cxN s h).ds.length from rfl, entR_pl hA] at hq ⊢
    split at hq
    · rename_i h9; rw [if_pos h9]; exact ⟨.inl ⟨rfl, rfl⟩, by simp [plCE]⟩
    · cases hq
  rw [htb0, ← List.append_nil (TR gs tb0)]
  refine gc_region <| gl_op <| op_rd rfl (rd_assign rfl) <| gl_nil <| gx_then <| gc_block <| gc_loopF (ι := Nat × List (List CE) × List HL) [(2, _), (3, _), (5, _)] [_, _] (fun q => q.1 ≤ h.cs.length ∧ TbLen s.ds.length q.2.1 ∧ CEs q.2.1 q.2.2 ∧ Proc (cxN s h) 0 (tabR tb0) (tabR q.2.1) (fun (_ : Pl) (i : Nat) => i ∈ h.cs.take q.1)) (fun q Fr0 => ((8, natV q.1) :: Fr0)) (fun q Fr0 => (.row 115 1 (some b22) s.ds.length s.ds.length (gsC gs) :: (Fr0 ++ (TR gs q.2.1 ++ q.2.2)))) (fun q => h.cs.length - q.1) (0, tb0, []) (⟨Nat.zero_le _, htbl, hce, Proc.init.weak (fun _ _ _ _ hd _ _ _ _ _ => by simp at hd)⟩) ⟨rfl, rfl, rfl, rfl, trivial⟩ (sub_tail (A := [_, _, _]) (B := [_, _, _]) (T := (TR gs tb0 ++ [])) [0, 1, 2] 3 (by decide) (by decide) rfl rfl) ?_
  rintro ⟨k, tb, TC⟩ ⟨hk, htb, hces, hpr⟩
  simp only at hk htb hces hpr ⊢
  refine gc_seq <| gc_seq <| gc_region <| gl_op <| op_rd rfl (rd_move rfl) <| gl_op <| op_rd rfl (rd_fieldAddr rfl (fa_31_2 _)) <| gl_op (op_rd rfl (rd_load Tryz.underlying29 rfl rfl (by exact ld_blk 1 rfl rfl)) ?_)
  refine gl_op <| op_rd rfl (rd_lenSlice Tryz.underlying29 rfl) <| gl_op (op_rd rfl (rd_lss rfl rfl) (gk_dec (fun h70 => ?_) (fun h70 => ?_)))
  · obtain ⟨i, hi⟩ := get_some (show k < h.cs.length by omega)
    have him : i ∈ (cxN s h).dr := List.mem_of_getElem? hi
    obtain ⟨cp, hcp⟩ := get_some (show i < s.cs.length from hA.drn i him)
    have hcpi : (cxN s h).cp i = cp := getD_some hcp
    have hil : i < s.cs.length := hA.drn i him
    obtain ⟨hs0, hs1⟩ := hA.src i hil
    obtain ⟨hd0, hd1⟩ := hA.dst i hil
    obtain ⟨hf0, hf1⟩ := hA.shf i hil
    rw [hcpi] at hs0 hs1 hd0 hd1 hf0 hf1
    change cp.src < s.ds.length at hs1
    change cp.dst < s.ds.length at hd1
    obtain ⟨d, hd⟩ := get_some (show cp.dst.toNat < s.ds.length by omega)
    have hdi : (cxN s h).dv cp.dst.toNat = d := getD_some hd
    have hrg := hA.rng cp.dst.toNat (show cp.dst.toNat < s.ds.length by omega)
    rw [hdi] at hrg
    have honly := (cpErr_ok ((checkP_facts hg.spec).2.2.2.2 i hil)).2.2.2.2
    rw [getD_some hcp] at honly
    obtain ⟨kr, hkr⟩ := get_some (show cp.src.toNat < h.ks.length by omega)
    have hkrm := List.mem_of_getElem? hkr
    have hkd : (cxN s h).kd cp.src.toNat = kr.ks := by
      show (h.ks.map KN.ks).getD cp.src.toNat [] = kr.ks
      rw [List.getD_eq_getElem?_getD, List.getElem?_map, hkr]; rfl
    have hsn : cp.src = ((cp.src.toNat : Nat) : Int) := by omega
    refine gl_nil <| gx_then <| gc_cond_t rfl <| gc_skip <| gx_then <| gc_seq <| gc_block <| gc_seq <| gc_drawP [0, 1, 2] false 10 rfl <| ga_first 0 (bm 11 1) rfl rfl rfl rfl (by kernel_rfl) (by kernel_rfl) ⟨[0, 1, 2], by decide, rfl⟩ (qt_rd (rd_fieldAddr rfl (fa_27_3 _))) ?_
    refine ga_first 1 (bm 11 3) rfl rfl rfl rfl (by kernel_rfl) (by kernel_rfl) ⟨[0, 1, 2], by decide, rfl⟩ (qt_rd (rd_load Tryz.underlying25 rfl rfl (by exact ld_blk 2 rfl rfl))) ?_
    refine ga_first 2 (bm 11 7) rfl rfl rfl rfl (by kernel_rfl) (by kernel_rfl) ⟨[0, 1, 2], by decide, rfl⟩ (qt_rd (rd_fieldAddr rfl (fa_31_2 _))) ?_
    refine ga_first 3 (bm 11 15) rfl rfl rfl rfl (by kernel_rfl) (by kernel_rfl) ⟨[0, 1, 2], by decide, rfl⟩ (qt_rd (rd_load Tryz.underlying29 rfl rfl (by exact ld_blk 1 rfl rfl))) ?_
    refine ga_first 4 (bm 11 31) rfl rfl rfl rfl (by kernel_rfl) (by kernel_rfl) ⟨[0, 1, 2], by decide, rfl⟩ (qt_rd (rd_move rfl)) ?_
    refine ga_first 5 (bm 11 63) rfl rfl rfl rfl (by kernel_rfl) (by kernel_rfl) ⟨[0, 1, 2], by decide, rfl⟩ (qt_rd (rd_indexOld1 hH.c Tryz.underlying29 ty_3 rfl rfl (by omega) (by omega))) ?_
    refine ga_first 6 (bm 11 127) rfl rfl rfl rfl (by kernel_rfl) (by kernel_rfl) ⟨[0, 1, 2], by decide, rfl⟩ (qt_rd (rd_load Tryz.underlying3 rfl rfl (ld_slN hH.c (get_nz hi)))) ?_
    refine ga_first 7 (bm 11 255) rfl rfl rfl rfl (by kernel_rfl) (by kernel_rfl) ⟨[0, 1, 2], by decide, rfl⟩ (qt_rd (rd_indexOld hS.c Tryz.underlying25 ty_58 rfl rfl (by omega) (by omega))) ?_
    refine ga_first 8 (bm 11 511) rfl rfl rfl rfl (by kernel_rfl) (by kernel_rfl) ⟨[0, 1, 2], by decide, rfl⟩ (qt_rd (rd_loadAgg Tryz.underlying58 rfl ty_58 rfl (cs_slN hS.c (flat_drop_get Cp.cells 6 (fun _ => rfl) hcp)) rfl)) ?_
    refine ga_only 9 (bm 11 1023) rfl rfl (by kernel_rfl) (by kernel_rfl) (.inr ⟨[0, 1, 2], by decide, rfl⟩) (op_alloc ty_58 rfl rfl (fun b9 => ?_))
    refine ga_only 10 (bm 11 2047) rfl rfl (by kernel_rfl) (by kernel_rfl) (.inr ⟨[1, 2, 3], by decide, rfl⟩) (op_storeAgg 0 ty_58 rfl rfl rfl rfl rfl rfl (by rfl) ?_)
    refine ga_end (by kernel_rfl) (.inl (by kernel_rfl)) ?_
    refine gx_then <| gc_seq ?_
    simp only [Cp.cells]
    refine gc_region <| gl_op <| op_rd rfl (rd_assign rfl) <| gl_nil <| gx_then <| gc_block <| gc_loopF (ι := Nat × List (List CE) × List HL) [(2, _), (3, _), (5, _), (8, _), (9, _)] [_, _, _] (fun q => q.1 ≤ kr.ks.length ∧ TbLen s.ds.length q.2.1 ∧ CEs q.2.1 q.2.2 ∧ Proc (cxN s h) 0 (tabR tb0) (tabR q.2.1) (fun (p : Pl) (a : Nat) => a ∈ h.cs.take k ∨ (a = i ∧ p ∈ (kr.ks.take q.1).map fun n => (cp.src.toNat, n)))) (fun q Fr0 => ((10, natV q.1) :: Fr0)) (fun q Fr0 => (.row 115 1 (some b22) s.ds.length s.ds.length (gsC gs) :: (Fr0 ++ (TR gs q.2.1 ++ q.2.2)))) (fun q => kr.ks.length - q.1) (0, tb, TC) (⟨Nat.zero_le _, htb, hces, hpr.weak (fun _ _ _ _ hd _ _ _ _ _ => by simpa using hd)⟩) ⟨rfl, rfl, rfl, rfl, rfl, rfl, trivial⟩ (sub_tail (A := [_, _, _, _]) (B := [_, _, _, _]) (T := (TR gs tb ++ TC)) [1, 0, 2, 3] 4 (by decide) (by decide) rfl rfl) ?_
    rintro ⟨j, tb3, TC3⟩ ⟨hj, htb3, hces3, hpr3⟩
    simp only at hj htb3 hces3 hpr3 ⊢
    refine gc_seq <| gc_seq <| gc_region <| gl_op <| op_rd rfl (rd_move rfl) <| gl_op <| op_rd rfl (rd_fieldAddr rfl (fa_31_0 _)) <| gl_op (op_rd rfl (rd_load Tryz.underlying28 rfl rfl (by exact ld_blk 2 rfl rfl)) ?_)
    refine gl_op <| op_rd rfl (rd_fieldAddr rfl (fa_58_1 _)) <| gl_op (op_rd rfl (rd_load Tryz.underlying3 rfl rfl (by exact ld_blk 1 rfl rfl)) ?_)
    refine gl_op (op_rd rfl (rd_indexOld1 hH.k Tryz.underlying28 ty_29 rfl rfl (by omega) (by omega)) ?_)
    refine gl_op <| op_rd rfl (rd_load Tryz.underlying29 rfl rfl (ld_sl hH.k (get_kn hkr))) <| gl_op <| op_rd rfl (rd_lenSlice Tryz.underlying29 rfl) <| gl_op (op_rd rfl (rd_lss rfl rfl) (gk_dec (fun h90 => ?_) (fun h90 => ?_)))
    · obtain ⟨n, hn⟩ := get_some (show j < kr.ks.length by omega)
      have hkk := hA.key cp.src.toNat n (by rw [hkd]; exact List.mem_of_getElem? hn)
      have hkr9 := hA.rng cp.src.toNat (show cp.src.toNat < s.ds.length by omega)
      have hkm := hg.hk kr hkrm
      have hknd : kr.ks.Nodup := by rw [← hkd]; exact (hA.asc _).imp (fun h => Nat.ne_of_lt h)
      refine gl_nil <| gx_then <| gc_cond_t rfl <| gc_skip <| gx_then <| gc_seq <| gc_block <| gc_seq <| gc_drawP [0, 1, 2, 3] true 8 rfl <| ga_first 0 (bm 9 1) rfl rfl rfl rfl (by kernel_rfl) (by kernel_rfl) ⟨[0, 1, 2, 3], by decide, rfl⟩ (qt_rd (rd_loadAgg Tryz.underlying58 rfl ty_58 rfl (by exact cs_blk 1 (off := 0) (k := 6) rfl rfl) rfl)) ?_
      refine ga_first 1 (bm 9 3) rfl rfl rfl rfl (by kernel_rfl) (by kernel_rfl) ⟨[0, 1, 2, 3], by decide, rfl⟩ (qt_rd (rd_fieldAddr rfl (fa_31_0 _))) ?_
      refine ga_first 2 (bm 9 7) rfl rfl rfl rfl (by kernel_rfl) (by kernel_rfl) ⟨[0, 1, 2, 3], by decide, rfl⟩ (qt_rd (rd_load Tryz.underlying28 rfl rfl (by exact ld_blk 2 rfl rfl))) ?_
      refine ga_first 3 (bm 9 15) rfl rfl rfl rfl (by kernel_rfl) (by kernel_rfl) ⟨[0, 1, 2, 3], by decide, rfl⟩ (qt_rd (rd_fieldAddr rfl (fa_58_1 _))) ?_
      refine ga_first 4 (bm 9 31) rfl rfl rfl rfl (by kernel_rfl) (by kernel_rfl) ⟨[0, 1, 2, 3], by decide, rfl⟩ (qt_rd (rd_load Tryz.underlying3 rfl rfl (by exact ld_blk 1 rfl rfl))) ?_
      refine ga_first 5 (bm 9 63) rfl rfl rfl rfl (by kernel_rfl) (by kernel_rfl) ⟨[0, 1, 2, 3], by decide, rfl⟩ (qt_rd (rd_indexOld1 hH.k Tryz.underlying28 ty_29 rfl rfl (by omega) (by omega))) ?_
      refine ga_first 6 (bm 9 127) rfl rfl rfl rfl (by kernel_rfl) (by kernel_rfl) ⟨[0, 1, 2, 3], by decide, rfl⟩ (qt_rd (rd_load Tryz.underlying29 rfl rfl (ld_sl hH.k (get_kn hkr)))) ?_
      refine ga_first 7 (bm 9 255) rfl rfl rfl rfl (by kernel_rfl) (by kernel_rfl) ⟨[0, 1, 2, 3], by decide, rfl⟩ (qt_rd (rd_move rfl)) ?_
      refine ga_first 8 (bm 9 511) rfl rfl rfl rfl (by kernel_rfl) (by kernel_rfl) ⟨[0, 1, 2, 3], by decide, rfl⟩ (qt_call (vf := []) (vc := []) rfl rfl Tryz.call46 (fun w1 ho => first_ok cp _ _ _ j (by omega) w1) (by rintro _ _ ⟨h, _⟩; exact h)) ?_
      refine gk_bool (fun hfi => ?_) (fun hfi => ?_)
      · refine ga_end (by kernel_rfl) (.inr ⟨[0, 1, 2, 3], by decide, rfl⟩) ?_
        refine gx_then <| gc_cond_t rfl <| gc_seq <| gc_region <| gl_op <| op_rd rfl (rd_fieldAddr rfl (fa_31_0 _)) <| gl_op (op_rd rfl (rd_load Tryz.underlying28 rfl rfl (by exact ld_blk 2 rfl rfl)) ?_)
        refine gl_op <| op_rd rfl (rd_fieldAddr rfl (fa_58_1 _)) <| gl_op (op_rd rfl (rd_load Tryz.underlying3 rfl rfl (by exact ld_blk 1 rfl rfl)) ?_)
        refine gl_op (op_rd rfl (rd_indexOld1 hH.k Tryz.underlying28 ty_29 rfl rfl (by omega) (by omega)) ?_)
        refine gl_op <| op_rd rfl (rd_load Tryz.underlying29 rfl rfl (ld_sl hH.k (get_kn hkr))) <| gl_op <| op_rd rfl (rd_move rfl) <| gl_op (op_rd rfl (rd_indexOld1 (hH.r kr hkrm) Tryz.underlying29 ty_3 rfl rfl (by omega) (by omega)) ?_)
        refine gl_op <| op_rd rfl (rd_load Tryz.underlying3 rfl rfl (ld_slN (hH.r kr hkrm) (get_nz hn))) <| gl_op <| op_rd rfl (rd_assign rfl) <| gl_nil <| gx_then <| gc_drawP [1, 2, 3] true 18 rfl <| ga_first 0 (bm 19 1) rfl rfl rfl rfl (by kernel_rfl) (by kernel_rfl) ⟨[1, 2, 3], by decide, rfl⟩ (qt_rd (rd_loadAgg Tryz.underlying27 rfl ty_27 rfl (by exact cs_blk 2 (off := 0) (k := 4) rfl rfl) rfl)) ?_
        refine ga_first 1 (bm 19 3) rfl rfl rfl rfl (by kernel_rfl) (by kernel_rfl) ⟨[1, 2, 3], by decide, rfl⟩ (qt_rd (rd_move rfl)) ?_
        refine ga_first 2 (bm 19 7) rfl rfl rfl rfl (by kernel_rfl) (by kernel_rfl) ⟨[1, 2, 3], by decide, rfl⟩ (qt_rd (rd_fieldAddr rfl (fa_58_2 _))) ?_
        refine ga_first 3 (bm 19 15) rfl rfl rfl rfl (by kernel_rfl) (by kernel_rfl) ⟨[1, 2, 3], by decide, rfl⟩ (qt_rd (rd_load Tryz.underlying3 rfl rfl (by exact ld_blk 0 rfl rfl))) ?_
        refine ga_first 4 (bm 19 31) rfl rfl rfl rfl (by kernel_rfl) (by kernel_rfl) ⟨[1, 2, 3], by decide, rfl⟩ (qt_rd (rd_move rfl)) ?_
        refine ga_first 5 (bm 19 63) rfl rfl rfl rfl (by kernel_rfl) (by kernel_rfl) ⟨[1, 2, 3], by decide, rfl⟩ (qt_rd (rd_fieldAddr rfl (fa_58_3 _))) ?_
        refine ga_first 6 (bm 19 127) rfl rfl rfl rfl (by kernel_rfl) (by kernel_rfl) ⟨[1, 2, 3], by decide, rfl⟩ (qt_rd (rd_load Tryz.underlying3 rfl rfl (by exact ld_blk 0 rfl rfl))) ?_
        refine ga_first 7 (bm 19 255) rfl rfl rfl rfl (by kernel_rfl) (by kernel_rfl) ⟨[1, 2, 3], by decide, rfl⟩ (qt_rd (rd_add rfl rfl (by omega) (by omega))) ?_
        refine ga_first 8 (bm 19 511) rfl rfl rfl rfl (by kernel_rfl) (by kernel_rfl) ⟨[1, 2, 3], by decide, rfl⟩ (qt_rd (rd_fieldAddr rfl (fa_58_1 _))) ?_
        refine ga_first 9 (bm 19 1023) rfl rfl rfl rfl (by kernel_rfl) (by kernel_rfl) ⟨[1, 2, 3], by decide, rfl⟩ (qt_rd (rd_load Tryz.underlying3 rfl rfl (by exact ld_blk 0 rfl rfl))) ?_
        refine ga_first 10 (bm 19 2047) rfl rfl rfl rfl (by kernel_rfl) (by kernel_rfl) ⟨[1, 2, 3], by decide, rfl⟩ (qt_rd (rd_move rfl)) ?_
        refine ga_first 11 (bm 19 4095) rfl rfl rfl rfl (by kernel_rfl) (by kernel_rfl) ⟨[1, 2, 3], by decide, rfl⟩ (qt_rd (rd_fieldAddr rfl (fa_31_2 _))) ?_
        refine ga_first 12 (bm 19 8191) rfl rfl rfl rfl (by kernel_rfl) (by kernel_rfl) ⟨[1, 2, 3], by decide, rfl⟩ (qt_rd (rd_load Tryz.underlying29 rfl rfl (by exact ld_blk 1 rfl rfl))) ?_
        refine ga_first 13 (bm 19 16383) rfl rfl rfl rfl (by kernel_rfl) (by kernel_rfl) ⟨[1, 2, 3], by decide, rfl⟩ (qt_rd (rd_move rfl)) ?_
        refine ga_first 14 (bm 19 32767) rfl rfl rfl rfl (by kernel_rfl) (by kernel_rfl) ⟨[1, 2, 3], by decide, rfl⟩ (qt_rd (rd_indexOld1 hH.c Tryz.underlying29 ty_3 rfl rfl (by omega) (by omega))) ?_
        refine ga_first 15 (bm 19 65535) rfl rfl rfl rfl (by kernel_rfl) (by kernel_rfl) ⟨[1, 2, 3], by decide, rfl⟩ (qt_rd (rd_load Tryz.underlying3 rfl rfl (ld_slN hH.c (get_nz hi)))) ?_
        refine ga_only 16 (bm 19 131071) rfl rfl (by kernel_rfl) (by kernel_rfl) (.inr ⟨[1, 2, 3], by decide, rfl⟩) (op_buildSlice (sz := 1) rfl rfl (fun _ => bs_29_1_0 _) rfl rfl (fun b127 => ?_))
        refine ga_first 17 (bm 19 262143) rfl rfl rfl rfl (by kernel_rfl) (by kernel_rfl) ⟨[2, 3, 4], by decide, rfl⟩ (qt_rd (rd_build rfl (fun _ => bd_114_0_2_1_3 _ _ _ _ _ _))) ?_
        refine gk_mvL [_, _, _, _, _] [_, _, _, _] (TR gs tb3 ++ TC3) [1, 2, 3, 4] 0 5 rfl (x := HL.row 3 1 (some b127) 1 1 [natV i]) rfl rfl (by decide) (by decide) ?_
        rw [List.append_assoc (TR gs tb3) TC3]
        have hxin : CEIn (TC3 ++ [HL.row 3 1 (some b127) 1 1 [natV i]]) ⟨true, n, cp.src.toNat, some b127, 1, [i]⟩ := .inr (List.mem_append_right _ (by exact List.mem_singleton.2 rfl))
        have hxln : (⟨true, n, cp.src.toNat, some b127, 1, [i]⟩ : CE).ch.length ≤ 100000 := by show 1 ≤ 100000; omega
        have hces5 : CEs tb3 (TC3 ++ [HL.row 3 1 (some b127) 1 1 [natV i]]) := fun q hq => ⟨(hces3 q hq).1.mono fun y hy => List.mem_append_left _ hy, (hces3 q hq).2⟩
        have hpl0 : tabR tb0 (cp.src.toNat, n) = some ((cp.src.toNat, n), []) := by rw [← htb0, show s.ds.length = (cxN s h).ds.length from rfl, tabR_pl hA, if_pos (by show n ∈ (cxN s h).kd cp.src.toNat; rw [hkd]; exact List.mem_of_getElem? hn)]
        have hnx : (cxN s h).nx [] (cp.src.toNat, n) i = true := by
          have hm : (cp.src.toNat, n) ∈ (cxN s h).start i := by
            unfold Cx.start; rw [hcpi, hkd]
            exact List.mem_map_of_mem ((mem_takenL honly.1 honly.2 hknd hn).2 hfi)
          unfold Cx.nx; rw [if_pos rfl]; exact decide_eq_true hm
        have hxv : CE.val ⟨true, n, cp.src.toNat, some b127, 1, [i]⟩ = .agg #[.bool true, natV n, .int .i64 cp.src, .slice (rowA (some b127)) 1 1] := by
          show Value.agg #[.bool true, natV n, .int .i64 ((cp.src.toNat : Nat) : Int), .slice (rowA (some b127)) 1 1] = _
          rw [← hsn]
        refine ga_only 18 (bm 19 524287) rfl rfl (by kernel_rfl) (by kernel_rfl) (.inr ⟨[1, 2, 3], by decide, rfl⟩) (op_callMW [_, _, _, _] (TR gs tb3 ++ (TC3 ++ [HL.row 3 1 (some b127) 1 1 [natV i]])) [0] [1, 2, 3] 4 rfl rfl rfl (vf := []) (vc := []) rfl rfl Tryz.call47 (by decide) (by decide) rfl (fun w how hc => by
          have h9 := addR_ok s d cp.dst ((n : Int) + cp.shift) cp.dst.toNat ⟨true, n, cp.src.toNat, some b127, 1, [i]⟩ b22 s.ds.length s.ds.length gs tb3 (TC3 ++ [HL.row 3 1 (some b127) 1 1 [natV i]]) (by omega) hd hrg.1 hrg.2.2 (by omega) (by omega) (by omega) hgl9 htb3 hxin hxln hces5 _ w (slOutW (B := [_, _, _, _]) (T := (TR gs tb3 ++ (TC3 ++ [HL.row 3 1 (some b127) 1 1 [natV i]]))) how hS.d (by decide) [0]) hc
          rw [hxv] at h9
          exact h9) ?_)
        rintro _ _ ⟨rfl, rfl⟩
        refine gk_mid [_] (TR gs (addR d.lo d.hi tb3 cp.dst.toNat ((n : Int) + cp.shift) ⟨true, n, cp.src.toNat, some b127, 1, [i]⟩) ++ (TC3 ++ [HL.row 3 1 (some b127) 1 1 [natV i]])) [_, _, _] ?_
        have hpr4 := hpr3.addR hA hT0 htb3 (key := (n : Int) + cp.shift) hpl0 rfl him hnx hcpi hdi rfl (some b127) 1
        have htb4 : TbLen s.ds.length (addR d.lo d.hi tb3 cp.dst.toNat ((n : Int) + cp.shift) ⟨true, n, cp.src.toNat, some b127, 1, [i]⟩) := addR_len htb3 (by omega)
        have hces4 : CEs (addR d.lo d.hi tb3 cp.dst.toNat ((n : Int) + cp.shift) ⟨true, n, cp.src.toNat, some b127, 1, [i]⟩) (TC3 ++ [HL.row 3 1 (some b127) 1 1 [natV i]]) := hces3.put htb3 (by omega) hrg.1 hrg.2.2 hxin hxln
        obtain ⟨tb4, htb49⟩ : ∃ tb4, addR d.lo d.hi tb3 cp.dst.toNat ((n : Int) + cp.shift) ⟨true, n, cp.src.toNat, some b127, 1, [i]⟩ = tb4 := ⟨_, rfl⟩
        change Proc _ _ _ (tabR (addR d.lo d.hi tb3 cp.dst.toNat ((n : Int) + cp.shift) ⟨true, n, cp.src.toNat, some b127, 1, [i]⟩)) _ at hpr4
        rw [htb49] at hpr4 htb4 hces4 ⊢
        refine ga_end (by kernel_rfl) (.inr ⟨[1, 2, 3], by decide, rfl⟩) ?_
        refine gx_block <| gx_then <| gc_region <| gl_op <| op_rd rfl (rd_move rfl) <| gl_op (op_rd rfl (by exact rd_addN (b := 1) rfl rfl (by omega)) ?_)
        refine gl_op <| op_rd rfl (rd_assign rfl) <| gl_nil <| gx_then ?_
        exact gx_cut ((j + 1, tb4, TC3 ++ [HL.row 3 1 (some b127) 1 1 [natV i]])) ⟨⟨by simp only; omega, htb4, hces4, hpr4.weak (fun p a v0 p2 hdn _ _ _ _ _ => by
          simp only [take_at hn, List.map_append, List.mem_append, List.map_cons, List.map_nil, List.mem_singleton] at hdn
          rcases hdn with hdn | ⟨rfl, hdn | hdn⟩
          · exact .inl (.inl hdn)
          · exact .inl (.inr ⟨rfl, hdn⟩)
          · exact .inr ⟨hdn, rfl⟩)⟩, by simp only; omega⟩ ⟨rfl, rfl, rfl, rfl, rfl, rfl, trivial⟩ (sub_tail (A := [_, _, _, _]) (B := [_, _, _, _]) (T := (TR gs tb4 ++ (TC3 ++ [HL.row 3 1 (some b127) 1 1 [natV i]]))) [0, 1, 2, 3] 4 (by decide) (by decide) rfl rfl)
      refine ga_end (by kernel_rfl) (.inr ⟨[0, 1, 2, 3], by decide, rfl⟩) ?_
      refine gx_then <| gc_cond_f rfl <| gc_skip <| gx_block <| gx_then <| gc_region <| gl_op <| op_rd rfl (rd_move rfl) <| gl_op (op_rd rfl (by exact rd_addN (b := 1) rfl rfl (by omega)) ?_)
      refine gl_op <| op_rd rfl (rd_assign rfl) <| gl_nil <| gx_then ?_
      exact gx_cut ((j + 1, tb3, TC3)) ⟨⟨by simp only; omega, htb3, hces3, hpr3.weak (fun p a v0 p2 hdn hp0 hp1 hp2 hp3 hp4 => by
        simp only [take_at hn, List.map_append, List.mem_append, List.map_cons, List.map_nil, List.mem_singleton] at hdn
        rcases hdn with hdn | ⟨rfl, hdn | hdn⟩
        · exact .inl hdn
        · exact .inr ⟨rfl, hdn⟩
        · exfalso
          subst hdn
          have hv0 : v0.2 = [] := List.length_eq_zero_iff.1 hp1
          rw [hv0] at hp3
          have hm : (cp.src.toNat, n) ∈ (cxN s h).start a := by simpa [Cx.nx] using hp3
          unfold Cx.start at hm
          rw [hcpi, hkd] at hm
          obtain ⟨n2, hn2, e⟩ := List.mem_map.1 hm
          simp only [Prod.mk.injEq, true_and] at e
          subst e
          rw [mem_takenL honly.1 honly.2 hknd hn, hfi] at hn2; cases hn2)⟩, by simp only; omega⟩ ⟨rfl, rfl, rfl, rfl, rfl, rfl, trivial⟩ (sub_tail (A := [_, _, _, _]) (B := [_, _, _, _]) (T := (TR gs tb3 ++ TC3)) [0, 1, 2, 3] 4 (by decide) (by decide) rfl rfl)
    refine gl_nil <| gx_then <| gc_cond_f rfl <| gc_exit <| gx_then_exit <| gx_then_exit <| gx_block_exit <| gx_block <| gx_then <| gc_region <| gl_op <| op_rd rfl (rd_move rfl) <| gl_op (op_rd rfl (by exact rd_addN (b := 1) rfl rfl (by omega)) ?_)
    refine gl_op <| op_rd rfl (rd_assign rfl) <| gl_nil <| gx_then ?_
    exact gx_cut ((k + 1, tb3, TC3)) ⟨⟨by simp only; omega, htb3, hces3, hpr3.weak (fun p a v0 p2 hdn hp0 hp1 hp2 hp3 hp4 => by
      simp only [take_at hi, List.mem_append, List.mem_singleton] at hdn
      rcases hdn with hdn | rfl
      · exact .inl hdn
      · refine .inr ⟨rfl, ?_⟩
        have hv0 : v0.2 = [] := List.length_eq_zero_iff.1 hp1
        rw [hv0] at hp3
        have hm : p ∈ (cxN s h).start a := by simpa [Cx.nx] using hp3
        unfold Cx.start at hm
        rw [hcpi, hkd] at hm
        obtain ⟨n, hn, rfl⟩ := List.mem_map.1 hm
        rw [List.take_of_length_le (by omega)]
        exact List.mem_map_of_mem (takenL_sub hn))⟩, by simp only; omega⟩ ⟨rfl, rfl, rfl, rfl, trivial⟩ (sub_tail (A := [_, _, _]) (B := [_, _, _, _]) (T := (TR gs tb3 ++ TC3)) [0, 2, 3] 4 (by decide) (by decide) rfl rfl)
  refine gl_nil <| gx_then <| gc_cond_f rfl <| gc_exit <| gx_then_exit <| gx_then_exit <| gx_block_exit <| gx_then <| gc_seq <| gc_seq ?_
  have hpr9 := hpr
  have hk9 : h.cs.take k = h.cs := List.take_of_length_le (by omega)
  have hok1 : TabOk (cxN s h) 1 (tabR tb) := hpr9.finish hA hT0 (fun q i v0 q2 _ _ hi _ _ => by rw [hk9]; exact hi)
  refine gc_region <| gl_op <| op_rd rfl (rd_assign rfl) <| gl_op <| op_rd rfl (rd_assign rfl) <| gl_nil <| gx_then <| gc_block <| gc_loopF (ι := Nat × Bool × List (List CE) × List HL) [(2, _), (3, _), (5, _)] [_, _] (fun q => (q.1 ≤ 769 ∧ (q.2.1 = true → q.1 ≤ 768)) ∧ 1 ≤ q.1 ∧ TbLen s.ds.length q.2.2.1 ∧ CEs q.2.2.1 q.2.2.2 ∧ (q.2.1 = true → TabOk (cxN s h) q.1 (tabR q.2.2.1)) ∧ (q.2.1 = false → Chains (cxN s h) (tabR q.2.2.1))) (fun q Fr0 => ((12, natV q.1) :: (13, .bool q.2.1) :: Fr0)) (fun q Fr0 => (.row 115 1 (some b22) s.ds.length s.ds.length (gsC gs) :: (Fr0 ++ (TR gs q.2.2.1 ++ q.2.2.2)))) (fun q => 1000 - q.1) (1, true, tb, TC) (⟨⟨by simp only; omega, fun _ => by simp only; omega⟩, Nat.le_refl _, htb, hces, fun _ => hok1, fun h => by cases h⟩) ⟨rfl, rfl, rfl, rfl, rfl, trivial⟩ (sub_tail (A := [_, _, _]) (B := [_, _, _]) (T := (TR gs tb ++ TC)) [0, 1, 2] 3 (by decide) (by decide) rfl rfl) ?_
  rintro ⟨lv, more, tbA, TCA⟩ ⟨⟨hlv, hlv8⟩, hlv1, htbA, hcesA, hokA, hchA⟩
  simp only at hlv hlv8 hlv1 htbA hcesA hokA hchA ⊢
  refine gc_seq <| gc_seq <| gc_region <| gl_op <| op_rd rfl (rd_move rfl) <| gl_nil <| gx_then <| gc_cond rfl (fun hmore => ?_) (fun hmore => ?_)
  · refine gc_skip <| gx_then <| gc_seq <| gc_block <| gc_seq <| gc_region <| gl_op <| op_rd rfl (rd_assign rfl) <| gl_nil <| gx_then <| gc_seq <| gc_region <| gl_op <| op_rd rfl (rd_assign rfl) <| gl_nil <| gx_then <| gc_block <| gc_loopF (ι := Nat × Bool × List (List CE) × List HL) [(2, _), (3, _), (5, _), (12, _)] [_, _] (fun q => q.1 ≤ s.ds.length ∧ TbLen s.ds.length q.2.2.1 ∧ CEs q.2.2.1 q.2.2.2 ∧ Proc (cxN s h) lv (tabR tbA) (tabR q.2.2.1) (fun (p : Pl) (_ : Nat) => p.1 < q.1) ∧ (q.2.1 = false → ∀ p v, p.1 < q.1 → tabR tbA p = some v → v.2.length ≠ lv) ∧ (q.2.1 = true → lv < 768)) (fun q Fr0 => ((13, .bool q.2.1) :: (14, natV q.1) :: Fr0)) (fun q Fr0 => (.row 115 1 (some b22) s.ds.length s.ds.length (gsC gs) :: (Fr0 ++ (TR gs q.2.2.1 ++ q.2.2.2)))) (fun q => s.ds.length - q.1) (0, false, tbA, TCA) (⟨Nat.zero_le _, htbA, hcesA, Proc.init.weak (fun _ _ _ _ hd _ _ _ _ _ => by simp at hd), fun _ p v hp => by simp at hp, fun h => by cases h⟩) ⟨rfl, rfl, rfl, rfl, rfl, rfl, trivial⟩ (sub_tail (A := [_, _, _]) (B := [_, _, _]) (T := (TR gs tbA ++ TCA)) [0, 1, 2] 3 (by decide) (by decide) rfl rfl) ?_
    rintro ⟨d5, moreB, tbB, TCB⟩ ⟨hd5, htbB, hcesB, hprB, hmf, hmt⟩
    simp only at hd5 htbB hcesB hprB hmf hmt ⊢
    refine gc_seq <| gc_seq <| gc_region <| gl_op <| op_rd rfl (rd_move rfl) <| gl_op <| op_rd rfl (rd_move rfl) <| gl_op <| op_rd rfl (rd_lenSlice Tryz.underlying78 rfl) <| gl_op (op_rd rfl (rd_lss rfl rfl) (gk_dec (fun h136 => ?_) (fun h136 => ?_)))
    · obtain ⟨g14, hg14⟩ := get_some (show d5 < gs.length by omega)
      refine gl_nil <| gx_then <| gc_cond_t rfl <| gc_skip <| gx_then <| gc_seq <| gc_block <| gc_seq <| gc_region <| gl_op <| op_rd rfl (rd_assign rfl) <| gl_nil <| gx_then <| gc_block <| gc_loopF (ι := Nat × Bool × List (List CE) × List HL) [(2, _), (3, _), (5, _), (12, _), (14, _)] [_, _] (fun q => q.1 ≤ 128 ∧ TbLen s.ds.length q.2.2.1 ∧ CEs q.2.2.1 q.2.2.2 ∧ Proc (cxN s h) lv (tabR tbA) (tabR q.2.2.1) (fun (p : Pl) (_ : Nat) => p.1 < d5 ∨ (p.1 = d5 ∧ p.2 < q.1)) ∧ (q.2.1 = false → ∀ p v, (p.1 < d5 ∨ (p.1 = d5 ∧ p.2 < q.1)) → tabR tbA p = some v → v.2.length ≠ lv) ∧ (q.2.1 = true → lv < 768)) (fun q Fr0 => ((13, .bool q.2.1) :: (15, natV q.1) :: Fr0)) (fun q Fr0 => (.row 115 1 (some b22) s.ds.length s.ds.length (gsC gs) :: (Fr0 ++ (TR gs q.2.2.1 ++ q.2.2.2)))) (fun q => 128 - q.1) (0, moreB, tbB, TCB) (⟨Nat.zero_le _, htbB, hcesB, hprB.weak (fun p a _ _ hd _ _ _ _ _ => by simp only at hd; show p.1 < d5; omega), fun hf p v hp hq => hmf hf p v (by simp only at hp; omega) hq, hmt⟩) ⟨rfl, rfl, rfl, rfl, rfl, rfl, rfl, trivial⟩ (sub_tail (A := [_, _, _]) (B := [_, _, _]) (T := (TR gs tbB ++ TCB)) [0, 1, 2] 3 (by decide) (by decide) rfl rfl) ?_
      rintro ⟨k6, moreC, tbC, TCC⟩ ⟨hk6, htbC, hcesC, hprC, hmfC, hmtC⟩
      simp only at hk6 htbC hcesC hprC hmfC hmtC ⊢
      refine gc_seq <| gc_seq <| gc_region <| gl_op <| op_rd rfl (rd_move rfl) <| gl_op <| op_rd rfl (rd_move rfl) <| gl_op <| op_rd rfl (rd_move rfl) <| gl_op (op_rd rfl (rd_indexRow1 0 rfl Tryz.underlying78 ty_115 rfl rfl (by omega) (by omega)) ?_)
      refine gl_op <| op_rd rfl (rd_load Tryz.underlying115 rfl rfl (ld_rowN 0 rfl (gsC_get hg14))) <| gl_op <| op_rd rfl (rd_lenSlice Tryz.underlying115 rfl) <| gl_op (op_rd rfl (rd_lss rfl rfl) (gk_dec (fun h145 => ?_) (fun h145 => ?_)))
      · obtain ⟨row, hrow⟩ := get_some (show d5 < tbC.length by rw [htbC.len]; omega)
        have hrl := htbC.row row (List.mem_of_getElem? hrow)
        obtain ⟨en, hen⟩ := get_some (show k6 < row.length by rw [hrl]; omega)
        have hent : entR tbC (d5, k6) = en := by unfold entR; rw [getD_some hrow, getD_some hen]
        refine gl_nil <| gx_then <| gc_cond_t rfl <| gc_skip <| gx_then <| gc_seq <| gc_block <| gc_seq <| gc_region <| gl_op <| op_rd rfl (rd_move rfl) <| gl_op <| op_rd rfl (rd_move rfl) <| gl_op (op_rd rfl (rd_indexRow1 0 rfl Tryz.underlying78 ty_115 rfl rfl (by omega) (by omega)) ?_)
        refine gl_op <| op_rd rfl (rd_load Tryz.underlying115 rfl rfl (ld_rowN 0 rfl (gsC_get hg14))) <| gl_op <| op_rd rfl (rd_move rfl) <| gl_op (op_rd rfl (rd_indexS Tryz.underlying115 ty_114 rfl rfl (by omega) (by omega)) ?_)
        refine gl_op (op_rd rfl (rd_loadAgg Tryz.underlying114 rfl ty_114 rfl (cs_memRow (r := some g14) (List.mem_append_right [_, _, _] (List.mem_append_left _ (List.mem_of_getElem? (TR_get hg14 hrow)))) (flat_drop_get ceC 4 (fun _ => rfl) hen)) rfl) ?_)
        refine gl_op (op_alloc ty_114 rfl rfl (fun b16 => ?_))
        refine gl_op (op_storeAgg 0 ty_114 rfl rfl rfl rfl rfl rfl (by rfl) ?_)
        refine gl_nil <| gx_then <| gc_seq <| gc_seq ?_
        simp only [ceC]
        refine gc_region <| gl_op <| op_rd rfl (rd_fieldAddr rfl (fa_114_0 _)) <| gl_op (op_rd rfl (rd_load Tryz.underlying4 rfl rfl (by exact ld_blk 0 rfl rfl)) ?_)
        refine gk_bool (fun h156 => ?_) (fun h156 => ?_)
        · refine gl_op <| op_rd rfl (rd_not rfl) <| gl_op <| op_rd rfl (rd_move rfl) <| gl_yes rfl rfl <| op_rd rfl (rd_fieldAddr rfl (fa_114_3 _)) <| gl_yes rfl rfl (op_rd rfl (rd_load Tryz.underlying29 rfl rfl (by exact ld_blk 0 rfl rfl)) ?_)
          refine gl_yes rfl rfl <| op_rd rfl (rd_lenSlice Tryz.underlying29 rfl) <| gl_yes rfl rfl <| op_rd rfl (rd_move rfl) <| gl_yes rfl rfl (op_rd rfl (rd_neq rfl rfl) (gk_dec (fun h163 => ?_) (fun h163 => ?_)))
          · have hnot : ∀ v : Pl × List Nat, tabR tbA (d5, k6) = some v → v.2.length ≠ lv := fun v hv => by
              have := tabR_there (hprC.keep _ _ hv)
              rw [hent] at this
              rw [← this.2]; omega
            refine gl_op <| op_rd rfl (rd_pick_f rfl rfl) <| gl_nil <| gx_then <| gc_cond_t rfl <| gc_exit <| gx_then_exit <| gx_block_exit <| gx_then <| gc_region <| gl_op <| op_rd rfl (rd_move rfl) <| gl_op (op_rd rfl (by exact rd_addN (b := 1) rfl rfl (by omega)) ?_)
            refine gl_op <| op_rd rfl (rd_assign rfl) <| gl_nil <| gx_then ?_
            exact gx_cut ((k6 + 1, moreC, tbC, TCC)) ⟨⟨by simp only; omega, htbC, hcesC, hprC.weak (fun p a v0 p2 hdn hp0 hp1 hp2 hp3 hp4 => by
              simp only at hdn
              by_cases hpe : p = (d5, k6)
              · exact absurd hp1 (hnot v0 (hpe ▸ hp0))
              · show p.1 < d5 ∨ (p.1 = d5 ∧ p.2 < k6)
                have : ¬ (p.1 = d5 ∧ p.2 = k6) := fun ⟨a, b⟩ => hpe (Prod.ext a b)
                omega), fun hf p v hp hq => by
              simp only at hp
              by_cases hpe : p = (d5, k6)
              · exact hnot v (hpe ▸ hq)
              · refine hmfC hf p v ?_ hq
                have : ¬ (p.1 = d5 ∧ p.2 = k6) := fun ⟨a, b⟩ => hpe (Prod.ext a b)
                omega, hmtC⟩, by simp only; omega⟩ ⟨rfl, rfl, rfl, rfl, rfl, rfl, rfl, trivial⟩ (sub_tail (A := [_, _, _]) (B := [_, _, _, _]) (T := (TR gs tbC ++ TCC)) [1, 2, 3] 4 (by decide) (by decide) rfl rfl)
          have hTC := tabR_some (tb := tbC) (q := (d5, k6)) (by rw [hent]; exact h156)
          rw [hent] at hTC
          have hT0e := hprC.old hTC (show en.ch.length = lv by omega)
          have hlt768 := (hokA hmore).short hA hT0e
          rw [show ((en.src, en.pl), en.ch).2.length = lv from (show en.ch.length = lv by omega)] at hlt768
          have hcen := hcesC (d5, k6) (by rw [hent]; exact h156)
          rw [hent] at hcen
          refine gl_op <| op_rd rfl (rd_pick_f rfl rfl) <| gl_nil <| gx_then <| gc_cond_f rfl <| gc_skip <| gx_then <| gc_seq <| gc_region <| gl_op <| op_rd rfl (rd_assign rfl) <| gl_nil <| gx_then <| gc_seq <| gc_region <| gl_op <| op_rd rfl (rd_assign rfl) <| gl_nil <| gx_then <| gc_block <| gc_loopF (ι := Nat × List (List CE) × List HL) [(2, _), (3, _), (5, _), (12, _), (13, _), (14, _), (15, _), (16, _)] [_, _, _] (fun q => q.1 ≤ h.cs.length ∧ TbLen s.ds.length q.2.1 ∧ CEs q.2.1 q.2.2 ∧ CEIn q.2.2 en ∧ Proc (cxN s h) lv (tabR tbA) (tabR q.2.1) (fun p a => (p.1 < d5 ∨ (p.1 = d5 ∧ p.2 < k6)) ∨ (p = (d5, k6) ∧ a ∈ h.cs.take q.1))) (fun q Fr0 => ((17, natV q.1) :: Fr0)) (fun q Fr0 => (.row 115 1 (some b22) s.ds.length s.ds.length (gsC gs) :: (Fr0 ++ (TR gs q.2.1 ++ q.2.2)))) (fun q => h.cs.length - q.1) (0, tbC, TCC) (⟨Nat.zero_le _, htbC, hcesC, hcen.1, hprC.weak (fun _ _ _ _ hd _ _ _ _ _ => by simpa using hd)⟩) ⟨rfl, rfl, rfl, rfl, rfl, rfl, rfl, rfl, rfl, trivial⟩ (sub_tail (A := [_, _, _, _]) (B := [_, _, _, _]) (T := (TR gs tbC ++ TCC)) [1, 0, 2, 3] 4 (by decide) (by decide) rfl rfl) ?_
          rintro ⟨j7, tb7, TC7⟩ ⟨hj7, htb7, hces7, hcin7, hpr7⟩
          simp only at hj7 htb7 hces7 hcin7 hpr7 ⊢
          refine gc_seq <| gc_seq <| gc_region <| gl_op <| op_rd rfl (rd_move rfl) <| gl_op <| op_rd rfl (rd_fieldAddr rfl (fa_31_2 _)) <| gl_op (op_rd rfl (rd_load Tryz.underlying29 rfl rfl (by exact ld_blk 2 rfl rfl)) ?_)
          refine gl_op <| op_rd rfl (rd_lenSlice Tryz.underlying29 rfl) <| gl_op (op_rd rfl (rd_lss rfl rfl) (gk_dec (fun h169 => ?_) (fun h169 => ?_)))
          · obtain ⟨i, hi⟩ := get_some (show j7 < h.cs.length by omega)
            have him : i ∈ (cxN s h).dr := List.mem_of_getElem? hi
            obtain ⟨cp, hcp⟩ := get_some (show i < s.cs.length from hA.drn i him)
            have hcpi : (cxN s h).cp i = cp := getD_some hcp
            have hil : i < s.cs.length := hA.drn i him
            obtain ⟨hs0, hs1⟩ := hA.src i hil
            obtain ⟨hd0, hd1⟩ := hA.dst i hil
            obtain ⟨hf0, hf1⟩ := hA.shf i hil
            rw [hcpi] at hs0 hs1 hd0 hd1 hf0 hf1
            change cp.src < s.ds.length at hs1
            change cp.dst < s.ds.length at hd1
            obtain ⟨d, hd⟩ := get_some (show cp.dst.toNat < s.ds.length by omega)
            have hdi : (cxN s h).dv cp.dst.toNat = d := getD_some hd
            have hrg := hA.rng cp.dst.toNat (show cp.dst.toNat < s.ds.length by omega)
            rw [hdi] at hrg
            have honly := (cpErr_ok ((checkP_facts hg.spec).2.2.2.2 i hil)).2.2.2.2
            rw [getD_some hcp] at honly
            refine gl_nil <| gx_then <| gc_cond_t rfl <| gc_skip <| gx_then <| gc_seq <| gc_block <| gc_seq <| gc_drawP [0, 1, 2, 3] false 10 rfl <| ga_first 0 (bm 11 1) rfl rfl rfl rfl (by kernel_rfl) (by kernel_rfl) ⟨[0, 1, 2, 3], by decide, rfl⟩ (qt_rd (rd_fieldAddr rfl (fa_27_3 _))) ?_
            refine ga_first 1 (bm 11 3) rfl rfl rfl rfl (by kernel_rfl) (by kernel_rfl) ⟨[0, 1, 2, 3], by decide, rfl⟩ (qt_rd (rd_load Tryz.underlying25 rfl rfl (by exact ld_blk 3 rfl rfl))) ?_
            refine ga_first 2 (bm 11 7) rfl rfl rfl rfl (by kernel_rfl) (by kernel_rfl) ⟨[0, 1, 2, 3], by decide, rfl⟩ (qt_rd (rd_fieldAddr rfl (fa_31_2 _))) ?_
            refine ga_first 3 (bm 11 15) rfl rfl rfl rfl (by kernel_rfl) (by kernel_rfl) ⟨[0, 1, 2, 3], by decide, rfl⟩ (qt_rd (rd_load Tryz.underlying29 rfl rfl (by exact ld_blk 2 rfl rfl))) ?_
            refine ga_first 4 (bm 11 31) rfl rfl rfl rfl (by kernel_rfl) (by kernel_rfl) ⟨[0, 1, 2, 3], by decide, rfl⟩ (qt_rd (rd_move rfl)) ?_
            refine ga_first 5 (bm 11 63) rfl rfl rfl rfl (by kernel_rfl) (by kernel_rfl) ⟨[0, 1, 2, 3], by decide, rfl⟩ (qt_rd (rd_indexOld1 hH.c Tryz.underlying29 ty_3 rfl rfl (by omega) (by omega))) ?_
            refine ga_first 6 (bm 11 127) rfl rfl rfl rfl (by kernel_rfl) (by kernel_rfl) ⟨[0, 1, 2, 3], by decide, rfl⟩ (qt_rd (rd_load Tryz.underlying3 rfl rfl (ld_slN hH.c (get_nz hi)))) ?_
            refine ga_first 7 (bm 11 255) rfl rfl rfl rfl (by kernel_rfl) (by kernel_rfl) ⟨[0, 1, 2, 3], by decide, rfl⟩ (qt_rd (rd_indexOld hS.c Tryz.underlying25 ty_58 rfl rfl (by omega) (by omega))) ?_
            refine ga_first 8 (bm 11 511) rfl rfl rfl rfl (by kernel_rfl) (by kernel_rfl) ⟨[0, 1, 2, 3], by decide, rfl⟩ (qt_rd (rd_loadAgg Tryz.underlying58 rfl ty_58 rfl (cs_slN hS.c (flat_drop_get Cp.cells 6 (fun _ => rfl) hcp)) rfl)) ?_
            refine ga_only 9 (bm 11 1023) rfl rfl (by kernel_rfl) (by kernel_rfl) (.inr ⟨[0, 1, 2, 3], by decide, rfl⟩) (op_alloc ty_58 rfl rfl (fun b18 => ?_))
            refine ga_only 10 (bm 11 2047) rfl rfl (by kernel_rfl) (by kernel_rfl) (.inr ⟨[1, 2, 3, 4], by decide, rfl⟩) (op_storeAgg 0 ty_58 rfl rfl rfl rfl rfl rfl (by rfl) ?_)
            refine ga_end (by kernel_rfl) (.inl (by kernel_rfl)) ?_
            refine gx_then <| gc_seq ?_
            simp only [Cp.cells]
            refine gc_region <| gl_op <| op_rd rfl (rd_fieldAddr rfl (fa_58_5 _)) <| gl_op (op_rd rfl (rd_load Tryz.underlying4 rfl rfl (by exact ld_blk 0 rfl rfl)) ?_)
            refine gk_bool (fun h182 => ?_) (fun h182 => ?_)
            · refine gl_op <| op_rd rfl (rd_move rfl) <| gl_yes rfl rfl <| op_rd rfl (rd_fieldAddr rfl (fa_58_1 _)) <| gl_yes rfl rfl (op_rd rfl (rd_load Tryz.underlying3 rfl rfl (by exact ld_blk 0 rfl rfl)) ?_)
              refine gl_yes rfl rfl <| op_rd rfl (rd_move rfl) <| gl_yes rfl rfl (op_rd rfl (rd_eql rfl rfl) (gk_dec (fun h187 => ?_) (fun h187 => ?_)))
              · have hgoes : (cxN s h).goes i (d5, k6) = true := by unfold Cx.goes; rw [hcpi]; rw [h182]; simp; omega
                refine gl_op <| op_rd rfl (rd_pick_t rfl rfl) <| gl_nil <| gx_then <| gc_cond_t rfl <| gc_drawP [0, 2, 3, 4] true 21 rfl <| ga_first 0 (bm 22 1) rfl rfl rfl rfl (by kernel_rfl) (by kernel_rfl) ⟨[0, 2, 3, 4], by decide, rfl⟩ (qt_rd (rd_loadAgg Tryz.underlying27 rfl ty_27 rfl (by exact cs_blk 3 (off := 0) (k := 4) rfl rfl) rfl)) ?_
                refine ga_first 1 (bm 22 3) rfl rfl rfl rfl (by kernel_rfl) (by kernel_rfl) ⟨[0, 2, 3, 4], by decide, rfl⟩ (qt_rd (rd_move rfl)) ?_
                refine ga_first 2 (bm 22 7) rfl rfl rfl rfl (by kernel_rfl) (by kernel_rfl) ⟨[0, 2, 3, 4], by decide, rfl⟩ (qt_rd (rd_fieldAddr rfl (fa_58_2 _))) ?_
                refine ga_first 3 (bm 22 15) rfl rfl rfl rfl (by kernel_rfl) (by kernel_rfl) ⟨[0, 2, 3, 4], by decide, rfl⟩ (qt_rd (rd_load Tryz.underlying3 rfl rfl (by exact ld_blk 0 rfl rfl))) ?_
                refine ga_first 4 (bm 22 31) rfl rfl rfl rfl (by kernel_rfl) (by kernel_rfl) ⟨[0, 2, 3, 4], by decide, rfl⟩ (qt_rd (rd_move rfl)) ?_
                refine ga_first 5 (bm 22 63) rfl rfl rfl rfl (by kernel_rfl) (by kernel_rfl) ⟨[0, 2, 3, 4], by decide, rfl⟩ (qt_rd (rd_fieldAddr rfl (fa_58_3 _))) ?_
                refine ga_first 6 (bm 22 127) rfl rfl rfl rfl (by kernel_rfl) (by kernel_rfl) ⟨[0, 2, 3, 4], by decide, rfl⟩ (qt_rd (rd_load Tryz.underlying3 rfl rfl (by exact ld_blk 0 rfl rfl))) ?_
                refine ga_first 7 (bm 22 255) rfl rfl rfl rfl (by kernel_rfl) (by kernel_rfl) ⟨[0, 2, 3, 4], by decide, rfl⟩ (qt_rd (rd_add rfl rfl (by omega) (by omega))) ?_
                refine ga_first 8 (bm 22 511) rfl rfl rfl rfl (by kernel_rfl) (by kernel_rfl) ⟨[0, 2, 3, 4], by decide, rfl⟩ (qt_rd (rd_fieldAddr rfl (fa_114_2 _))) ?_
                refine ga_first 9 (bm 22 1023) rfl rfl rfl rfl (by kernel_rfl) (by kernel_rfl) ⟨[0, 2, 3, 4], by decide, rfl⟩ (qt_rd (rd_load Tryz.underlying3 rfl rfl (by exact ld_blk 1 rfl rfl))) ?_
                refine ga_first 10 (bm 22 2047) rfl rfl rfl rfl (by kernel_rfl) (by kernel_rfl) ⟨[0, 2, 3, 4], by decide, rfl⟩ (qt_rd (rd_fieldAddr rfl (fa_114_1 _))) ?_
                refine ga_first 11 (bm 22 4095) rfl rfl rfl rfl (by kernel_rfl) (by kernel_rfl) ⟨[0, 2, 3, 4], by decide, rfl⟩ (qt_rd (rd_load Tryz.underlying3 rfl rfl (by exact ld_blk 1 rfl rfl))) ?_
                refine ga_first 12 (bm 22 8191) rfl rfl rfl rfl (by kernel_rfl) (by kernel_rfl) ⟨[0, 2, 3, 4], by decide, rfl⟩ (qt_rd (rd_fieldAddr rfl (fa_114_3 _))) ?_
                refine ga_first 13 (bm 22 16383) rfl rfl rfl rfl (by kernel_rfl) (by kernel_rfl) ⟨[0, 2, 3, 4], by decide, rfl⟩ (qt_rd (rd_load Tryz.underlying29 rfl rfl (by exact ld_blk 1 rfl rfl))) ?_
                refine ga_first 14 (bm 22 32767) rfl rfl rfl rfl (by kernel_rfl) (by kernel_rfl) ⟨[0, 2, 3, 4], by decide, rfl⟩ (qt_rd (rd_fieldAddr rfl (fa_31_2 _))) ?_
                refine ga_first 15 (bm 22 65535) rfl rfl rfl rfl (by kernel_rfl) (by kernel_rfl) ⟨[0, 2, 3, 4], by decide, rfl⟩ (qt_rd (rd_load Tryz.underlying29 rfl rfl (by exact ld_blk 2 rfl rfl))) ?_
                refine ga_first 16 (bm 22 131071) rfl rfl rfl rfl (by kernel_rfl) (by kernel_rfl) ⟨[0, 2, 3, 4], by decide, rfl⟩ (qt_rd (rd_move rfl)) ?_
                refine ga_first 17 (bm 22 262143) rfl rfl rfl rfl (by kernel_rfl) (by kernel_rfl) ⟨[0, 2, 3, 4], by decide, rfl⟩ (qt_rd (rd_indexOld1 hH.c Tryz.underlying29 ty_3 rfl rfl (by omega) (by omega))) ?_
                refine ga_first 18 (bm 22 524287) rfl rfl rfl rfl (by kernel_rfl) (by kernel_rfl) ⟨[0, 2, 3, 4], by decide, rfl⟩ (qt_rd (rd_load Tryz.underlying3 rfl rfl (ld_slN hH.c (get_nz hi)))) ?_
                refine ga_only 19 (bm 22 1048575) rfl rfl (by kernel_rfl) (by kernel_rfl) (.inr ⟨[0, 2, 3, 4], by decide, rfl⟩) (op_call rfl (vf := []) (vc := []) rfl rfl Tryz.call48 (fun w1 ho => with_ok en.ch i _ _ (by omega) w1 (hcin7.sl ho (fun y hy => List.mem_append_right [_, _, _, _, _] (List.mem_append_right _ hy)))) ?_)
                rintro _ _ ⟨r208, c208, rfl, rfl⟩
                refine gk_mid2 [] [HL.row 3 1 r208 (en.ch.length + 1) c208 ((en.ch ++ [i]).map natV)] [_, _, _, _, _] (TR gs tb7 ++ TC7) ?_
                rw [List.append_assoc (TR gs tb7) TC7]
                refine ga_first 20 (bm 22 2097151) rfl rfl rfl rfl (by kernel_rfl) (by kernel_rfl) ⟨[0, 2, 3, 4], by decide, rfl⟩ (qt_rd (rd_build rfl (fun _ => bd_114_0_2_1_3 _ _ _ _ _ _))) ?_
                have hxin : CEIn (TC7 ++ [HL.row 3 1 r208 (en.ch ++ [i]).length c208 ((en.ch ++ [i]).map natV)]) ⟨true, en.pl, en.src, r208, c208, en.ch ++ [i]⟩ := .inr (List.mem_append_right _ (List.mem_singleton.2 rfl))
                have hxln : (⟨true, en.pl, en.src, r208, c208, en.ch ++ [i]⟩ : CE).ch.length ≤ 100000 := by rw [List.length_append, List.length_cons, List.length_nil]; omega
                have hces5 : CEs tb7 (TC7 ++ [HL.row 3 1 r208 (en.ch ++ [i]).length c208 ((en.ch ++ [i]).map natV)]) := fun q hq => ⟨(hces7 q hq).1.mono fun y hy => List.mem_append_left _ hy, (hces7 q hq).2⟩
                have hnx : (cxN s h).nx en.ch (d5, k6) i = true := by
                  unfold Cx.nx
                  rw [if_neg (fun e => by have : en.ch.length = 0 := by rw [e]; rfl
                                          omega)]
                  exact hgoes
                rw [show en.ch.length + 1 = (en.ch ++ [i]).length by simp]
                refine ga_only 21 (bm 22 4194303) rfl rfl (by kernel_rfl) (by kernel_rfl) (.inr ⟨[0, 2, 3, 4], by decide, rfl⟩) (op_callMW [_, _, _, _, _] (TR gs tb7 ++ (TC7 ++ [HL.row 3 1 r208 (en.ch ++ [i]).length c208 ((en.ch ++ [i]).map natV)])) [1] [0, 2, 3, 4] 5 rfl rfl rfl (vf := []) (vc := []) rfl rfl Tryz.call47 (by decide) (by decide) rfl (fun w how hc => addR_ok s d cp.dst _ cp.dst.toNat ⟨true, en.pl, en.src, r208, c208, en.ch ++ [i]⟩ b22 s.ds.length s.ds.length gs tb7 (TC7 ++ [HL.row 3 1 r208 (en.ch ++ [i]).length c208 ((en.ch ++ [i]).map natV)]) (by omega) hd hrg.1 hrg.2.2 (by omega) (by omega) (by omega) hgl9 htb7 hxin hxln hces5 _ w (slOutW (B := [_, _, _, _, _]) (T := (TR gs tb7 ++ (TC7 ++ [HL.row 3 1 r208 (en.ch ++ [i]).length c208 ((en.ch ++ [i]).map natV)]))) how hS.d (by decide) [1]) hc) ?_)
                rintro _ _ ⟨rfl, rfl⟩
                refine gk_mid [_] (TR gs (addR d.lo d.hi tb7 cp.dst.toNat ((k6 : Int) + cp.shift) ⟨true, en.pl, en.src, r208, c208, en.ch ++ [i]⟩) ++ (TC7 ++ [HL.row 3 1 r208 (en.ch ++ [i]).length c208 ((en.ch ++ [i]).map natV)])) [_, _, _, _] ?_
                have hpr4 := hpr7.addR hA (hokA hmore) htb7 (key := ((k6 : Int) + cp.shift)) hT0e (show en.ch.length = lv by omega) him hnx hcpi hdi rfl r208 c208
                have htb4 : TbLen s.ds.length (addR d.lo d.hi tb7 cp.dst.toNat ((k6 : Int) + cp.shift) ⟨true, en.pl, en.src, r208, c208, en.ch ++ [i]⟩) := addR_len htb7 (by omega)
                have hces4 : CEs (addR d.lo d.hi tb7 cp.dst.toNat ((k6 : Int) + cp.shift) ⟨true, en.pl, en.src, r208, c208, en.ch ++ [i]⟩) (TC7 ++ [HL.row 3 1 r208 (en.ch ++ [i]).length c208 ((en.ch ++ [i]).map natV)]) := hces7.put htb7 (by omega) hrg.1 hrg.2.2 hxin hxln
                obtain ⟨tb4, htb49⟩ : ∃ tb4, addR d.lo d.hi tb7 cp.dst.toNat ((k6 : Int) + cp.shift) ⟨true, en.pl, en.src, r208, c208, en.ch ++ [i]⟩ = tb4 := ⟨_, rfl⟩
                change Proc _ _ _ (tabR (addR d.lo d.hi tb7 cp.dst.toNat ((k6 : Int) + cp.shift) ⟨true, en.pl, en.src, r208, c208, en.ch ++ [i]⟩)) _ at hpr4
                rw [htb49] at hpr4 htb4 hces4 ⊢
                refine ga_end (by kernel_rfl) (.inr ⟨[1, 2, 3, 4], by decide, rfl⟩) ?_
                refine gx_block <| gx_then <| gc_region <| gl_op <| op_rd rfl (rd_move rfl) <| gl_op (op_rd rfl (by exact rd_addN (b := 1) rfl rfl (by omega)) ?_)
                refine gl_op <| op_rd rfl (rd_assign rfl) <| gl_nil <| gx_then ?_
                exact gx_cut ((j7 + 1, tb4, TC7 ++ [HL.row 3 1 r208 (en.ch ++ [i]).length c208 ((en.ch ++ [i]).map natV)])) ⟨⟨by simp only; omega, htb4, hces4, hcin7.mono (fun y hy => List.mem_append_left _ hy), hpr4.weak (fun p a v0 p2 hdn _ _ _ _ _ => by
                  simp only [take_at hi, List.mem_append, List.mem_singleton] at hdn
                  rcases hdn with hdn | ⟨hp, hdn | hdn⟩
                  · exact .inl (.inl hdn)
                  · exact .inl (.inr ⟨hp, hdn⟩)
                  · exact .inr ⟨hp, hdn⟩)⟩, by simp only; omega⟩ ⟨rfl, rfl, rfl, rfl, rfl, rfl, rfl, rfl, rfl, trivial⟩ (sub_tail (A := [_, _, _, _]) (B := [_, _, _, _, _]) (T := (TR gs tb4 ++ (TC7 ++ [HL.row 3 1 r208 (en.ch ++ [i]).length c208 ((en.ch ++ [i]).map natV)]))) [0, 2, 3, 4] 5 (by decide) (by decide) rfl rfl)
              have hgoes : (cxN s h).goes i (d5, k6) = false := by unfold Cx.goes; rw [hcpi]; rw [h182]; simp; omega
              refine gl_op <| op_rd rfl (rd_pick_t rfl rfl) <| gl_nil <| gx_then <| gc_cond_f rfl <| gc_skip <| gx_block <| gx_then <| gc_region <| gl_op <| op_rd rfl (rd_move rfl) <| gl_op (op_rd rfl (by exact rd_addN (b := 1) rfl rfl (by omega)) ?_)
              refine gl_op <| op_rd rfl (rd_assign rfl) <| gl_nil <| gx_then ?_
              exact gx_cut ((j7 + 1, tb7, TC7)) ⟨⟨by simp only; omega, htb7, hces7, hcin7, hpr7.weak (fun p a v0 p2 hdn hp0 hp1 hp2 hp3 hp4 => by
                simp only [take_at hi, List.mem_append, List.mem_singleton] at hdn
                rcases hdn with hdn | ⟨hp, hdn | hdn⟩
                · exact .inl hdn
                · exact .inr ⟨hp, hdn⟩
                · exfalso
                  subst hp; subst hdn
                  unfold Cx.nx at hp3
                  rw [if_neg (fun e => by rw [e] at hp1; simp at hp1; omega)] at hp3
                  rw [hgoes] at hp3; cases hp3)⟩, by simp only; omega⟩ ⟨rfl, rfl, rfl, rfl, rfl, rfl, rfl, rfl, rfl, trivial⟩ (sub_tail (A := [_, _, _, _]) (B := [_, _, _, _, _]) (T := (TR gs tb7 ++ TC7)) [1, 2, 3, 4] 5 (by decide) (by decide) rfl rfl)
            have hgoes : (cxN s h).goes i (d5, k6) = false := by unfold Cx.goes; rw [hcpi]; rw [h182]; rfl
            refine gl_op <| op_rd rfl (rd_move rfl) <| gl_no rfl rfl rfl <| gl_no rfl rfl rfl <| gl_no rfl rfl rfl <| gl_no rfl rfl rfl <| gl_op <| op_rd rfl (rd_pick_f rfl rfl) <| gl_nil <| gx_then <| gc_cond_f rfl <| gc_skip <| gx_block <| gx_then <| gc_region <| gl_op <| op_rd rfl (rd_move rfl) <| gl_op (op_rd rfl (by exact rd_addN (b := 1) rfl rfl (by omega)) ?_)
            refine gl_op <| op_rd rfl (rd_assign rfl) <| gl_nil <| gx_then ?_
            exact gx_cut ((j7 + 1, tb7, TC7)) ⟨⟨by simp only; omega, htb7, hces7, hcin7, hpr7.weak (fun p a v0 p2 hdn hp0 hp1 hp2 hp3 hp4 => by
              simp only [take_at hi, List.mem_append, List.mem_singleton] at hdn
              rcases hdn with hdn | ⟨hp, hdn | hdn⟩
              · exact .inl hdn
              · exact .inr ⟨hp, hdn⟩
              · exfalso
                subst hp; subst hdn
                unfold Cx.nx at hp3
                rw [if_neg (fun e => by rw [e] at hp1; simp at hp1; omega)] at hp3
                rw [hgoes] at hp3; cases hp3)⟩, by simp only; omega⟩ ⟨rfl, rfl, rfl, rfl, rfl, rfl, rfl, rfl, rfl, trivial⟩ (sub_tail (A := [_, _, _, _]) (B := [_, _, _, _, _]) (T := (TR gs tb7 ++ TC7)) [1, 2, 3, 4] 5 (by decide) (by decide) rfl rfl)
          refine gl_nil <| gx_then <| gc_cond_f rfl <| gc_exit <| gx_then_exit <| gx_then_exit <| gx_block_exit <| gx_block <| gx_then <| gc_region <| gl_op <| op_rd rfl (rd_move rfl) <| gl_op (op_rd rfl (by exact rd_addN (b := 1) rfl rfl (by omega)) ?_)
          refine gl_op <| op_rd rfl (rd_assign rfl) <| gl_nil <| gx_then ?_
          exact gx_cut ((k6 + 1, true, tb7, TC7)) ⟨⟨by simp only; omega, htb7, hces7, hpr7.weak (fun p a v0 p2 hdn hp0 hp1 hp2 hp3 hp4 => by
            simp only at hdn
            by_cases hpe : p = (d5, k6)
            · refine .inr ⟨hpe, ?_⟩
              rw [List.take_of_length_le (by omega)]; exact hp2
            · refine .inl ?_
              show p.1 < d5 ∨ (p.1 = d5 ∧ p.2 < k6)
              have : ¬ (p.1 = d5 ∧ p.2 = k6) := fun ⟨a, b⟩ => hpe (Prod.ext a b)
              omega), (fun h => by cases h), fun _ => hlt768⟩, by simp only; omega⟩ ⟨rfl, rfl, rfl, rfl, rfl, rfl, rfl, trivial⟩ (sub_tail (A := [_, _, _]) (B := [_, _, _, _]) (T := (TR gs tb7 ++ TC7)) [0, 2, 3] 4 (by decide) (by decide) rfl rfl)
        have hnot : ∀ v : Pl × List Nat, tabR tbA (d5, k6) = some v → v.2.length ≠ lv := fun v hv => by
          have := tabR_there (hprC.keep _ _ hv)
          rw [hent, h156] at this; cases this.1
        refine gl_op <| op_rd rfl (rd_not rfl) <| gl_op <| op_rd rfl (rd_move rfl) <| gl_no rfl rfl rfl <| gl_no rfl rfl rfl <| gl_no rfl rfl rfl <| gl_no rfl rfl rfl <| gl_no rfl rfl rfl <| gl_op <| op_rd rfl (rd_pick_t rfl rfl) <| gl_nil <| gx_then <| gc_cond_t rfl <| gc_exit <| gx_then_exit <| gx_block_exit <| gx_then <| gc_region <| gl_op <| op_rd rfl (rd_move rfl) <| gl_op (op_rd rfl (by exact rd_addN (b := 1) rfl rfl (by omega)) ?_)
        refine gl_op <| op_rd rfl (rd_assign rfl) <| gl_nil <| gx_then ?_
        exact gx_cut ((k6 + 1, moreC, tbC, TCC)) ⟨⟨by simp only; omega, htbC, hcesC, hprC.weak (fun p a v0 p2 hdn hp0 hp1 hp2 hp3 hp4 => by
          simp only at hdn
          by_cases hpe : p = (d5, k6)
          · exact absurd hp1 (hnot v0 (hpe ▸ hp0))
          · show p.1 < d5 ∨ (p.1 = d5 ∧ p.2 < k6)
            have : ¬ (p.1 = d5 ∧ p.2 = k6) := fun ⟨a, b⟩ => hpe (Prod.ext a b)
            omega), fun hf p v hp hq => by
          simp only at hp
          by_cases hpe : p = (d5, k6)
          · exact hnot v (hpe ▸ hq)
          · refine hmfC hf p v ?_ hq
            have : ¬ (p.1 = d5 ∧ p.2 = k6) := fun ⟨a, b⟩ => hpe (Prod.ext a b)
            omega, hmtC⟩, by simp only; omega⟩ ⟨rfl, rfl, rfl, rfl, rfl, rfl, rfl, trivial⟩ (sub_tail (A := [_, _, _]) (B := [_, _, _, _]) (T := (TR gs tbC ++ TCC)) [1, 2, 3] 4 (by decide) (by decide) rfl rfl)
      refine gl_nil <| gx_then <| gc_cond_f rfl <| gc_exit <| gx_then_exit <| gx_then_exit <| gx_block_exit <| gx_block <| gx_then <| gc_region <| gl_op <| op_rd rfl (rd_move rfl) <| gl_op (op_rd rfl (by exact rd_addN (b := 1) rfl rfl (by omega)) ?_)
      refine gl_op <| op_rd rfl (rd_assign rfl) <| gl_nil <| gx_then ?_
      exact gx_cut ((d5 + 1, moreC, tbC, TCC)) ⟨⟨by simp only; omega, htbC, hcesC, hprC.weak (fun p a v0 p2 hdn hp0 _ _ _ _ => by have := (tab_rng hA (hokA hmore) hp0).2; show p.1 < d5 ∨ (p.1 = d5 ∧ p.2 < k6); simp only at hdn; omega), fun hf p v hp hq => hmfC hf p v (by have := (tab_rng hA (hokA hmore) hq).2; simp only at hp; omega) hq, hmtC⟩, by simp only; omega⟩ ⟨rfl, rfl, rfl, rfl, rfl, rfl, trivial⟩ (sub_tail (A := [_, _, _]) (B := [_, _, _]) (T := (TR gs tbC ++ TCC)) [0, 1, 2] 3 (by decide) (by decide) rfl rfl)
    refine gl_nil <| gx_then <| gc_cond_f rfl <| gc_exit <| gx_then_exit <| gx_then_exit <| gx_block_exit <| gx_block <| gx_then <| gc_region <| gl_op <| op_rd rfl (rd_move rfl) <| gl_op (op_rd rfl (by exact rd_addN (b := 1) rfl rfl (by omega)) ?_)
    refine gl_op <| op_rd rfl (rd_assign rfl) <| gl_nil <| gx_then ?_
    exact gx_cut ((lv + 1, moreB, tbB, TCB)) ⟨⟨⟨by simp only; have := hlv8 hmore; omega, fun h => by simp only at h ⊢; have := hmt h; omega⟩, by simp only; omega, htbB, hcesB, (hprB.round hA (hokA hmore) (fun q v0 hq i => by have := (tab_rng hA (hokA hmore) hq).1; change q.1 < s.ds.length at this; show q.1 < d5; omega) moreB (fun hf q v hq => hmf hf q v (by have := (tab_rng hA (hokA hmore) hq).1; change q.1 < s.ds.length at this; omega) hq)).1, (hprB.round hA (hokA hmore) (fun q v0 hq i => by have := (tab_rng hA (hokA hmore) hq).1; change q.1 < s.ds.length at this; show q.1 < d5; omega) moreB (fun hf q v hq => hmf hf q v (by have := (tab_rng hA (hokA hmore) hq).1; change q.1 < s.ds.length at this; omega) hq)).2⟩, by simp only; omega⟩ ⟨rfl, rfl, rfl, rfl, rfl, trivial⟩ (sub_tail (A := [_, _, _]) (B := [_, _, _]) (T := (TR gs tbB ++ TCB)) [0, 1, 2] 3 (by decide) (by decide) rfl rfl)
  refine gc_exit <| gx_then_exit <| gx_then_exit <| gx_block_exit <| gx_then <| gc_seq <| gc_region <| gl_op <| op_rd rfl (rd_move rfl) <| gl_op <| op_rd rfl (rd_assign rfl) <| gl_nil <| gx_then <| gc_ret <| gx_ret1S (.inl rfl) Tryz.results29 rfl (sub_tail (A := [_]) (B := [_, _, _]) (T := (TR gs tbA ++ TCA)) [0] 3 (by decide) (by decide) rfl rfl) ?_
  exact ⟨b22, gs, tbA, TCA, rfl, rfl, hgl9, htbA, hcesA, hchA hmore⟩
end Go.Proofs.YtbjijbbkfgcleaaGreatDoor
namespace Go.Proofs.YtbjijbbkfgcleaaGreatDoor
open Go.Gv
open Go.RowKit
open Go.Sn
open Sx
set_option maxRecDepth 100000 in
set_option maxHeartbeats 1000000 in
theorem Keys_ok (s : Org) (h : Hd) (hle : OrgLe s) (hhe : HdLe h) (w0 : World) (hS : OrgIn s w0 []) (hH : HdIn h w0 []) (hT : TabIn w0) : Sp Tryz.prog 18 [s.val, h.val] w0 [] (KeysR 3 29 s h) := by
  refine spec_enter Tryz.func18 rfl Tryz.ntmps18 rfl (Own.refl _) ?_
  simp only [argEnv]
  refine gc_seq <| gc_region <| gl_op (op_box rfl rfl rfl (fun b2 => ?_))
  refine gl_op (op_box rfl rfl rfl (fun b3 => ?_))
  refine gl_op <| op_rd rfl (rd_assign rfl) <| gl_op <| op_rd rfl (rd_assign rfl) <| gl_nil <| gx_then <| gc_seq <| gc_seq <| gc_region <| gl_op (op_rd rfl (rd_loadAgg Tryz.underlying27 rfl ty_27 rfl (by exact cs_blk 1 (off := 0) (k := 4) rfl rfl) rfl) ?_)
  refine gl_op (op_rd rfl (rd_loadAgg Tryz.underlying31 rfl ty_31 rfl (by exact cs_blk 0 (off := 0) (k := 3) rfl rfl) rfl) ?_)
  refine gl_op (op_call rfl (vf := []) (vc := []) rfl rfl Tryz.call24 (fun w1 ho => Check_ok s h hle hhe w1 (hS.at ho) (hH.at ho)) ?_)
  rintro _ _ ⟨rfl, rfl⟩
  refine gl_op <| op_rd rfl (rd_assign rfl) <| gl_nil <| gx_then <| gc_seq <| gc_region <| gl_op <| op_rd rfl (rd_move rfl) <| gl_op (op_rd rfl (rd_neq rfl rfl) (gk_dec (fun h15 => ?_) (fun h15 => ?_)))
  · refine gl_nil <| gx_then <| gc_cond_t rfl <| gc_seq <| gc_region <| gl_op <| op_rd rfl (rd_move rfl) <| gl_op <| op_rd rfl (rd_assign rfl) <| gl_op <| op_rd rfl (rd_assign rfl) <| gl_nil <| gx_then <| gc_ret <| gx_then_ret <| gx_ret2 (.inl rfl) Tryz.results18 rfl rfl [] (by decide) ?_
    exact .inl ⟨h15, rfl, rfl⟩
  obtain ⟨n, rfl, hg⟩ := good_of (s := s) hhe (by omega)
  have hH := HNIn.of hH
  simp only [HN.hd_val]
  have hA := hg.cx
  have hnd : s.ds.length ≤ 6 := hA.nd
  obtain ⟨e0, he0⟩ : ∃ e0, handErr s n.hd = e0 := ⟨_, rfl⟩
  refine gl_nil <| gx_then <| gc_cond_f rfl <| gc_skip <| gx_then <| gc_seq <| gc_region <| gl_op (op_rd rfl (rd_loadAgg Tryz.underlying27 rfl ty_27 rfl (by exact cs_blk 1 (off := 0) (k := 4) rfl rfl) rfl) ?_)
  refine gl_op (op_rd rfl (rd_loadAgg Tryz.underlying31 rfl ty_31 rfl (by exact cs_blk 0 (off := 0) (k := 3) rfl rfl) rfl) ?_)
  refine gl_op (op_call rfl (vf := []) (vc := []) rfl rfl Tryz.call33 (fun w1 ho => acting_ok s n hle hg w1 (hS.at ho) (hH.at ho)) ?_)
  rintro _ _ ⟨b30, k27, c27, m28, rfl, rfl⟩
  unfold BK RS OM
  have hset := act_set hA
  have hsl0 : (actP (cxN s n)).sets.length = s.ds.length := hset.len
  refine gl_op <| op_rd rfl (rd_assign rfl) <| gl_nil <| gx_then <| gc_seq <| gc_region <| gl_op <| op_rd rfl (rd_move rfl) <| gl_op <| op_rd rfl (rd_nilCheck rfl) <| gl_op <| op_rd rfl (rd_fieldAddr rfl (fa_97_0 _)) <| gl_op (op_rd rfl (rd_load Tryz.underlying75 rfl rfl (by exact ld_blk 0 rfl rfl)) ?_)
  refine gl_op <| op_rd rfl (rd_lenSlice Tryz.underlying75 rfl) <| gl_op (op_makeSlice (s.ds.length) Tryz.underlying28 ty_29 rfl rfl rfl (by omega) (by omega) (by omega) (by omega) (fun b25 => ?_))
  refine gl_op <| op_rd rfl (rd_assign rfl) <| gl_nil <| gx_then <| gc_seq <| gc_seq ?_
  rw [made_one _ rfl]
  refine gc_region <| gl_op <| op_rd rfl (rd_move rfl) <| gl_op <| op_rd rfl (rd_nilCheck rfl) <| gl_op <| op_rd rfl (rd_fieldAddr rfl (fa_97_0 _)) <| gl_op (op_rd rfl (rd_load Tryz.underlying75 rfl rfl (by exact ld_blk 1 rfl rfl)) ?_)
  refine gl_op <| op_rd rfl (rd_lenSlice Tryz.underlying75 rfl) <| gl_op <| op_rd rfl (rd_move rfl) <| gl_nil <| gx_then <| gc_block <| gc_loopF (ι := List KG) [(8, _), (29, _), (30, _)] [_, _, _, _, _] (fun G => G.length ≤ s.ds.length ∧ G.map KG.ks = keysT (tabOf (actP (cxN s n)).tb) G.length) (fun G Fr0 => ((31, natV G.length) :: Fr0)) (fun G Fr0 => (.row 29 1 (some b25) s.ds.length s.ds.length (G.map KG.cell ++ List.replicate (s.ds.length - G.length) nilV) :: (Fr0 ++ (G.map (KG.hl 3))))) (fun G => s.ds.length - G.length) [] (⟨Nat.zero_le _, rfl⟩) ⟨rfl, rfl, rfl, rfl, trivial⟩ ⟨[0, 1, 2, 3, 4, 5], by decide, rfl⟩ ?_
  rintro G ⟨hgl, hgk⟩
  refine gc_seq <| gc_region <| gl_op (op_rd rfl (rd_lss rfl rfl) (gk_dec (fun h32 => ?_) (fun h32 => ?_)))
  · obtain ⟨X, hX⟩ := get_some (show G.length < (actP (cxN s n)).sets.length by omega)
    have hXl := hset.lt X (List.mem_of_getElem? hX)
    have hXb : bitsOf X = rowK (tabOf (actP (cxN s n)).tb) G.length 128 := by rw [← bits_act hA (show G.length < s.ds.length by omega), getD_some hX]
    refine gl_nil <| gx_then <| gc_seq <| gc_cond_t rfl <| gc_skip <| gx_then <| gc_seq <| gc_block <| gc_seq <| gc_region <| gl_op <| op_rd rfl (rd_move rfl) <| gl_op (op_rd rfl (by exact rd_indexRow 2 rfl Tryz.underlying75 ty_87 rfl rfl (by omega) (by omega)) ?_)
    refine gl_op (op_rd rfl (rd_loadAgg Tryz.underlying87 rfl ty_87 rfl (cs_row 2 (a := some k27) rfl (flat_drop_get setC 2 (fun _ => rfl) hX)) rfl) ?_)
    refine gl_op (op_alloc ty_87 rfl rfl (fun b10 => ?_))
    refine gl_op <| op_rd rfl (rd_assign rfl) <| gl_op (op_storeAgg 0 ty_87 rfl rfl rfl rfl rfl rfl (by rfl) ?_)
    refine gl_nil <| gx_then <| gc_region <| gl_op <| op_rd rfl (rd_move rfl) <| gl_op <| op_rd rfl (rd_move rfl) <| gl_op (op_rd rfl (rd_loadAgg Tryz.underlying87 rfl ty_87 rfl (by exact cs_blk 0 (off := 0) (k := 2) rfl rfl) rfl) ?_)
    simp only [setC]
    refine gl_op (op_call rfl (vf := []) (vc := []) rfl rfl Tryz.call34 (fun w1 ho => listed_ok X hXl w1 (hT.at ho (by decide))) ?_)
    rintro _ _ ⟨r39, c39, rfl, rfl⟩
    refine gk_mid2 [] [HL.row 3 1 r39 (bitsOf X).length c39 ((bitsOf X).map natV)] [_, _, _, _, _, _, _] (G.map (KG.hl 3)) ?_
    rw [show [HL.row 3 1 r39 (bitsOf X).length c39 ((bitsOf X).map natV)] = [(⟨r39, c39, bitsOf X⟩ : KG).hl 3] from rfl, kg_tail, List.nil_append]
    refine gl_op (op_rd rfl (by exact rd_indexRow1 1 rfl Tryz.underlying28 ty_29 rfl rfl (by omega) (by omega)) ?_)
    refine gl_op (op_storeRowE 1 ty_29 rfl rfl rfl rfl (by rw [kg_len G _ (by omega)]; omega) (kg_put G ⟨r39, c39, bitsOf X⟩ s.ds.length (by omega)) (by rfl) ?_)
    refine gl_nil <| gx_block <| gx_then ?_
    rw [show G.length + 1 = (G ++ [(⟨r39, c39, bitsOf X⟩ : KG)]).length by simp]
    refine gc_region <| gl_op (op_rd rfl (by exact rd_addN (b := 1) rfl rfl (by omega)) ?_)
    refine gl_op <| op_rd rfl (rd_move rfl) <| gl_nil <| gx_then ?_
    exact gx_cut (G ++ [(⟨r39, c39, bitsOf X⟩ : KG)]) ⟨⟨by rw [List.length_append, List.length_cons, List.length_nil]; omega, by rw [List.length_append, List.map_append, hgk]; show _ = keysT _ (G.length + 1); rw [keysT_take]; exact congrArg (fun z => _ ++ [z]) hXb⟩, by rw [List.length_append, List.length_cons, List.length_nil]; omega⟩ ⟨(by rw [List.length_append]; rfl), rfl, rfl, rfl, trivial⟩ (sub_tail (A := [_, _, _, _, _, _]) (B := [_, _, _, _, _, _, _]) (T := ((G ++ [(⟨r39, c39, bitsOf X⟩ : KG)]).map (KG.hl 3))) [1, 2, 3, 4, 5, 6] 7 (by decide) (by decide) rfl rfl)
  refine gl_nil <| gx_then <| gc_seq <| gc_cond_f rfl <| gc_exit <| gx_then_exit <| gx_then_exit <| gx_block_exit <| gx_then <| gc_seq ?_
  have hgl9 : G.length = s.ds.length := by omega
  rw [hgl9, Nat.sub_self, List.replicate_zero, List.append_nil]
  refine gc_region <| gl_op <| op_rd rfl (rd_move rfl) <| gl_op <| op_rd rfl (rd_assign rfl) <| gl_op <| op_rd rfl (rd_assign rfl) <| gl_nil <| gx_then <| gc_ret <| gx_ret2S (.inl rfl) Tryz.results18 rfl rfl (sub_tail (A := [_]) (B := [_, _, _, _, _, _]) (T := (G.map (KG.hl 3))) [0] 6 (by decide) (by decide) rfl rfl) ?_
  exact .inr ⟨by omega, n, b25, G, rfl, hg, by rw [hgk, hgl9]; rfl, rfl, rfl⟩
end Go.Proofs.YtbjijbbkfgcleaaGreatDoor
namespace Go.Proofs.YtbjijbbkfgcleaaGreatDoor
open Go.Gv
open Go.RowKit
open Go.Sn
open Sx
namespace Sx
end Sx
open Sx
end Go.Proofs.YtbjijbbkfgcleaaGreatDoor
namespace Go.Proofs.YtbjijbbkfgcleaaGreatDoor
open Go.Gv
open Go.RowKit
open Go.Sn
open Sx
set_option maxRecDepth 100000 in
set_option maxHeartbeats 1000000 in
theorem piped_ok (sets : List Nat) (a : Option Addr) (ca : Nat) (hsn : sets.length ≤ 1000) (hlt : ∀ x ∈ sets, x < 2 ^ 128) (w0 : World) (hT : TabIn w0) (hsl : OldSl w0 [] a sets.length 2 (sets.flatMap setC)) : Sp Tryz.prog 25 [.slice a sets.length ca] w0 [] (fun v L => ∃ r c, v = .slice (rowA r) (pipesU sets sets.length).length c ∧ L = [.row 69 2 r (pipesU sets sets.length).length c ((pipesU sets sets.length).flatMap plC)]) := by
  refine spec_enterM Tryz.func25 rfl Tryz.ntmps25 rfl (Own.refl _) ?_
  simp only [argEnv]
  refine rc_seq <| rc_region <| rl_op (by nofun) (op_rd rfl (rd_assign rfl) ?_)
  refine rl_nil <| gx_then <| rc_seq <| rc_region <| rl_op (by nofun) (op_alloc ty_36 rfl rfl (fun b3 => ?_))
  refine rl_nil <| gx_then <| rc_seq <| rc_seq <| rc_region <| rl_op (by nofun) (op_rd rfl (rd_move rfl) ?_)
  refine rl_op (by nofun) (op_rd rfl (rd_lenSlice Tryz.underlying75 rfl) ?_)
  refine rl_op (by nofun) (op_rd rfl (rd_move rfl) ?_)
  refine rl_nil <| gx_then <| rc_block <| gk_nil 69 2 <| rc_loopM (ι := Nat × List Nat × Option Nat × Nat) [(3, _), (7, _), (8, _)] [] (fun q => q.1 ≤ sets.length) (fun q => q.2.1.map Go.Gv.mark) (fun q Fr0 => ((9, natV q.1) :: Fr0)) (fun q Fr0 => (.blk b3 [.slice (rowA q.2.2.1) (pipesU sets q.1).length q.2.2.2] 36 :: .row 69 2 q.2.2.1 (pipesU sets q.1).length q.2.2.2 ((pipesU sets q.1).flatMap plC) :: (Fr0 ++ (q.2.1.map markH)))) (fun q => sets.length - q.1) (0, [], none, 0) (Nat.zero_le _) rfl ⟨rfl, rfl, rfl, rfl, trivial⟩ ⟨[1, 0], by decide, rfl⟩ ?_
  rintro ⟨d, Ds, rC, cC⟩ hd
  simp only at hd ⊢
  refine rc_seq <| rc_region <| rl_op (by nofun) (op_rd rfl (rd_lss rfl rfl) (gk_dec (fun h10 => ?_) (fun h10 => ?_)))
  · obtain ⟨X, hX⟩ := get_some (show d < sets.length by omega)
    have hXl := hlt X (List.mem_of_getElem? hX)
    have hbl := bitsOf_len X
    refine rl_nil <| gx_then <| rc_seq <| rc_cond_t rfl <| rc_skip <| gx_then <| rc_seq <| rc_block <| rc_seq <| rc_region <| rl_op (by nofun) (op_rd rfl (rd_move rfl) ?_)
    refine rl_op (by nofun) (op_rd rfl (by exact rd_indexOld (by assumption) Tryz.underlying75 ty_87 rfl rfl (by omega) (by omega)) ?_)
    refine rl_op (by nofun) (op_rd rfl (rd_loadAgg Tryz.underlying87 rfl ty_87 rfl (cs_sl hsl (flat_drop_get setC 2 (fun _ => rfl) hX)) rfl) ?_)
    refine rl_op (by nofun) (op_alloc ty_3 rfl rfl (fun b4 => ?_))
    refine rl_op (by nofun) (op_alloc ty_87 rfl rfl (fun b5 => ?_))
    refine rl_op (by nofun) (op_store 1 ty_3 rfl rfl rfl rfl rfl (by rfl) (by rfl) ?_)
    refine rl_op (by nofun) (op_storeAgg 0 ty_87 rfl rfl rfl rfl rfl rfl (by rfl) ?_)
    refine rl_nil <| gx_then <| rc_seq <| rc_region <| rl_op (by nofun) (op_rd rfl (rd_loadAgg Tryz.underlying87 rfl ty_87 rfl (by exact cs_blk 0 (off := 0) (k := 2) rfl rfl) rfl) ?_)
    simp only [setC]
    refine rl_op (by nofun) (op_call rfl (vf := []) (vc := []) rfl rfl Tryz.call36 (fun w1 ho => all_ok X w1) ?_)
    rintro _ _ ⟨bx, rfl, rfl⟩
    refine rl_nil <| gx_then <| rc_block <| gk_env [(3, _), (4, _), (5, _), (7, _), (8, _), (9, _), (10, _), (11, _), (12, _), (13, _), (14, _), (15, _)] ⟨rfl, rfl, rfl, rfl, rfl, rfl, rfl, rfl, rfl, rfl, rfl, rfl, trivial⟩ ?_
    refine rc_rangeF (β := Unit) (N := (bitsOf X).length) (xs := fun i => natV ((bitsOf X).getD i 0)) (gf := 60) (caps := [.pointer (some ⟨bx, 0, none⟩)]) (fun i _ => [(6, natV ((bitsOf X).getD i 0))]) (fun i _ => []) rfl Tryz.call60 rfl (fun i L => ∃ r c, L = [.blk bx (setC X) 87, .blk b5 (setC X) 87, .blk b4 [natV d] 3, .blk b3 [.slice (rowA r) (pipesI sets d X i).length c] 36, .row 69 2 r (pipesI sets d X i).length c ((pipesI sets d X i).flatMap plC)] ++ Ds.map markH) (fun _ _ _ => False) (fun L => HL.blk bx (setC X) 87 ∈ L) (fun i L hd h => by
      rcases h with ⟨r, c, rfl⟩ | ⟨c, h⟩
      · exact List.mem_append_right _ (List.mem_append_left _ List.mem_cons_self)
      · exact h.elim) (⟨rC, cC, by rw [pipesI_zero]; rfl⟩) (fun lb J Jx hG w1 L hY hJ hO => allIt_ok X hXl bx lb J Jx hG w1 L hY hJ hO.self (hT.at hO (by decide)) (old_out hO hT.lt (by decide))) ?_ ?_ ?_ ?_
    · intro i lb w1 S1 L1 K1 Q1 hk1
      refine rc_region <| rl_op (by nofun) (op_rd rfl (rd_assign rfl) ?_)
      refine rl_nil <| gx_then ?_
      exact gk_env _ (by exact ⟨rfl, rfl, rfl, rfl, rfl, rfl, rfl, rfl, rfl, rfl, rfl, rfl, rfl, trivial⟩) (hk1 ())
    · intro i hi L hI lb D rec w1 S1 _ rec9 hO9 hS9
      obtain ⟨r, c, rfl⟩ := hI
      have hPl := pipesI_len sets d X i
      refine rc_block <| rc_region <| rl_op (by nofun) (op_rd rfl (rd_load Tryz.underlying36 rfl rfl (by exact ld_blk 5 rfl rfl)) ?_)
      refine rl_op (by nofun) (op_rd rfl (rd_load Tryz.underlying3 rfl rfl (by exact ld_blk 4 rfl rfl)) ?_)
      refine rl_op (by nofun) (op_rd rfl (rd_move rfl) ?_)
      refine rl_op (by nofun) (op_rd rfl (rd_build rfl (fun _ => bd_69_0_1 _ _)) ?_)
      refine rl_op (by nofun) (op_buildSlice (sz := 2) rfl rfl (fun _ => bs_36_1_0 _ _) rfl rfl (fun b21 => ?_))
      refine rl_op (by nofun) (op_appendRow 7 0 Tryz.underlying36 ty_69 rfl (by decide) rfl rfl rfl rfl rfl (by simp [Value.oneCell']) (by omega) (by omega) (fun _ => (by rfl)) (fun r22 c22 => ?_))
      refine rl_op (by nofun) (op_store 6 ty_36 rfl rfl rfl rfl rfl (by rfl) (by rfl) ?_)
      refine rl_nil <| gx_block ?_
      rw [show (pipesI sets d X i).length + 1 = (pipesI sets d X (i + 1)).length by rw [pipesI_snoc hi, List.length_append]; rfl, show (pipesI sets d X i).flatMap plC ++ [natV d, natV ((bitsOf X).getD i 0)] = (pipesI sets d X (i + 1)).flatMap plC by rw [pipesI_snoc hi, List.flatMap_append]; rfl]
      exact rp_normal _ (⟨r22, c22, rfl⟩) (sub_tail (A := [_, _, _, _, _, _, _]) (B := [_, _, _, _, _, _, _, _]) (T := (Ds.map markH)) [1, 2, 3, 4, 5, 6, 7] 8 (by decide) (by decide) rfl rfl)
    · intro D L hI
      obtain ⟨r, c, rfl⟩ := hI
      rw [pipesI_all hX]
      refine gk_front [_, _, _, _, _, _] [_, _, _, _, _] (Ds.map markH) [1, 2, 3, 4, 5] 0 6 rfl (x := markH D) rfl rfl (by decide) (by decide) ?_
      refine gx_block <| gx_block <| gx_then <| rc_region <| rl_op (by nofun) (op_rd rfl (by exact rd_addN (b := 1) rfl rfl (by omega)) ?_)
      refine rl_op (by nofun) (op_rd rfl (rd_move rfl) ?_)
      refine rl_nil <| gx_then ?_
      exact gx_cutM ((d + 1, D :: Ds, r, c)) ⟨by simp only; omega, by simp only; omega⟩ rfl ⟨rfl, rfl, rfl, rfl, trivial⟩ (sub_tail (A := [_, _]) (B := [_, _, _, _, _]) (T := ((D :: Ds).map markH)) [3, 4] 5 (by decide) (by decide) rfl rfl)
    · intro D c i L hi hI
      exact hI.elim
  refine rl_nil <| gx_then <| rc_seq <| rc_cond_f rfl <| rc_exit <| gx_then_exit <| gx_then_exit <| gx_block_exit <| gx_then <| rc_seq <| rc_region <| rl_op (by nofun) (op_rd rfl (rd_load Tryz.underlying36 rfl rfl (by exact ld_blk 0 rfl rfl)) ?_)
  refine rl_op (by nofun) (op_rd rfl (rd_assign rfl) ?_)
  refine rl_nil <| gx_then <| rc_ret ?_
  have hd9 : d = sets.length := by omega
  subst hd9
  refine gk_sub (sub_tail (A := [_]) (B := [_, _]) (T := (Ds.map markH)) [1] 2 (by decide) (by decide) rfl rfl) ?_
  refine gk_sub (sub_rot [_] (Ds.map markH)) <| gx_retM1 Ds (.inl rfl) Tryz.results25 rfl (Sub.refl' _) ?_
  exact ⟨rC, cC, rfl, rfl⟩
end Go.Proofs.YtbjijbbkfgcleaaGreatDoor
namespace Go.Proofs.YtbjijbbkfgcleaaGreatDoor
open Go.Gv
open Go.RowKit
open Go.Sn
open Sx
set_option maxRecDepth 100000 in
set_option maxHeartbeats 1000000 in
theorem count_ok (s : Org) (h : HN) (hle : OrgLe s) (hg : HGood s h) (w0 : World) (hS : OrgIn s w0 []) (hH : HNIn h w0 []) (hT : TabIn w0) : Sp Tryz.prog 30 [s.val, h.val] w0 [] (fun v L => ∃ b21, v = .slice (rowA (some b21)) s.rs.length s.rs.length ∧ L = [.row 84 128 (some b21) s.rs.length s.rs.length (cntC s.rs.length (cntP s h h.ss.length))]) := by
  have hA := hg.cx
  have hnd : s.ds.length ≤ 6 := hA.nd
  have hkl : h.ks.length = s.ds.length := by have := hA.nk; simpa [cxN] using this
  have hnc := hg.nc
  have hcl : h.cs.length ≤ s.cs.length := asc_len hA.dra hA.drn
  have hnr := hg.nr
  have hns := hg.ns
  have hss : h.ss.length ≤ s.ss.length := asc_len hg.ssA hg.ssN
  refine spec_enterM Tryz.func30 rfl Tryz.ntmps30 rfl (Own.refl _) ?_
  simp only [argEnv]
  refine rc_seq <| rc_region <| rl_op (by nofun) (op_box rfl rfl rfl (fun b2 => ?_))
  refine rl_op (by nofun) (op_box rfl rfl rfl (fun b3 => ?_))
  refine rl_op (by nofun) (op_rd rfl (rd_assign rfl) ?_)
  refine rl_nil <| gx_then <| rc_seq <| rc_region <| rl_op (by nofun) (op_rd rfl (rd_loadAgg Tryz.underlying27 rfl ty_27 rfl (by exact cs_blk 1 (off := 0) (k := 4) rfl rfl) rfl) ?_)
  refine rl_op (by nofun) (op_rd rfl (rd_loadAgg Tryz.underlying31 rfl ty_31 rfl (by exact cs_blk 0 (off := 0) (k := 3) rfl rfl) rfl) ?_)
  refine rl_op (by nofun) (op_call rfl (vf := []) (vc := []) rfl rfl Tryz.call33 (fun w1 ho => acting_ok s h hle hg w1 (hS.at ho) (hH.at ho)) ?_)
  rintro _ _ ⟨b30, k27, c27, m28, rfl, rfl⟩
  unfold BK RS OM
  have hset := act_set hA
  have hsl0 : (actP (cxN s h)).sets.length = s.ds.length := hset.len
  refine rl_op (by nofun) (op_rd rfl (rd_assign rfl) ?_)
  refine rl_nil <| gx_then <| rc_seq <| rc_region <| rl_op (by nofun) (op_rd rfl (rd_fieldAddr rfl (fa_27_1 _)) ?_)
  refine rl_op (by nofun) (op_rd rfl (rd_load Tryz.underlying23 rfl rfl (by exact ld_blk 4 rfl rfl)) ?_)
  refine rl_op (by nofun) (op_rd rfl (rd_lenSlice Tryz.underlying23 rfl) ?_)
  refine rl_op (by nofun) (op_makeSlice (s.rs.length) Tryz.underlying82 ty_84 rfl rfl rfl (by omega) (by omega) (by omega) (by omega) (fun b21 => ?_))
  refine rl_op (by nofun) (op_alloc ty_82 rfl rfl (fun b6 => ?_))
  refine rl_op (by nofun) (op_store 0 ty_82 rfl rfl rfl rfl rfl (by rfl) (by rfl) ?_)
  refine rl_nil <| gx_then <| rc_seq <| rc_seq ?_
  rw [cnt_made s h (by kernel_rfl)]
  refine rc_region <| rl_op (by nofun) (op_rd rfl (rd_fieldAddr rfl (fa_31_1 _)) ?_)
  refine rl_op (by nofun) (op_rd rfl (rd_load Tryz.underlying29 rfl rfl (by exact ld_blk 5 rfl rfl)) ?_)
  refine rl_op (by nofun) (op_rd rfl (rd_lenSlice Tryz.underlying29 rfl) ?_)
  refine rl_op (by nofun) (op_rd rfl (rd_move rfl) ?_)
  refine rl_nil <| gx_then <| rc_block <| rc_loopM (ι := Nat × List Nat) [(2, _), (5, _), (6, _), (23, _), (24, _)] [_, _, _, _, _, _] (fun q => q.1 ≤ h.ss.length) (fun q => q.2.map Go.Gv.mark) (fun q Fr0 => ((25, natV q.1) :: Fr0)) (fun q Fr0 => (.row 84 128 (some b21) s.rs.length s.rs.length (cntC s.rs.length (cntP s h q.1)) :: (Fr0 ++ (q.2.map markH)))) (fun q => h.ss.length - q.1) (0, []) (Nat.zero_le _) rfl ⟨rfl, rfl, rfl, rfl, rfl, rfl, trivial⟩ ⟨[1, 0, 2, 3, 4, 5, 6], by decide, rfl⟩ ?_
  rintro ⟨k, Ds⟩ hk
  simp only at hk ⊢
  refine rc_seq <| rc_region <| rl_op (by nofun) (op_rd rfl (rd_lss rfl rfl) (gk_dec (fun h26 => ?_) (fun h26 => ?_)))
  · obtain ⟨i0, hi0⟩ := get_some (show k < h.ss.length by omega)
    obtain ⟨x, hx⟩ := get_some (hg.ssN i0 (List.mem_of_getElem? hi0))
    have hxm := List.mem_of_getElem? hx
    obtain ⟨hv0, hv1, hpo, hp12, hpb⟩ := Go.Sn.stop_ok hg hx
    have hpc := hle.pc x hxm
    have hsA : stA s i0 = x := getD_some hx
    obtain ⟨X, hX⟩ := get_some (show x.div.toNat < (actP (cxN s h)).sets.length by omega)
    have hXl := hset.lt X (List.mem_of_getElem? hX)
    have hbl := bitsOf_len X
    have hkX := keysP_at hA (show x.div.toNat < s.ds.length by omega) hX
    have hnx : (fun q => cntP s h k q + cntK x (bitsOf X) q) = cntP s h (k + 1) := by rw [← cntP_next hi0, hsA, hkX]
    have hil : i0 < s.ss.length := (List.getElem?_eq_some_iff.1 hx).1
    refine rl_nil <| gx_then <| rc_seq <| rc_cond_t rfl <| rc_skip <| gx_then <| rc_seq <| rc_block <| rc_seq <| rc_region <| rl_op (by nofun) (op_rd rfl (rd_indexOld1 hH.t Tryz.underlying29 ty_3 rfl rfl (by omega) (by omega)) ?_)
    refine rl_op (by nofun) (op_rd rfl (rd_load Tryz.underlying3 rfl rfl (ld_slN hH.t (get_nz hi0))) ?_)
    refine rl_op (by nofun) (op_rd rfl (rd_assign rfl) ?_)
    refine rl_nil <| gx_then <| rc_seq <| rc_region <| rl_op (by nofun) (op_rd rfl (rd_fieldAddr rfl (fa_27_2 _)) ?_)
    refine rl_op (by nofun) (op_rd rfl (rd_load Tryz.underlying24 rfl rfl (by exact ld_blk 6 rfl rfl)) ?_)
    refine rl_op (by nofun) (op_rd rfl (rd_move rfl) ?_)
    refine rl_op (by nofun) (op_rd rfl (rd_indexOld hS.t Tryz.underlying24 ty_56 rfl rfl (by omega) (by omega)) ?_)
    refine rl_op (by nofun) (op_rd rfl (rd_loadAgg Tryz.underlying56 rfl ty_56 rfl (cs_slN hS.t (flat_drop_get St.cells 5 (fun _ => rfl) hx)) rfl) ?_)
    refine rl_op (by nofun) (op_alloc ty_56 rfl rfl (fun b9 => ?_))
    refine rl_op (by nofun) (op_storeAgg 0 ty_56 rfl rfl rfl rfl rfl rfl (by rfl) ?_)
    refine rl_nil <| gx_then <| rc_seq ?_
    simp only [St.cells]
    refine rc_drawP [0, 1, 2, 3, 4, 5, 6, 7] true 8 rfl rfl <| ga_first 0 (bm 9 1) rfl rfl rfl rfl (by kernel_rfl) (by kernel_rfl) ⟨[0, 1, 2, 3, 4, 5, 6, 7], by decide, rfl⟩ (qt_rd (rd_move rfl)) ?_
    refine ga_first 1 (bm 9 3) rfl rfl rfl rfl (by kernel_rfl) (by kernel_rfl) ⟨[0, 1, 2, 3, 4, 5, 6, 7], by decide, rfl⟩ (qt_rd (rd_nilCheck rfl)) ?_
    refine ga_first 2 (bm 9 7) rfl rfl rfl rfl (by kernel_rfl) (by kernel_rfl) ⟨[0, 1, 2, 3, 4, 5, 6, 7], by decide, rfl⟩ (qt_rd (rd_fieldAddr rfl (fa_97_0 _))) ?_
    refine ga_first 3 (bm 9 15) rfl rfl rfl rfl (by kernel_rfl) (by kernel_rfl) ⟨[0, 1, 2, 3, 4, 5, 6, 7], by decide, rfl⟩ (qt_rd (rd_load Tryz.underlying75 rfl rfl (by exact ld_blk 3 rfl rfl))) ?_
    refine ga_first 4 (bm 9 31) rfl rfl rfl rfl (by kernel_rfl) (by kernel_rfl) ⟨[0, 1, 2, 3, 4, 5, 6, 7], by decide, rfl⟩ (qt_rd (rd_fieldAddr rfl (fa_56_1 _))) ?_
    refine ga_first 5 (bm 9 63) rfl rfl rfl rfl (by kernel_rfl) (by kernel_rfl) ⟨[0, 1, 2, 3, 4, 5, 6, 7], by decide, rfl⟩ (qt_rd (rd_load Tryz.underlying3 rfl rfl (by exact ld_blk 0 rfl rfl))) ?_
    refine ga_first 6 (bm 9 127) rfl rfl rfl rfl (by kernel_rfl) (by kernel_rfl) ⟨[0, 1, 2, 3, 4, 5, 6, 7], by decide, rfl⟩ (qt_rd (by exact rd_indexRow 4 rfl Tryz.underlying75 ty_87 rfl rfl (by omega) (by omega))) ?_
    refine ga_first 7 (bm 9 255) rfl rfl rfl rfl (by kernel_rfl) (by kernel_rfl) ⟨[0, 1, 2, 3, 4, 5, 6, 7], by decide, rfl⟩ (qt_rd (rd_loadAgg Tryz.underlying87 rfl ty_87 rfl (cs_row 4 (a := some k27) rfl (flat_drop_get setC 2 (fun _ => rfl) hX)) rfl)) ?_
    simp only [setC]
    refine ga_only 8 (bm 9 511) rfl rfl (by kernel_rfl) (by kernel_rfl) (.inr ⟨[0, 1, 2, 3, 4, 5, 6, 7], by decide, rfl⟩) (op_call rfl (vf := []) (vc := []) rfl rfl Tryz.call36 (fun w1 ho => all_ok X w1) ?_)
    rintro _ _ ⟨bx, rfl, rfl⟩
    refine ga_end (by kernel_rfl) (.inr ⟨[1, 2, 3, 4, 5, 6, 7, 8], by decide, rfl⟩) ?_
    refine gx_then <| rc_block <| gk_env [(2, _), (5, _), (6, _), (8, _), (9, _), (23, _), (24, _), (25, _), (26, _), (27, _), (28, _), (29, _), (30, _), (31, _), (32, _), (33, _), (34, _), (35, _), (36, _), (37, _), (38, _), (39, _), (40, _), (41, _), (42, _)] ⟨rfl, rfl, rfl, rfl, rfl, rfl, rfl, rfl, rfl, rfl, rfl, rfl, rfl, rfl, rfl, rfl, rfl, rfl, rfl, rfl, rfl, rfl, rfl, rfl, rfl, trivial⟩ ?_
    refine rc_rangeF (β := Unit) (N := (bitsOf X).length) (xs := fun i => natV ((bitsOf X).getD i 0)) (gf := 60) (caps := [.pointer (some ⟨bx, 0, none⟩)]) (fun i _ => [(10, natV ((bitsOf X).getD i 0))]) (fun i _ => []) rfl Tryz.call60 rfl (fun i L => L = [HL.blk bx (setC X) 87, .blk b9 [.string x.name, .int .i64 x.div, .int .i64 x.num, .int .i64 x.den, .slice x.pa x.ps.length x.pc] 56, .row 84 128 (some b21) s.rs.length s.rs.length (cntC s.rs.length (cntW (cntP s h k) x (bitsOf X) i 0)), .blk b6 [.slice (rowA (some b21)) s.rs.length s.rs.length] 82, .blk b30 [.slice (rowA (some k27)) s.ds.length c27, .map (some m28)] 97, .row 87 2 (some k27) s.ds.length c27 ((actP (cxN s h)).sets.flatMap setC), .obj m28 (actO (actP (cxN s h)).tb), .blk b3 h.val.cells.toList 31, .blk b2 s.val.cells.toList 27] ++ Ds.map markH) (fun _ _ _ => False) (fun L => HL.blk bx (setC X) 87 ∈ L) (fun i L hd h => by
      rcases h with rfl | ⟨c, h⟩
      · exact List.mem_append_right _ (List.mem_append_left _ List.mem_cons_self)
      · exact h.elim) ((by rw [cntW_zero]; rfl)) (fun lb J Jx hG w1 L hY hJ hO => allIt_ok X hXl bx lb J Jx hG w1 L hY hJ hO.self (hT.at hO (by decide)) (old_out hO hT.lt (by decide))) ?_ ?_ ?_ ?_
    · intro i lb w1 S1 L1 K1 Q1 hk1
      refine rc_region <| rl_op (by nofun) (op_rd rfl (rd_assign rfl) ?_)
      refine rl_nil <| gx_then ?_
      exact gk_env _ (by exact ⟨rfl, rfl, rfl, rfl, rfl, rfl, rfl, rfl, rfl, rfl, rfl, rfl, rfl, rfl, rfl, rfl, rfl, rfl, rfl, rfl, rfl, rfl, rfl, rfl, rfl, rfl, trivial⟩) (hk1 ())
    · intro i hi L hI lb D rec w1 S1 _ rec9 hO9 hS9
      subst hI
      have hS1 := hS.atS (Sc := S1) hO9 (by rw [hS9]; exact own_new hO9)
      obtain ⟨n, hn⟩ := get_some hi
      have hnn : (bitsOf X).getD i 0 = n := getD_some hn
      have hn8 := (bitsOf_mem.1 (List.mem_of_getElem? hn)).1
      rw [hnn]
      refine rc_block <| rc_scope <| rc_seq <| rc_label <| gx_then <| rc_seq <| rc_region <| rl_op (by nofun) (op_rd rfl (rd_fieldAddr rfl (fa_56_3 _)) ?_)
      refine rl_op (by nofun) (op_rd rfl (rd_load Tryz.underlying54 rfl rfl (by exact ld_blk 3 rfl rfl)) ?_)
      refine rl_op (by nofun) (op_rd rfl (rd_lenSlice Tryz.underlying54 rfl) ?_)
      refine rl_op (by nofun) (op_rd rfl (rd_move rfl) ?_)
      refine rl_nil <| gx_then <| rc_block <| rc_loopF (ι := Nat) [(6, _), (9, _), (10, _), (45, _), (46, _)] (_ :: _ :: _ :: _ :: _ :: _ :: _ :: _ :: _ :: _ :: (Ds.map markH)) (fun j => j ≤ x.ps.length) (fun j Fr0 => ((47, natV j) :: Fr0)) (fun j Fr0 => (.row 84 128 (some b21) s.rs.length s.rs.length (cntC s.rs.length (cntW (cntP s h k) x (bitsOf X) i j)) :: Fr0)) (fun j => x.ps.length - j) 0 (Nat.zero_le _) ⟨rfl, rfl, rfl, rfl, rfl, rfl, trivial⟩ (sub_tail (A := [_, _, _, _, _, _, _, _, _, _, _]) (B := [_, _, _, _, _, _, _, _, _, _, _]) (T := (Ds.map markH)) [4, 0, 1, 2, 3, 5, 6, 7, 8, 9, 10] 11 (by decide) (by decide) rfl rfl) ?_
      rintro j hj
      refine rc_seq <| rc_region <| rl_op (by nofun) (op_rd rfl (rd_lss rfl rfl) (gk_dec (fun h48 => ?_) (fun h48 => ?_)))
      · obtain ⟨p, hp⟩ := get_some (show j < x.ps.length by omega)
        have hpm := List.mem_of_getElem? hp
        have hpt : ptA x.ps j = p := getD_some hp
        obtain ⟨hb0, hb1, hb2, hb3⟩ := hpb p hpm
        refine rl_nil <| gx_then <| rc_seq <| rc_cond_t rfl <| rc_skip <| gx_then <| rc_seq <| rc_block <| rc_seq <| rc_region <| rl_op (by nofun) (op_rd rfl (rd_move rfl) ?_)
        refine rl_op (by nofun) (op_rd rfl (rd_indexOld (hS1.p x hxm) Tryz.underlying54 ty_104 rfl rfl (by omega) (by omega)) ?_)
        refine rl_op (by nofun) (op_rd rfl (rd_loadAgg Tryz.underlying104 rfl ty_104 rfl (cs_sl (hS1.p x hxm) (flat_drop_get Pt.cells 4 (fun _ => rfl) hp)) rfl) ?_)
        refine rl_op (by nofun) (op_alloc ty_104 rfl rfl (fun b12 => ?_))
        refine rl_op (by nofun) (op_rd rfl (rd_assign rfl) ?_)
        refine rl_op (by nofun) (op_storeAgg 0 ty_104 rfl rfl rfl rfl rfl rfl (by rfl) ?_)
        refine rl_nil <| gx_then <| rc_seq <| rc_seq ?_
        simp only [Pt.cells]
        refine rc_region <| rl_op (by nofun) (op_rd rfl (rd_move rfl) ?_)
        refine rl_op (by nofun) (op_rd rfl (rd_fieldAddr rfl (fa_104_2 _)) ?_)
        refine rl_op (by nofun) (op_rd rfl (rd_load Tryz.underlying3 rfl rfl (by exact ld_blk 0 rfl rfl)) ?_)
        refine rl_op (by nofun) (op_rd rfl (rd_lss rfl rfl) (gk_dec (fun h55 => ?_) (fun h55 => ?_)))
        · have hno : newP x.ps ((bitsOf X).getD i 0) j = false := by
            have h9 : hitB p n = false := by unfold hitB; simp only [Bool.and_eq_false_iff, decide_eq_false_iff_not]; omega
            unfold newP; rw [hpt, hnn, h9]; rfl
          refine rl_op (by nofun) (op_rd rfl (rd_move rfl) ?_)
          refine rl_no rfl rfl rfl <| rl_no rfl rfl rfl <| rl_no rfl rfl rfl <| rl_no rfl rfl rfl <| rl_op (by nofun) (op_rd rfl (rd_pick_t rfl rfl) ?_)
          refine rl_nil <| gx_then <| rc_cond_t rfl <| rc_exit <| gx_then_exit <| gx_block_exit <| gx_then ?_
          rw [← cntW_no hno]
          refine rc_region <| rl_op (by nofun) (op_rd rfl (by exact rd_addN (b := 1) rfl rfl (by omega)) ?_)
          refine rl_op (by nofun) (op_rd rfl (rd_move rfl) ?_)
          refine rl_nil <| gx_then ?_
          exact gx_cut (j + 1) ⟨by omega, by omega⟩ ⟨rfl, rfl, rfl, rfl, rfl, rfl, trivial⟩ (sub_tail (A := [_, _, _, _, _, _, _, _, _, _, _]) (B := [_, _, _, _, _, _, _, _, _, _, _, _]) (T := (Ds.map markH)) [1, 2, 3, 4, 5, 6, 7, 8, 9, 10, 11] 12 (by decide) (by decide) rfl rfl)
        refine rl_op (by nofun) (op_rd rfl (rd_move rfl) ?_)
        refine rl_yes (by nofun) rfl rfl (op_rd rfl (rd_move rfl) ?_)
        refine rl_yes (by nofun) rfl rfl (op_rd rfl (rd_fieldAddr rfl (fa_104_3 _)) ?_)
        refine rl_yes (by nofun) rfl rfl (op_rd rfl (rd_load Tryz.underlying3 rfl rfl (by exact ld_blk 0 rfl rfl)) ?_)
        refine rl_yes (by nofun) rfl rfl (op_rd rfl (rd_gtr rfl rfl) (gk_dec (fun h60 => ?_) (fun h60 => ?_)))
        · have hno : newP x.ps ((bitsOf X).getD i 0) j = false := by
            have h9 : hitB p n = false := by unfold hitB; simp only [Bool.and_eq_false_iff, decide_eq_false_iff_not]; omega
            unfold newP; rw [hpt, hnn, h9]; rfl
          refine rl_op (by nofun) (op_rd rfl (rd_pick_f rfl rfl) ?_)
          refine rl_nil <| gx_then <| rc_cond_t rfl <| rc_exit <| gx_then_exit <| gx_block_exit <| gx_then ?_
          rw [← cntW_no hno]
          refine rc_region <| rl_op (by nofun) (op_rd rfl (by exact rd_addN (b := 1) rfl rfl (by omega)) ?_)
          refine rl_op (by nofun) (op_rd rfl (rd_move rfl) ?_)
          refine rl_nil <| gx_then ?_
          exact gx_cut (j + 1) ⟨by omega, by omega⟩ ⟨rfl, rfl, rfl, rfl, rfl, rfl, trivial⟩ (sub_tail (A := [_, _, _, _, _, _, _, _, _, _, _]) (B := [_, _, _, _, _, _, _, _, _, _, _, _]) (T := (Ds.map markH)) [1, 2, 3, 4, 5, 6, 7, 8, 9, 10, 11] 12 (by decide) (by decide) rfl rfl)
        have hhit : hitB p n = true := by unfold hitB; simp only [Bool.and_eq_true, decide_eq_true_eq]; omega
        refine rl_op (by nofun) (op_rd rfl (rd_pick_f rfl rfl) ?_)
        refine rl_nil <| gx_then <| rc_cond_f rfl <| rc_skip <| gx_then <| rc_seq <| rc_seq <| rc_region <| rl_op (by nofun) (op_rd rfl (rd_fieldAddr rfl (fa_56_3 _)) ?_)
        refine rl_op (by nofun) (op_rd rfl (rd_load Tryz.underlying54 rfl rfl (by exact ld_blk 5 rfl rfl)) ?_)
        refine rl_op (by nofun) (op_rd rfl (rd_move rfl) ?_)
        refine rl_op (by nofun) (op_rd rfl (rd_sliceHi Tryz.underlying54 ty_104 rfl rfl (by omega) (by omega)) ?_)
        refine rl_op (by nofun) (op_rd rfl (rd_lenSlice Tryz.underlying54 rfl) ?_)
        refine rl_op (by nofun) (op_rd rfl (rd_move rfl) ?_)
        refine rl_nil <| gx_then <| rc_block <| rc_loopF (ι := Nat) [(6, _), (9, _), (10, _), (12, _), (45, _), (46, _), (47, _), (65, _), (66, _)] (_ :: _ :: _ :: _ :: _ :: _ :: _ :: _ :: _ :: _ :: _ :: _ :: (Ds.map markH)) (fun m2 => m2 ≤ j ∧ oldP x.ps n j m2 = false) (fun m2 Fr0 => ((67, natV m2) :: Fr0)) (fun m2 Fr0 => Fr0) (fun m2 => j - m2) 0 (⟨Nat.zero_le _, rfl⟩) ⟨rfl, rfl, rfl, rfl, rfl, rfl, rfl, rfl, rfl, rfl, trivial⟩ (sub_tail (A := [_, _, _, _, _, _, _, _, _, _, _, _]) (B := [_, _, _, _, _, _, _, _, _, _, _, _]) (T := (Ds.map markH)) [0, 1, 2, 3, 4, 5, 6, 7, 8, 9, 10, 11] 12 (by decide) (by decide) rfl rfl) ?_
        rintro m2 ⟨hm2, hold⟩
        refine rc_seq <| rc_region <| rl_op (by nofun) (op_rd rfl (rd_lss rfl rfl) (gk_dec (fun h68 => ?_) (fun h68 => ?_)))
        · obtain ⟨p2, hp2⟩ := get_some (show m2 < x.ps.length by omega)
          have hpt2 : ptA x.ps m2 = p2 := getD_some hp2
          refine rl_nil <| gx_then <| rc_seq <| rc_cond_t rfl <| rc_skip <| gx_then <| rc_seq <| rc_block <| rc_seq <| rc_region <| rl_op (by nofun) (op_rd rfl (rd_indexOld ((hS1.p x hxm).take j (by omega)) Tryz.underlying54 ty_104 rfl rfl (by omega) (by omega)) ?_)
          refine rl_op (by nofun) (op_rd rfl (rd_loadAgg Tryz.underlying104 rfl ty_104 rfl (cs_sl (hS1.p x hxm) (flat_drop_get Pt.cells 4 (fun _ => rfl) hp2)) rfl) ?_)
          refine rl_op (by nofun) (op_alloc ty_104 rfl rfl (fun b14 => ?_))
          refine rl_op (by nofun) (op_storeAgg 0 ty_104 rfl rfl rfl rfl rfl rfl (by rfl) ?_)
          refine rl_nil <| gx_then <| rc_seq ?_
          simp only [Pt.cells]
          refine rc_region <| rl_op (by nofun) (op_rd rfl (rd_fieldAddr rfl (fa_104_0 _)) ?_)
          refine rl_op (by nofun) (op_rd rfl (rd_load Tryz.underlying3 rfl rfl (by exact ld_blk 0 rfl rfl)) ?_)
          refine rl_op (by nofun) (op_rd rfl (rd_fieldAddr rfl (fa_104_0 _)) ?_)
          refine rl_op (by nofun) (op_rd rfl (rd_load Tryz.underlying3 rfl rfl (by exact ld_blk 1 rfl rfl)) ?_)
          refine rl_op (by nofun) (op_rd rfl (rd_eql rfl rfl) (gk_dec (fun h75 => ?_) (fun h75 => ?_)))
          · refine rl_op (by nofun) (op_rd rfl (rd_move rfl) ?_)
            refine rl_yes (by nofun) rfl rfl (op_rd rfl (rd_fieldAddr rfl (fa_104_1 _)) ?_)
            refine rl_yes (by nofun) rfl rfl (op_rd rfl (rd_load Tryz.underlying3 rfl rfl (by exact ld_blk 0 rfl rfl)) ?_)
            refine rl_yes (by nofun) rfl rfl (op_rd rfl (rd_fieldAddr rfl (fa_104_1 _)) ?_)
            refine rl_yes (by nofun) rfl rfl (op_rd rfl (rd_load Tryz.underlying3 rfl rfl (by exact ld_blk 1 rfl rfl)) ?_)
            refine rl_yes (by nofun) rfl rfl (op_rd rfl (rd_eql rfl rfl) (gk_dec (fun h81 => ?_) (fun h81 => ?_)))
            · refine rl_op (by nofun) (op_rd rfl (rd_pick_t rfl rfl) ?_)
              refine rl_op (by nofun) (op_rd rfl (rd_move rfl) ?_)
              refine rl_yes (by nofun) rfl rfl (op_rd rfl (rd_move rfl) ?_)
              refine rl_yes (by nofun) rfl rfl (op_rd rfl (rd_fieldAddr rfl (fa_104_2 _)) ?_)
              refine rl_yes (by nofun) rfl rfl (op_rd rfl (rd_load Tryz.underlying3 rfl rfl (by exact ld_blk 0 rfl rfl)) ?_)
              refine rl_yes (by nofun) rfl rfl (op_rd rfl (rd_geq rfl rfl) (gk_dec (fun h87 => ?_) (fun h87 => ?_)))
              · refine rl_op (by nofun) (op_rd rfl (rd_pick_t rfl rfl) ?_)
                refine rl_op (by nofun) (op_rd rfl (rd_move rfl) ?_)
                refine rl_yes (by nofun) rfl rfl (op_rd rfl (rd_move rfl) ?_)
                refine rl_yes (by nofun) rfl rfl (op_rd rfl (rd_fieldAddr rfl (fa_104_3 _)) ?_)
                refine rl_yes (by nofun) rfl rfl (op_rd rfl (rd_load Tryz.underlying3 rfl rfl (by exact ld_blk 0 rfl rfl)) ?_)
                refine rl_yes (by nofun) rfl rfl (op_rd rfl (rd_leq rfl rfl) (gk_dec (fun h93 => ?_) (fun h93 => ?_)))
                · have hno : newP x.ps ((bitsOf X).getD i 0) j = false := by
                    have h9 : (sameB p2 p && hitB p2 n) = true := by unfold sameB hitB; simp only [Bool.and_eq_true, decide_eq_true_eq]; omega
                    have h10 : oldP x.ps ((bitsOf X).getD i 0) j (m2 + 1) = true := by rw [oldP_succ, hnn, hpt2, hpt, h9, Bool.or_true]
                    unfold newP; rw [oldP_mono h10 (by omega)]; simp
                  refine rl_op (by nofun) (op_rd rfl (rd_pick_t rfl rfl) ?_)
                  refine rl_nil <| gx_then <| rc_cond_t rfl <| rc_exit <| gx_block_pass rfl <| gx_then_exit <| gx_then_exit <| gx_block_pass rfl <| gx_then_exit <| gx_block_exit <| gx_then ?_
                  rw [← cntW_no hno]
                  refine rc_region <| rl_op (by nofun) (op_rd rfl (by exact rd_addN (b := 1) rfl rfl (by omega)) ?_)
                  refine rl_op (by nofun) (op_rd rfl (rd_move rfl) ?_)
                  refine rl_nil <| gx_then ?_
                  exact gx_cut (j + 1) ⟨by omega, by omega⟩ ⟨rfl, rfl, rfl, rfl, rfl, rfl, trivial⟩ (sub_tail (A := [_, _, _, _, _, _, _, _, _, _, _]) (B := [_, _, _, _, _, _, _, _, _, _, _, _, _]) (T := (Ds.map markH)) [2, 3, 4, 5, 6, 7, 8, 9, 10, 11, 12] 13 (by decide) (by decide) rfl rfl)
                have hnh : (sameB (ptA x.ps m2) (ptA x.ps j) && hitB (ptA x.ps m2) n) = false := by
                  rw [hpt2, hpt]; unfold sameB hitB; simp only [Bool.and_eq_false_iff, decide_eq_false_iff_not]; omega
                refine rl_op (by nofun) (op_rd rfl (rd_pick_t rfl rfl) ?_)
                refine rl_nil <| gx_then <| rc_cond_f rfl <| rc_skip <| gx_block <| gx_then <| rc_region <| rl_op (by nofun) (op_rd rfl (by exact rd_addN (b := 1) rfl rfl (by omega)) ?_)
                refine rl_op (by nofun) (op_rd rfl (rd_move rfl) ?_)
                refine rl_nil <| gx_then ?_
                exact gx_cut (m2 + 1) ⟨⟨by omega, by rw [oldP_succ, hold, Bool.false_or]; exact hnh⟩, by omega⟩ ⟨rfl, rfl, rfl, rfl, rfl, rfl, rfl, rfl, rfl, rfl, trivial⟩ (sub_tail (A := [_, _, _, _, _, _, _, _, _, _, _, _]) (B := [_, _, _, _, _, _, _, _, _, _, _, _, _]) (T := (Ds.map markH)) [1, 2, 3, 4, 5, 6, 7, 8, 9, 10, 11, 12] 13 (by decide) (by decide) rfl rfl)
              have hnh : (sameB (ptA x.ps m2) (ptA x.ps j) && hitB (ptA x.ps m2) n) = false := by
                rw [hpt2, hpt]; unfold sameB hitB; simp only [Bool.and_eq_false_iff, decide_eq_false_iff_not]; omega
              refine rl_op (by nofun) (op_rd rfl (rd_pick_t rfl rfl) ?_)
              refine rl_op (by nofun) (op_rd rfl (rd_move rfl) ?_)
              refine rl_no rfl rfl rfl <| rl_no rfl rfl rfl <| rl_no rfl rfl rfl <| rl_no rfl rfl rfl <| rl_op (by nofun) (op_rd rfl (rd_pick_f rfl rfl) ?_)
              refine rl_nil <| gx_then <| rc_cond_f rfl <| rc_skip <| gx_block <| gx_then <| rc_region <| rl_op (by nofun) (op_rd rfl (by exact rd_addN (b := 1) rfl rfl (by omega)) ?_)
              refine rl_op (by nofun) (op_rd rfl (rd_move rfl) ?_)
              refine rl_nil <| gx_then ?_
              exact gx_cut (m2 + 1) ⟨⟨by omega, by rw [oldP_succ, hold, Bool.false_or]; exact hnh⟩, by omega⟩ ⟨rfl, rfl, rfl, rfl, rfl, rfl, rfl, rfl, rfl, rfl, trivial⟩ (sub_tail (A := [_, _, _, _, _, _, _, _, _, _, _, _]) (B := [_, _, _, _, _, _, _, _, _, _, _, _, _]) (T := (Ds.map markH)) [1, 2, 3, 4, 5, 6, 7, 8, 9, 10, 11, 12] 13 (by decide) (by decide) rfl rfl)
            have hnh : (sameB (ptA x.ps m2) (ptA x.ps j) && hitB (ptA x.ps m2) n) = false := by
              rw [hpt2, hpt]; unfold sameB hitB; simp only [Bool.and_eq_false_iff, decide_eq_false_iff_not]; omega
            refine rl_op (by nofun) (op_rd rfl (rd_pick_t rfl rfl) ?_)
            refine rl_op (by nofun) (op_rd rfl (rd_move rfl) ?_)
            refine rl_no rfl rfl rfl <| rl_no rfl rfl rfl <| rl_no rfl rfl rfl <| rl_no rfl rfl rfl <| rl_op (by nofun) (op_rd rfl (rd_pick_f rfl rfl) ?_)
            refine rl_op (by nofun) (op_rd rfl (rd_move rfl) ?_)
            refine rl_no rfl rfl rfl <| rl_no rfl rfl rfl <| rl_no rfl rfl rfl <| rl_no rfl rfl rfl <| rl_op (by nofun) (op_rd rfl (rd_pick_f rfl rfl) ?_)
            refine rl_nil <| gx_then <| rc_cond_f rfl <| rc_skip <| gx_block <| gx_then <| rc_region <| rl_op (by nofun) (op_rd rfl (by exact rd_addN (b := 1) rfl rfl (by omega)) ?_)
            refine rl_op (by nofun) (op_rd rfl (rd_move rfl) ?_)
            refine rl_nil <| gx_then ?_
            exact gx_cut (m2 + 1) ⟨⟨by omega, by rw [oldP_succ, hold, Bool.false_or]; exact hnh⟩, by omega⟩ ⟨rfl, rfl, rfl, rfl, rfl, rfl, rfl, rfl, rfl, rfl, trivial⟩ (sub_tail (A := [_, _, _, _, _, _, _, _, _, _, _, _]) (B := [_, _, _, _, _, _, _, _, _, _, _, _, _]) (T := (Ds.map markH)) [1, 2, 3, 4, 5, 6, 7, 8, 9, 10, 11, 12] 13 (by decide) (by decide) rfl rfl)
          have hnh : (sameB (ptA x.ps m2) (ptA x.ps j) && hitB (ptA x.ps m2) n) = false := by
            rw [hpt2, hpt]; unfold sameB hitB; simp only [Bool.and_eq_false_iff, decide_eq_false_iff_not]; omega
          refine rl_op (by nofun) (op_rd rfl (rd_move rfl) ?_)
          refine rl_no rfl rfl rfl <| rl_no rfl rfl rfl <| rl_no rfl rfl rfl <| rl_no rfl rfl rfl <| rl_no rfl rfl rfl <| rl_op (by nofun) (op_rd rfl (rd_pick_f rfl rfl) ?_)
          refine rl_op (by nofun) (op_rd rfl (rd_move rfl) ?_)
          refine rl_no rfl rfl rfl <| rl_no rfl rfl rfl <| rl_no rfl rfl rfl <| rl_no rfl rfl rfl <| rl_op (by nofun) (op_rd rfl (rd_pick_f rfl rfl) ?_)
          refine rl_op (by nofun) (op_rd rfl (rd_move rfl) ?_)
          refine rl_no rfl rfl rfl <| rl_no rfl rfl rfl <| rl_no rfl rfl rfl <| rl_no rfl rfl rfl <| rl_op (by nofun) (op_rd rfl (rd_pick_f rfl rfl) ?_)
          refine rl_nil <| gx_then <| rc_cond_f rfl <| rc_skip <| gx_block <| gx_then <| rc_region <| rl_op (by nofun) (op_rd rfl (by exact rd_addN (b := 1) rfl rfl (by omega)) ?_)
          refine rl_op (by nofun) (op_rd rfl (rd_move rfl) ?_)
          refine rl_nil <| gx_then ?_
          exact gx_cut (m2 + 1) ⟨⟨by omega, by rw [oldP_succ, hold, Bool.false_or]; exact hnh⟩, by omega⟩ ⟨rfl, rfl, rfl, rfl, rfl, rfl, rfl, rfl, rfl, rfl, trivial⟩ (sub_tail (A := [_, _, _, _, _, _, _, _, _, _, _, _]) (B := [_, _, _, _, _, _, _, _, _, _, _, _, _]) (T := (Ds.map markH)) [1, 2, 3, 4, 5, 6, 7, 8, 9, 10, 11, 12] 13 (by decide) (by decide) rfl rfl)
        have hm9 : m2 = j := by omega
        rw [hm9] at hold
        have hnew : newP x.ps ((bitsOf X).getD i 0) j = true := by unfold newP; rw [hpt, hnn, hhit, hold]; rfl
        obtain ⟨hr0, hr1⟩ := hpo.rank p hpm
        obtain ⟨hq0, hq1⟩ := hpo.note p hpm n hhit
        obtain ⟨kn, hkn⟩ : ∃ kn : Nat, (n : Int) + p.shift = kn := ⟨((n : Int) + p.shift).toNat, by omega⟩
        have hpip : pipeOf (ptA x.ps j) ((bitsOf X).getD i 0) = (p.rank.toNat, kn) := by rw [hpt, hnn]; unfold pipeOf; rw [hkn]; rfl
        have hwl : cntW (cntP s h k) x (bitsOf X) i j (p.rank.toNat, kn) ≤ 1000000 := by
          have h1 := cntW_le (b := cntP s h k) (ks := bitsOf X) (i := i) (j := j) (q := (p.rank.toNat, kn)) hpo hj
          have h2 := cntP_le s h k (p.rank.toNat, kn)
          omega
        refine rl_nil <| gx_then <| rc_seq <| rc_cond_f rfl <| rc_exit <| gx_then_exit <| gx_then_exit <| gx_block_exit <| gx_then <| rc_drawP [0, 2, 3, 4, 5, 6, 7, 8, 9, 10, 11] false 13 rfl rfl <| ga_first 0 (bm 14 1) rfl rfl rfl rfl (by kernel_rfl) (by kernel_rfl) ⟨[0, 2, 3, 4, 5, 6, 7, 8, 9, 10, 11], by decide, rfl⟩ (qt_rd (rd_load Tryz.underlying82 rfl rfl (by exact ld_blk 5 rfl rfl))) ?_
        refine ga_first 1 (bm 14 3) rfl rfl rfl rfl (by kernel_rfl) (by kernel_rfl) ⟨[0, 2, 3, 4, 5, 6, 7, 8, 9, 10, 11], by decide, rfl⟩ (qt_rd (rd_fieldAddr rfl (fa_104_0 _))) ?_
        refine ga_first 2 (bm 14 7) rfl rfl rfl rfl (by kernel_rfl) (by kernel_rfl) ⟨[0, 2, 3, 4, 5, 6, 7, 8, 9, 10, 11], by decide, rfl⟩ (qt_rd (rd_load Tryz.underlying3 rfl rfl (by exact ld_blk 0 rfl rfl))) ?_
        refine ga_first 3 (bm 14 15) rfl rfl rfl rfl (by kernel_rfl) (by kernel_rfl) ⟨[0, 2, 3, 4, 5, 6, 7, 8, 9, 10, 11], by decide, rfl⟩ (qt_rd (rd_move rfl)) ?_
        refine ga_first 4 (bm 14 31) rfl rfl rfl rfl (by kernel_rfl) (by kernel_rfl) ⟨[0, 2, 3, 4, 5, 6, 7, 8, 9, 10, 11], by decide, rfl⟩ (qt_rd (rd_fieldAddr rfl (fa_104_1 _))) ?_
        refine ga_first 5 (bm 14 63) rfl rfl rfl rfl (by kernel_rfl) (by kernel_rfl) ⟨[0, 2, 3, 4, 5, 6, 7, 8, 9, 10, 11], by decide, rfl⟩ (qt_rd (rd_load Tryz.underlying3 rfl rfl (by exact ld_blk 0 rfl rfl))) ?_
        refine ga_first 6 (bm 14 127) rfl rfl rfl rfl (by kernel_rfl) (by kernel_rfl) ⟨[0, 2, 3, 4, 5, 6, 7, 8, 9, 10, 11], by decide, rfl⟩ (qt_rd (rd_addE (kn : Int) rfl rfl hkn (by omega) (by omega))) ?_
        refine ga_first 7 (bm 14 255) rfl rfl rfl rfl (by kernel_rfl) (by kernel_rfl) ⟨[0, 2, 3, 4, 5, 6, 7, 8, 9, 10, 11], by decide, rfl⟩ (qt_rd (rd_indexS Tryz.underlying82 ty_84 rfl rfl (by omega) (by omega))) ?_
        refine ga_first 8 (bm 14 511) rfl rfl rfl rfl (by kernel_rfl) (by kernel_rfl) ⟨[0, 2, 3, 4, 5, 6, 7, 8, 9, 10, 11], by decide, rfl⟩ (qt_rd (rd_indexArrN Tryz.underlying84 ty_3 rfl rfl (by omega))) ?_
        refine ga_two 9 11 (bm 14 1023) (bm 14 2559) rfl rfl rfl rfl (by kernel_rfl) (by kernel_rfl) (by kernel_rfl) (.inr ⟨[0, 2, 3, 4, 5, 6, 7, 8, 9, 10, 11], by decide, rfl⟩) ?_ ?_
        · refine (op_rd rfl (rd_load Tryz.underlying3 rfl rfl (ld_row 1 rfl (cntC_get _ (by omega) (by omega)))) ?_)
          refine ga_first 10 (bm 14 2047) rfl rfl rfl rfl (by kernel_rfl) (by kernel_rfl) ⟨[0, 2, 3, 4, 5, 6, 7, 8, 9, 10, 11], by decide, rfl⟩ (qt_rd (by exact rd_addN (b := 1) rfl rfl (by omega))) ?_
          refine ga_only 11 (bm 14 4095) rfl rfl (by kernel_rfl) (by kernel_rfl) (.inr ⟨[0, 2, 3, 4, 5, 6, 7, 8, 9, 10, 11], by decide, rfl⟩) (op_rd rfl (rd_indexS Tryz.underlying82 ty_84 rfl rfl (by omega) (by omega)) ?_)
          refine ga_first 12 (bm 14 8191) rfl rfl rfl rfl (by kernel_rfl) (by kernel_rfl) ⟨[0, 2, 3, 4, 5, 6, 7, 8, 9, 10, 11], by decide, rfl⟩ (qt_rd (rd_indexArrN Tryz.underlying84 ty_3 rfl rfl (by omega))) ?_
          refine ga_only 13 (bm 14 16383) rfl rfl (by kernel_rfl) (by kernel_rfl) (.inr ⟨[0, 2, 3, 4, 5, 6, 7, 8, 9, 10, 11], by decide, rfl⟩) (op_storeRowE 1 ty_3 rfl rfl rfl rfl (by rw [cntC_len]; omega) (cntC_set _ (cntW (cntP s h k) x (bitsOf X) i (j + 1)) (by omega) (by omega) (by have h9 := cntW_yes (b := cntP s h k) hnew (p.rank.toNat, kn); rw [hpip, if_pos rfl] at h9; rw [h9]) (fun q hq => by have h9 := cntW_yes (b := cntP s h k) hnew q; rw [hpip, if_neg (fun e => hq e.symm)] at h9; omega)) (by rfl) ?_)
          refine ga_end (by kernel_rfl) (.inl (by kernel_rfl)) ?_
          refine gx_block <| gx_then <| rc_region <| rl_op (by nofun) (op_rd rfl (by exact rd_addN (b := 1) rfl rfl (by omega)) ?_)
          refine rl_op (by nofun) (op_rd rfl (rd_move rfl) ?_)
          refine rl_nil <| gx_then ?_
          exact gx_cut (j + 1) ⟨by omega, by omega⟩ ⟨rfl, rfl, rfl, rfl, rfl, rfl, trivial⟩ (sub_tail (A := [_, _, _, _, _, _, _, _, _, _, _]) (B := [_, _, _, _, _, _, _, _, _, _, _, _]) (T := (Ds.map markH)) [1, 2, 3, 4, 5, 6, 7, 8, 9, 10, 11] 12 (by decide) (by decide) rfl rfl)
        refine (op_rd rfl (rd_indexS Tryz.underlying82 ty_84 rfl rfl (by omega) (by omega)) ?_)
        refine ga_only 9 (bm 14 3071) rfl rfl (by kernel_rfl) (by kernel_rfl) (.inr ⟨[0, 2, 3, 4, 5, 6, 7, 8, 9, 10, 11], by decide, rfl⟩) (op_rd rfl (rd_load Tryz.underlying3 rfl rfl (ld_row 1 rfl (cntC_get _ (by omega) (by omega)))) ?_)
        refine ga_first 10 (bm 14 4095) rfl rfl rfl rfl (by kernel_rfl) (by kernel_rfl) ⟨[0, 2, 3, 4, 5, 6, 7, 8, 9, 10, 11], by decide, rfl⟩ (qt_rd (by exact rd_addN (b := 1) rfl rfl (by omega))) ?_
        refine ga_first 12 (bm 14 8191) rfl rfl rfl rfl (by kernel_rfl) (by kernel_rfl) ⟨[0, 2, 3, 4, 5, 6, 7, 8, 9, 10, 11], by decide, rfl⟩ (qt_rd (rd_indexArrN Tryz.underlying84 ty_3 rfl rfl (by omega))) ?_
        refine ga_only 13 (bm 14 16383) rfl rfl (by kernel_rfl) (by kernel_rfl) (.inr ⟨[0, 2, 3, 4, 5, 6, 7, 8, 9, 10, 11], by decide, rfl⟩) (op_storeRowE 1 ty_3 rfl rfl rfl rfl (by rw [cntC_len]; omega) (cntC_set _ (cntW (cntP s h k) x (bitsOf X) i (j + 1)) (by omega) (by omega) (by have h9 := cntW_yes (b := cntP s h k) hnew (p.rank.toNat, kn); rw [hpip, if_pos rfl] at h9; rw [h9]) (fun q hq => by have h9 := cntW_yes (b := cntP s h k) hnew q; rw [hpip, if_neg (fun e => hq e.symm)] at h9; omega)) (by rfl) ?_)
        refine ga_end (by kernel_rfl) (.inl (by kernel_rfl)) ?_
        refine gx_block <| gx_then <| rc_region <| rl_op (by nofun) (op_rd rfl (by exact rd_addN (b := 1) rfl rfl (by omega)) ?_)
        refine rl_op (by nofun) (op_rd rfl (rd_move rfl) ?_)
        refine rl_nil <| gx_then ?_
        exact gx_cut (j + 1) ⟨by omega, by omega⟩ ⟨rfl, rfl, rfl, rfl, rfl, rfl, trivial⟩ (sub_tail (A := [_, _, _, _, _, _, _, _, _, _, _]) (B := [_, _, _, _, _, _, _, _, _, _, _, _]) (T := (Ds.map markH)) [1, 2, 3, 4, 5, 6, 7, 8, 9, 10, 11] 12 (by decide) (by decide) rfl rfl)
      have hj9 : j = x.ps.length := by omega
      rw [hj9, cntW_next hpo hi]
      refine rl_nil <| gx_then <| rc_seq <| rc_cond_f rfl <| rc_exit <| gx_then_exit <| gx_then_exit <| gx_block_exit <| gx_scope <| gx_block ?_
      exact rp_normal _ (rfl) (sub_tail (A := [_, _, _, _, _, _, _, _, _, _, _]) (B := [_, _, _, _, _, _, _, _, _, _, _]) (T := (Ds.map markH)) [1, 2, 3, 4, 0, 5, 6, 7, 8, 9, 10] 11 (by decide) (by decide) rfl rfl)
    · intro D L hI
      subst hI
      rw [cntW_all, hnx]
      refine gk_front [_, _, _, _, _, _, _, _, _, _] [_, _, _, _, _, _, _, _, _] (Ds.map markH) [1, 2, 3, 4, 5, 6, 7, 8, 9] 0 10 rfl (x := markH D) rfl rfl (by decide) (by decide) ?_
      refine gx_block <| gx_block <| gx_then <| rc_region <| rl_op (by nofun) (op_rd rfl (by exact rd_addN (b := 1) rfl rfl (by omega)) ?_)
      refine rl_op (by nofun) (op_rd rfl (rd_move rfl) ?_)
      refine rl_nil <| gx_then ?_
      exact gx_cutM ((k + 1, D :: Ds)) ⟨by simp only; omega, by simp only; omega⟩ rfl ⟨rfl, rfl, rfl, rfl, rfl, rfl, trivial⟩ (sub_tail (A := [_, _, _, _, _, _, _]) (B := [_, _, _, _, _, _, _, _, _]) (T := ((D :: Ds).map markH)) [2, 3, 4, 5, 6, 7, 8] 9 (by decide) (by decide) rfl rfl)
    · intro D c i L hi hI
      exact hI.elim
  refine rl_nil <| gx_then <| rc_seq <| rc_cond_f rfl <| rc_exit <| gx_then_exit <| gx_then_exit <| gx_block_exit <| gx_then <| rc_seq <| rc_region <| rl_op (by nofun) (op_rd rfl (rd_load Tryz.underlying82 rfl rfl (by exact ld_blk 1 rfl rfl)) ?_)
  refine rl_op (by nofun) (op_rd rfl (rd_assign rfl) ?_)
  refine rl_nil <| gx_then <| rc_ret ?_
  have hk9 : k = h.ss.length := by omega
  subst hk9
  refine gk_sub (sub_tail (A := [_]) (B := [_, _, _, _, _, _, _]) (T := (Ds.map markH)) [0] 7 (by decide) (by decide) rfl rfl) ?_
  refine gk_sub (sub_rot [_] (Ds.map markH)) <| gx_retM1 Ds (.inl rfl) Tryz.results30 rfl (Sub.refl' _) ?_
  exact ⟨b21, rfl, rfl⟩
end Go.Proofs.YtbjijbbkfgcleaaGreatDoor
namespace Go.Proofs.YtbjijbbkfgcleaaGreatDoor
open Go.Gv
open Go.RowKit
open Go.Sn
open Sx
namespace Sx
theorem rowC_arr (f : Pl → Nat) (r : Nat) {k : Nat} (hk : k < 128) : (rowC f r).toArray[k]? = some (natV (f (r, k))) := by
  rw [List.getElem?_toArray]
  unfold rowC
  rw [List.getElem?_map, range_at hk]; rfl
end Sx
open Sx
set_option maxRecDepth 100000 in
set_option maxHeartbeats 1000000 in
theorem sounds_ok (s : Org) (h : HN) (hle : OrgLe s) (hg : HGood s h) (w0 : World) (hS : OrgIn s w0 []) (hH : HNIn h w0 []) (hT : TabIn w0) : Sp Tryz.prog 26 [s.val, h.val] w0 [] (fun v L => ∃ b13 sets, v = .slice (rowA (some b13)) s.rs.length s.rs.length ∧ L = [.row 87 2 (some b13) s.rs.length s.rs.length (sets.flatMap setC)] ∧ SetU s.rs.length (cntP s h h.ss.length) s.rs.length 0 sets) := by
  have hA := hg.cx
  have hnd : s.ds.length ≤ 6 := hA.nd
  have hkl : h.ks.length = s.ds.length := by have := hA.nk; simpa [cxN] using this
  have hnc := hg.nc
  have hcl : h.cs.length ≤ s.cs.length := asc_len hA.dra hA.drn
  have hnr := hg.nr
  refine spec_enter Tryz.func26 rfl Tryz.ntmps26 rfl (Own.refl _) ?_
  simp only [argEnv]
  refine gc_seq <| gc_region <| gl_op (op_box rfl rfl rfl (fun b2 => ?_))
  refine gl_op (op_box rfl rfl rfl (fun b3 => ?_))
  refine gl_op <| op_rd rfl (rd_assign rfl) <| gl_nil <| gx_then <| gc_seq <| gc_region <| gl_op <| op_rd rfl (rd_fieldAddr rfl (fa_27_1 _)) <| gl_op (op_rd rfl (rd_load Tryz.underlying23 rfl rfl (by exact ld_blk 1 rfl rfl)) ?_)
  refine gl_op <| op_rd rfl (rd_lenSlice Tryz.underlying23 rfl) <| gl_op (op_makeSlice (s.rs.length) Tryz.underlying75 ty_87 rfl rfl rfl (by omega) (by omega) (by omega) (by omega) (fun b13 => ?_))
  refine gl_op <| op_rd rfl (rd_assign rfl) <| gl_nil <| gx_then <| gc_seq <| gc_seq ?_
  rw [made_flat setC 2 _ 0 setC_zero (fun _ => rfl) (by decide)]
  refine gc_region <| gl_op (op_rd rfl (rd_loadAgg Tryz.underlying27 rfl ty_27 rfl (by exact cs_blk 2 (off := 0) (k := 4) rfl rfl) rfl) ?_)
  refine gl_op (op_rd rfl (rd_loadAgg Tryz.underlying31 rfl ty_31 rfl (by exact cs_blk 1 (off := 0) (k := 3) rfl rfl) rfl) ?_)
  refine gl_op (op_call rfl (vf := []) (vc := []) rfl rfl Tryz.call30 (fun w1 ho => count_ok s h hle hg w1 (hS.at ho) (hH.at ho) (hT.at ho (by decide))) ?_)
  rintro _ _ ⟨b16, rfl, rfl⟩
  refine gl_op <| op_rd rfl (rd_lenSlice Tryz.underlying82 rfl) <| gl_op <| op_rd rfl (rd_move rfl) <| gl_nil <| gx_then <| gc_block <| gc_loopF (ι := Nat × List Nat) [(5, _), (16, _), (17, _)] [_, _, _] (fun q => q.1 ≤ s.rs.length ∧ SetU s.rs.length (cntP s h h.ss.length) q.1 0 q.2) (fun q Fr0 => ((18, natV q.1) :: Fr0)) (fun q Fr0 => (.row 87 2 (some b13) s.rs.length s.rs.length (q.2.flatMap setC) :: Fr0)) (fun q => s.rs.length - q.1) (0, List.replicate s.rs.length 0) (⟨Nat.zero_le _, SetU.init _ _⟩) ⟨rfl, rfl, rfl, rfl, trivial⟩ ⟨[1, 0, 2, 3], by decide, rfl⟩ ?_
  rintro ⟨r, sets⟩ ⟨hr, hu⟩
  simp only at hr hu ⊢
  refine gc_seq <| gc_region <| gl_op (op_rd rfl (rd_lss rfl rfl) (gk_dec (fun h19 => ?_) (fun h19 => ?_)))
  · refine gl_nil <| gx_then <| gc_seq <| gc_cond_t rfl <| gc_skip <| gx_then <| gc_seq <| gc_block <| gc_seq <| gc_region <| gl_op <| op_rd rfl (rd_move rfl) <| gl_op (op_rd rfl (rd_indexS Tryz.underlying82 ty_84 rfl rfl (by omega) (by omega)) ?_)
    refine gl_op (op_rd rfl (rd_loadAgg Tryz.underlying84 rfl ty_84 rfl (cs_row 1 (a := some b16) rfl (cntC_row _ (by omega))) rfl) ?_)
    refine gl_op (op_alloc ty_84 rfl rfl (fun b7 => ?_))
    refine gl_op <| op_rd rfl (rd_assign rfl) <| gl_op (op_storeAgg 0 ty_84 rfl rfl rfl rfl rfl rfl (by rfl) ?_)
    refine gl_nil <| gx_then <| gc_seq <| gc_region <| gl_op (op_rd rfl (rd_loadAgg Tryz.underlying84 rfl ty_84 rfl (by exact cs_blk 0 (off := 0) (k := 128) rfl rfl) rfl) ?_)
    refine gl_op <| op_rd rfl (rd_move rfl) <| gl_nil <| gx_then <| gc_block <| gc_loopF (ι := Nat × List Nat) [(5, _), (6, _), (16, _), (17, _), (18, _), (23, _)] [_, _, _, _] (fun q => q.1 ≤ 128 ∧ SetU s.rs.length (cntP s h h.ss.length) r q.1 q.2) (fun q Fr0 => ((24, natV q.1) :: Fr0)) (fun q Fr0 => (.row 87 2 (some b13) s.rs.length s.rs.length (q.2.flatMap setC) :: Fr0)) (fun q => 128 - q.1) (0, sets) (⟨Nat.zero_le _, hu⟩) ⟨rfl, rfl, rfl, rfl, rfl, rfl, rfl, trivial⟩ ⟨[1, 0, 2, 3, 4], by decide, rfl⟩ ?_
    rintro ⟨k, sets2⟩ ⟨hk, hu2⟩
    simp only at hk hu2 ⊢
    refine gc_seq <| gc_region <| gl_op (op_rd rfl (rd_lss rfl rfl) (gk_dec (fun h25 => ?_) (fun h25 => ?_)))
    · refine gl_nil <| gx_then <| gc_seq <| gc_cond_t rfl <| gc_skip <| gx_then <| gc_seq <| gc_block <| gc_seq <| gc_region <| gl_op <| op_rd rfl (rd_move rfl) <| gl_op (op_rd rfl (rd_indexArrV Tryz.underlying84 Tryz.underlying3 ty_3 rfl rfl (by omega) (v := natV ((cntP s h h.ss.length) (r, k))) (rowC_arr _ _ (by omega))) ?_)
      refine gl_op <| op_rd rfl (rd_assign rfl) <| gl_op <| op_rd rfl (rd_assign rfl) <| gl_nil <| gx_then <| gc_seq <| gc_region <| gl_op <| op_rd rfl (rd_move rfl) <| gl_op (op_rd rfl (rd_gtr rfl rfl) (gk_dec (fun h29 => ?_) (fun h29 => ?_)))
      · refine gl_nil <| gx_then <| gc_cond_t rfl <| gc_region <| gl_op <| op_rd rfl (rd_move rfl) <| gl_op <| op_rd rfl (rd_move rfl) <| gl_op (op_rd rfl (by exact rd_indexRow 0 rfl Tryz.underlying75 ty_87 rfl rfl (by omega) (by omega)) ?_)
        refine gl_op <| op_rd rfl (rd_move rfl) <| gl_op (op_callM [0] [1, 2, 3, 4] rfl (vf := []) (vc := []) rfl rfl Tryz.call42 (by decide) rfl (fun w how hc => add_ok sets2 r k b13 s.rs.length s.rs.length hu2.len (by rw [hu2.len]; omega) (by omega) hu2.lt w hc) ?_)
        rintro _ _ ⟨rfl, rfl⟩
        refine gl_nil <| gx_block <| gx_then <| gc_region <| gl_op (op_rd rfl (by exact rd_addN (b := 1) rfl rfl (by omega)) ?_)
        refine gl_op <| op_rd rfl (rd_move rfl) <| gl_nil <| gx_then ?_
        exact gx_cut ((k + 1, addSet sets2 (r, k))) ⟨⟨by simp only; omega, hu2.yes (by omega) (by omega) (by omega)⟩, by simp only; omega⟩ ⟨rfl, rfl, rfl, rfl, rfl, rfl, rfl, trivial⟩ ⟨[0, 1, 2, 3, 4], by decide, rfl⟩
      refine gl_nil <| gx_then <| gc_cond_f rfl <| gc_skip <| gx_block <| gx_then <| gc_region <| gl_op (op_rd rfl (by exact rd_addN (b := 1) rfl rfl (by omega)) ?_)
      refine gl_op <| op_rd rfl (rd_move rfl) <| gl_nil <| gx_then ?_
      exact gx_cut ((k + 1, sets2)) ⟨⟨by simp only; omega, hu2.no (by omega)⟩, by simp only; omega⟩ ⟨rfl, rfl, rfl, rfl, rfl, rfl, rfl, trivial⟩ ⟨[0, 1, 2, 3, 4], by decide, rfl⟩
    have hk9 : k = 128 := by omega
    subst hk9
    refine gl_nil <| gx_then <| gc_seq <| gc_cond_f rfl <| gc_exit <| gx_then_exit <| gx_then_exit <| gx_block_exit <| gx_block <| gx_then <| gc_region <| gl_op (op_rd rfl (by exact rd_addN (b := 1) rfl rfl (by omega)) ?_)
    refine gl_op <| op_rd rfl (rd_move rfl) <| gl_nil <| gx_then ?_
    exact gx_cut ((r + 1, sets2)) ⟨⟨by simp only; omega, hu2.next⟩, by simp only; omega⟩ ⟨rfl, rfl, rfl, rfl, trivial⟩ ⟨[0, 2, 3, 4], by decide, rfl⟩
  refine gl_nil <| gx_then <| gc_seq <| gc_cond_f rfl <| gc_exit <| gx_then_exit <| gx_then_exit <| gx_block_exit <| gx_then <| gc_seq ?_
  have hr9 : r = s.rs.length := by omega
  rw [hr9] at hu
  refine gc_region <| gl_op <| op_rd rfl (rd_move rfl) <| gl_op <| op_rd rfl (rd_assign rfl) <| gl_nil <| gx_then <| gc_ret <| gx_ret1 (.inl rfl) Tryz.results26 rfl [0] (by decide) ?_
  exact ⟨b13, sets, rfl, rfl, hu⟩
set_option maxRecDepth 100000 in
set_option maxHeartbeats 1000000 in
theorem Pipes_ok (s : Org) (h : Hd) (hle : OrgLe s) (hhe : HdLe h) (w0 : World) (hS : OrgIn s w0 []) (hH : HdIn h w0 []) (hT : TabIn w0) : Sp Tryz.prog 9 [s.val, h.val] w0 [] (PipesR 69 s h) := by
  refine spec_enter Tryz.func9 rfl Tryz.ntmps9 rfl (Own.refl _) ?_
  simp only [argEnv]
  refine gc_seq <| gc_region <| gl_op (op_box rfl rfl rfl (fun b2 => ?_))
  refine gl_op (op_box rfl rfl rfl (fun b3 => ?_))
  refine gl_op <| op_rd rfl (rd_assign rfl) <| gl_op <| op_rd rfl (rd_assign rfl) <| gl_nil <| gx_then <| gc_seq <| gc_seq <| gc_region <| gl_op (op_rd rfl (rd_loadAgg Tryz.underlying27 rfl ty_27 rfl (by exact cs_blk 1 (off := 0) (k := 4) rfl rfl) rfl) ?_)
  refine gl_op (op_rd rfl (rd_loadAgg Tryz.underlying31 rfl ty_31 rfl (by exact cs_blk 0 (off := 0) (k := 3) rfl rfl) rfl) ?_)
  refine gl_op (op_call rfl (vf := []) (vc := []) rfl rfl Tryz.call24 (fun w1 ho => Check_ok s h hle hhe w1 (hS.at ho) (hH.at ho)) ?_)
  rintro _ _ ⟨rfl, rfl⟩
  refine gl_op <| op_rd rfl (rd_assign rfl) <| gl_nil <| gx_then <| gc_seq <| gc_region <| gl_op <| op_rd rfl (rd_move rfl) <| gl_op (op_rd rfl (rd_neq rfl rfl) (gk_dec (fun h11 => ?_) (fun h11 => ?_)))
  · refine gl_nil <| gx_then <| gc_cond_t rfl <| gc_seq <| gc_region <| gl_op <| op_rd rfl (rd_move rfl) <| gl_op <| op_rd rfl (rd_assign rfl) <| gl_op <| op_rd rfl (rd_assign rfl) <| gl_nil <| gx_then <| gc_ret <| gx_then_ret <| gx_ret2 (.inl rfl) Tryz.results9 rfl rfl [] (by decide) ?_
    exact .inl ⟨h11, rfl, rfl⟩
  obtain ⟨n, rfl, hg⟩ := good_of (s := s) hhe (by omega)
  have hH := HNIn.of hH
  simp only [HN.hd_val]
  have hA := hg.cx
  have hnd : s.ds.length ≤ 6 := hA.nd
  obtain ⟨e0, he0⟩ : ∃ e0, handErr s n.hd = e0 := ⟨_, rfl⟩
  refine gl_nil <| gx_then <| gc_cond_f rfl <| gc_skip <| gx_then <| gc_seq <| gc_region <| gl_op (op_rd rfl (rd_loadAgg Tryz.underlying27 rfl ty_27 rfl (by exact cs_blk 1 (off := 0) (k := 4) rfl rfl) rfl) ?_)
  refine gl_op (op_rd rfl (rd_loadAgg Tryz.underlying31 rfl ty_31 rfl (by exact cs_blk 0 (off := 0) (k := 3) rfl rfl) rfl) ?_)
  refine gl_op (op_call rfl (vf := []) (vc := []) rfl rfl Tryz.call26 (fun w1 ho => sounds_ok s n hle hg w1 (hS.at ho) (hH.at ho) (hT.at ho (by decide))) ?_)
  rintro _ _ ⟨b15, sets, rfl, rfl, hu⟩
  have hsl := hu.len
  have hnr := hg.nr
  rw [← hsl]
  refine gl_op (op_call rfl (vf := []) (vc := []) rfl rfl Tryz.call25 (fun w1 ho => piped_ok sets (rowA (some b15)) sets.length (by omega) hu.lt w1 (hT.at ho (by decide)) (ho.rowSl 0 rfl)) ?_)
  rintro _ _ ⟨r, c, rfl, rfl⟩
  have hpp : pipesU sets sets.length = soundP s n := by rw [hsl]; exact hu.pipes
  rw [hpp]
  refine gl_op <| op_rd rfl (rd_assign rfl) <| gl_op <| op_rd rfl (rd_assign rfl) <| gl_nil <| gx_then <| gc_ret <| gx_ret2 (.inl rfl) Tryz.results9 rfl rfl [0] (by decide) ?_
  exact .inr ⟨by omega, n, r, c, rfl, hg, rfl, rfl⟩
end Go.Proofs.YtbjijbbkfgcleaaGreatDoor
namespace Go.Proofs.YtbjijbbkfgcleaaGreatDoor
open Go.Gv
open Go.RowKit
open Go.Sn
open Sx
set_option maxRecDepth 100000 in
set_option maxHeartbeats 1000000 in
theorem Plays_ok (x : St) (n : Nat) (r0 p0 : Int) (hl : x.ps.length ≤ 1000) (hpb : ∀ p ∈ x.ps, 0 ≤ p.lo ∧ p.hi ≤ 127 ∧ -96 ≤ p.shift ∧ p.shift ≤ 96) (w0 : World) (hx : OldSl w0 [] x.pa x.ps.length 4 (x.ps.flatMap Pt.cells)) : Sp Tryz.prog 45 [x.val, natV n, .agg #[.int .i64 r0, .int .i64 p0]] w0 [] (RV (.bool (playsZ x n r0 p0))) := by
  refine spec_enter Tryz.func45 rfl Tryz.ntmps45 rfl (Own.refl _) ?_
  simp only [argEnv]
  refine gc_seq <| gc_region <| gl_op (op_box rfl rfl rfl (fun b3 => ?_))
  refine gl_op (op_box rfl rfl rfl (fun b5 => ?_))
  refine gl_op <| op_rd rfl (rd_assign rfl) <| gl_nil <| gx_then <| gc_seq <| gc_seq <| gc_region <| gl_op <| op_rd rfl (rd_assign rfl) <| gl_nil <| gx_then <| gc_block <| gc_loopF (ι := Nat) [(1, _), (3, _), (5, _)] [_, _] (fun k => k ≤ x.ps.length ∧ ∀ j, j < k → plZ (ptA x.ps j) n r0 p0 = false) (fun k Fr0 => ((7, natV k) :: Fr0)) (fun k Fr0 => Fr0) (fun k => x.ps.length - k) 0 (⟨Nat.zero_le _, fun j h => absurd h (Nat.not_lt_zero j)⟩) ⟨rfl, rfl, rfl, rfl, trivial⟩ ⟨[0, 1], by decide, rfl⟩ ?_
  rintro k ⟨hk, hall⟩
  refine gc_seq <| gc_seq <| gc_region <| gl_op <| op_rd rfl (rd_move rfl) <| gl_op <| op_rd rfl (rd_fieldAddr rfl (fa_56_3 _)) <| gl_op (op_rd rfl (rd_load Tryz.underlying54 rfl rfl (by exact ld_blk 1 rfl rfl)) ?_)
  refine gl_op <| op_rd rfl (rd_lenSlice Tryz.underlying54 rfl) <| gl_op (op_rd rfl (rd_lss rfl rfl) (gk_dec (fun h13 => ?_) (fun h13 => ?_)))
  · obtain ⟨p, hp⟩ := get_some (show k < x.ps.length by omega)
    have hpt : ptA x.ps k = p := getD_some hp
    obtain ⟨hb0, hb1, hb2, hb3⟩ := hpb p (List.mem_of_getElem? hp)
    refine gl_nil <| gx_then <| gc_cond_t rfl <| gc_skip <| gx_then <| gc_seq <| gc_block <| gc_seq <| gc_region <| gl_op <| op_rd rfl (rd_fieldAddr rfl (fa_56_3 _)) <| gl_op (op_rd rfl (rd_load Tryz.underlying54 rfl rfl (by exact ld_blk 1 rfl rfl)) ?_)
    refine gl_op <| op_rd rfl (rd_move rfl) <| gl_op (op_rd rfl (rd_indexOld hx Tryz.underlying54 ty_104 rfl rfl (by omega) (by omega)) ?_)
    refine gl_op (op_rd rfl (rd_loadAgg Tryz.underlying104 rfl ty_104 rfl (cs_slN hx (flat_drop_get Pt.cells 4 (fun _ => rfl) hp)) rfl) ?_)
    refine gl_op (op_alloc ty_104 rfl rfl (fun b8 => ?_))
    refine gl_op (op_storeAgg 0 ty_104 rfl rfl rfl rfl rfl rfl (by rfl) ?_)
    refine gl_nil <| gx_then <| gc_seq ?_
    simp only [Pt.cells]
    refine gc_region <| gl_op <| op_rd rfl (rd_fieldAddr rfl (fa_104_0 _)) <| gl_op (op_rd rfl (rd_load Tryz.underlying3 rfl rfl (by exact ld_blk 0 rfl rfl)) ?_)
    refine gl_op <| op_rd rfl (rd_fieldAddr rfl (fa_69_0 _)) <| gl_op (op_rd rfl (rd_load Tryz.underlying3 rfl rfl (by exact ld_blk 1 rfl rfl)) ?_)
    refine gl_op (op_rd rfl (rd_eql rfl rfl) (gk_dec (fun h25 => ?_) (fun h25 => ?_)))
    · refine gl_op <| op_rd rfl (rd_move rfl) <| gl_yes rfl rfl <| op_rd rfl (rd_move rfl) <| gl_yes rfl rfl <| op_rd rfl (rd_fieldAddr rfl (fa_104_2 _)) <| gl_yes rfl rfl (op_rd rfl (rd_load Tryz.underlying3 rfl rfl (by exact ld_blk 0 rfl rfl)) ?_)
      refine gl_yes rfl rfl (op_rd rfl (rd_geq rfl rfl) (gk_dec (fun h30 => ?_) (fun h30 => ?_)))
      · refine gl_op <| op_rd rfl (rd_pick_t rfl rfl) <| gl_op <| op_rd rfl (rd_move rfl) <| gl_yes rfl rfl <| op_rd rfl (rd_move rfl) <| gl_yes rfl rfl <| op_rd rfl (rd_fieldAddr rfl (fa_104_3 _)) <| gl_yes rfl rfl (op_rd rfl (rd_load Tryz.underlying3 rfl rfl (by exact ld_blk 0 rfl rfl)) ?_)
        refine gl_yes rfl rfl (op_rd rfl (rd_leq rfl rfl) (gk_dec (fun h36 => ?_) (fun h36 => ?_)))
        · refine gl_op <| op_rd rfl (rd_pick_t rfl rfl) <| gl_op <| op_rd rfl (rd_move rfl) <| gl_yes rfl rfl <| op_rd rfl (rd_move rfl) <| gl_yes rfl rfl <| op_rd rfl (rd_fieldAddr rfl (fa_104_1 _)) <| gl_yes rfl rfl (op_rd rfl (rd_load Tryz.underlying3 rfl rfl (by exact ld_blk 0 rfl rfl)) ?_)
          refine gl_yes rfl rfl (op_rd rfl (rd_add rfl rfl (by omega) (by omega)) ?_)
          refine gl_yes rfl rfl <| op_rd rfl (rd_fieldAddr rfl (fa_69_1 _)) <| gl_yes rfl rfl (op_rd rfl (rd_load Tryz.underlying3 rfl rfl (by exact ld_blk 1 rfl rfl)) ?_)
          refine gl_yes rfl rfl (op_rd rfl (rd_eql rfl rfl) (gk_dec (fun h45 => ?_) (fun h45 => ?_)))
          · have hyes : plZ p n r0 p0 = true := by unfold plZ; simp only [Bool.and_eq_true, decide_eq_true_eq]; omega
            refine gl_op <| op_rd rfl (rd_pick_t rfl rfl) <| gl_nil <| gx_then <| gc_cond_t rfl <| gc_seq <| gc_region <| gl_op <| op_rd rfl (rd_assign rfl) <| gl_nil <| gx_then <| gc_ret <| gx_block_ret <| gx_then_ret <| gx_then_ret <| gx_block_ret <| gx_then_ret <| gx_ret1 (.inl rfl) Tryz.results45 rfl [] (by decide) ?_
            refine ⟨congrArg Value.bool (Eq.symm ?_), rfl⟩
            exact playsZ_t hp hyes
          have hno : plZ (ptA x.ps k) n r0 p0 = false := by rw [hpt]; unfold plZ; simp only [Bool.and_eq_false_iff, decide_eq_false_iff_not]; omega
          refine gl_op <| op_rd rfl (rd_pick_t rfl rfl) <| gl_nil <| gx_then <| gc_cond_f rfl <| gc_skip <| gx_block <| gx_then <| gc_region <| gl_op <| op_rd rfl (rd_move rfl) <| gl_op (op_rd rfl (by exact rd_addN (b := 1) rfl rfl (by omega)) ?_)
          refine gl_op <| op_rd rfl (rd_assign rfl) <| gl_nil <| gx_then ?_
          exact gx_cut (k + 1) ⟨⟨by omega, all_snocZ hall hno⟩, by omega⟩ ⟨rfl, rfl, rfl, rfl, trivial⟩ ⟨[1, 2], by decide, rfl⟩
        have hno : plZ (ptA x.ps k) n r0 p0 = false := by rw [hpt]; unfold plZ; simp only [Bool.and_eq_false_iff, decide_eq_false_iff_not]; omega
        refine gl_op <| op_rd rfl (rd_pick_t rfl rfl) <| gl_op <| op_rd rfl (rd_move rfl) <| gl_no rfl rfl rfl <| gl_no rfl rfl rfl <| gl_no rfl rfl rfl <| gl_no rfl rfl rfl <| gl_no rfl rfl rfl <| gl_no rfl rfl rfl <| gl_no rfl rfl rfl <| gl_op <| op_rd rfl (rd_pick_f rfl rfl) <| gl_nil <| gx_then <| gc_cond_f rfl <| gc_skip <| gx_block <| gx_then <| gc_region <| gl_op <| op_rd rfl (rd_move rfl) <| gl_op (op_rd rfl (by exact rd_addN (b := 1) rfl rfl (by omega)) ?_)
        refine gl_op <| op_rd rfl (rd_assign rfl) <| gl_nil <| gx_then ?_
        exact gx_cut (k + 1) ⟨⟨by omega, all_snocZ hall hno⟩, by omega⟩ ⟨rfl, rfl, rfl, rfl, trivial⟩ ⟨[1, 2], by decide, rfl⟩
      have hno : plZ (ptA x.ps k) n r0 p0 = false := by rw [hpt]; unfold plZ; simp only [Bool.and_eq_false_iff, decide_eq_false_iff_not]; omega
      refine gl_op <| op_rd rfl (rd_pick_t rfl rfl) <| gl_op <| op_rd rfl (rd_move rfl) <| gl_no rfl rfl rfl <| gl_no rfl rfl rfl <| gl_no rfl rfl rfl <| gl_no rfl rfl rfl <| gl_op <| op_rd rfl (rd_pick_f rfl rfl) <| gl_op <| op_rd rfl (rd_move rfl) <| gl_no rfl rfl rfl <| gl_no rfl rfl rfl <| gl_no rfl rfl rfl <| gl_no rfl rfl rfl <| gl_no rfl rfl rfl <| gl_no rfl rfl rfl <| gl_no rfl rfl rfl <| gl_op <| op_rd rfl (rd_pick_f rfl rfl) <| gl_nil <| gx_then <| gc_cond_f rfl <| gc_skip <| gx_block <| gx_then <| gc_region <| gl_op <| op_rd rfl (rd_move rfl) <| gl_op (op_rd rfl (by exact rd_addN (b := 1) rfl rfl (by omega)) ?_)
      refine gl_op <| op_rd rfl (rd_assign rfl) <| gl_nil <| gx_then ?_
      exact gx_cut (k + 1) ⟨⟨by omega, all_snocZ hall hno⟩, by omega⟩ ⟨rfl, rfl, rfl, rfl, trivial⟩ ⟨[1, 2], by decide, rfl⟩
    have hno : plZ (ptA x.ps k) n r0 p0 = false := by rw [hpt]; unfold plZ; simp only [Bool.and_eq_false_iff, decide_eq_false_iff_not]; omega
    refine gl_op <| op_rd rfl (rd_move rfl) <| gl_no rfl rfl rfl <| gl_no rfl rfl rfl <| gl_no rfl rfl rfl <| gl_no rfl rfl rfl <| gl_op <| op_rd rfl (rd_pick_f rfl rfl) <| gl_op <| op_rd rfl (rd_move rfl) <| gl_no rfl rfl rfl <| gl_no rfl rfl rfl <| gl_no rfl rfl rfl <| gl_no rfl rfl rfl <| gl_op <| op_rd rfl (rd_pick_f rfl rfl) <| gl_op <| op_rd rfl (rd_move rfl) <| gl_no rfl rfl rfl <| gl_no rfl rfl rfl <| gl_no rfl rfl rfl <| gl_no rfl rfl rfl <| gl_no rfl rfl rfl <| gl_no rfl rfl rfl <| gl_no rfl rfl rfl <| gl_op <| op_rd rfl (rd_pick_f rfl rfl) <| gl_nil <| gx_then <| gc_cond_f rfl <| gc_skip ?_
    refine gx_block <| gx_then <| gc_region <| gl_op <| op_rd rfl (rd_move rfl) <| gl_op (op_rd rfl (by exact rd_addN (b := 1) rfl rfl (by omega)) ?_)
    refine gl_op <| op_rd rfl (rd_assign rfl) <| gl_nil <| gx_then ?_
    exact gx_cut (k + 1) ⟨⟨by omega, all_snocZ hall hno⟩, by omega⟩ ⟨rfl, rfl, rfl, rfl, trivial⟩ ⟨[1, 2], by decide, rfl⟩
  refine gl_nil <| gx_then <| gc_cond_f rfl <| gc_exit <| gx_then_exit <| gx_then_exit <| gx_block_exit <| gx_then <| gc_seq <| gc_region <| gl_op <| op_rd rfl (rd_assign rfl) <| gl_nil <| gx_then <| gc_ret <| gx_ret1 (.inl rfl) Tryz.results45 rfl [] (by decide) ?_
  refine ⟨congrArg Value.bool (Eq.symm ?_), rfl⟩
  exact playsZ_f fun j hj => hall j (by omega)
set_option maxRecDepth 100000 in
set_option maxHeartbeats 1000000 in
theorem why1_ok (p : Pt) (n : Nat) (r0 p0 : Int) (hb0 : 0 ≤ p.lo) (hb1 : p.hi ≤ 127) (hb2 : -96 ≤ p.shift) (hb3 : p.shift ≤ 96) (bp bn : Nat) (w0 : World) (hbp : OldSl w0 [] (some ⟨bp, 0, none⟩) 2 1 [.int .i64 r0, .int .i64 p0]) (hbn : OldSl w0 [] (some ⟨bn, 0, none⟩) 1 1 [natV n]) : Sp Tryz.prog 38 [p.val, .pointer (some ⟨bp, 0, none⟩), .pointer (some ⟨bn, 0, none⟩)] w0 [] (RV (.bool (plZ p n r0 p0))) := by
  refine spec_enter Tryz.func38 rfl Tryz.ntmps38 rfl (Own.refl _) ?_
  simp only [argEnv]
  refine gc_seq <| gc_region <| gl_op (op_box rfl rfl rfl (fun b3 => ?_))
  refine gl_op <| op_rd rfl (rd_assign rfl) <| gl_nil <| gx_then <| gc_seq <| gc_region <| gl_op <| op_rd rfl (rd_fieldAddr rfl (fa_104_0 _)) <| gl_op (op_rd rfl (rd_load Tryz.underlying3 rfl rfl (by exact ld_blk 0 rfl rfl)) ?_)
  refine gl_op <| op_rd rfl (rd_fieldAddr rfl (fa_69_0 _)) <| gl_op <| op_rd rfl (rd_load Tryz.underlying3 rfl rfl (ld_sl hbp rfl)) <| gl_op (op_rd rfl (rd_eql rfl rfl) (gk_dec (fun h9 => ?_) (fun h9 => ?_)))
  · refine gl_op <| op_rd rfl (rd_move rfl) <| gl_yes rfl rfl <| op_rd rfl (rd_load Tryz.underlying3 rfl rfl (ld_sl (off := 0) hbn rfl)) <| gl_yes rfl rfl <| op_rd rfl (rd_fieldAddr rfl (fa_104_2 _)) <| gl_yes rfl rfl (op_rd rfl (rd_load Tryz.underlying3 rfl rfl (by exact ld_blk 0 rfl rfl)) ?_)
    refine gl_yes rfl rfl (op_rd rfl (rd_geq rfl rfl) (gk_dec (fun h14 => ?_) (fun h14 => ?_)))
    · refine gl_op <| op_rd rfl (rd_pick_t rfl rfl) <| gl_op <| op_rd rfl (rd_move rfl) <| gl_yes rfl rfl <| op_rd rfl (rd_load Tryz.underlying3 rfl rfl (ld_sl (off := 0) hbn rfl)) <| gl_yes rfl rfl <| op_rd rfl (rd_fieldAddr rfl (fa_104_3 _)) <| gl_yes rfl rfl (op_rd rfl (rd_load Tryz.underlying3 rfl rfl (by exact ld_blk 0 rfl rfl)) ?_)
      refine gl_yes rfl rfl (op_rd rfl (rd_leq rfl rfl) (gk_dec (fun h20 => ?_) (fun h20 => ?_)))
      · refine gl_op <| op_rd rfl (rd_pick_t rfl rfl) <| gl_op <| op_rd rfl (rd_move rfl) <| gl_yes rfl rfl <| op_rd rfl (rd_load Tryz.underlying3 rfl rfl (ld_sl (off := 0) hbn rfl)) <| gl_yes rfl rfl <| op_rd rfl (rd_fieldAddr rfl (fa_104_1 _)) <| gl_yes rfl rfl (op_rd rfl (rd_load Tryz.underlying3 rfl rfl (by exact ld_blk 0 rfl rfl)) ?_)
        refine gl_yes rfl rfl (op_rd rfl (rd_add rfl rfl (by omega) (by omega)) ?_)
        refine gl_yes rfl rfl <| op_rd rfl (rd_fieldAddr rfl (fa_69_1 _)) <| gl_yes rfl rfl <| op_rd rfl (rd_load Tryz.underlying3 rfl rfl (ld_sl hbp rfl)) <| gl_yes rfl rfl (op_rd rfl (rd_eql rfl rfl) (gk_dec (fun h29 => ?_) (fun h29 => ?_)))
        · have hyes : plZ p n r0 p0 = true := by unfold plZ; simp only [Bool.and_eq_true, decide_eq_true_eq]; omega
          refine gl_op <| op_rd rfl (rd_pick_t rfl rfl) <| gl_op <| op_rd rfl (rd_assign rfl) <| gl_nil <| gx_then <| gc_ret <| gx_ret1 (.inl rfl) Tryz.results38 rfl [] (by decide) ?_
          exact ⟨congrArg Value.bool (Eq.symm hyes), rfl⟩
        have hno : plZ p n r0 p0 = false := by unfold plZ; simp only [Bool.and_eq_false_iff, decide_eq_false_iff_not]; omega
        refine gl_op <| op_rd rfl (rd_pick_t rfl rfl) <| gl_op <| op_rd rfl (rd_assign rfl) <| gl_nil <| gx_then <| gc_ret <| gx_ret1 (.inl rfl) Tryz.results38 rfl [] (by decide) ?_
        exact ⟨congrArg Value.bool (Eq.symm hno), rfl⟩
      have hno : plZ p n r0 p0 = false := by unfold plZ; simp only [Bool.and_eq_false_iff, decide_eq_false_iff_not]; omega
      refine gl_op <| op_rd rfl (rd_pick_t rfl rfl) <| gl_op <| op_rd rfl (rd_move rfl) <| gl_no rfl rfl rfl <| gl_no rfl rfl rfl <| gl_no rfl rfl rfl <| gl_no rfl rfl rfl <| gl_no rfl rfl rfl <| gl_no rfl rfl rfl <| gl_no rfl rfl rfl <| gl_op <| op_rd rfl (rd_pick_f rfl rfl) <| gl_op <| op_rd rfl (rd_assign rfl) <| gl_nil <| gx_then <| gc_ret <| gx_ret1 (.inl rfl) Tryz.results38 rfl [] (by decide) ?_
      exact ⟨congrArg Value.bool (Eq.symm hno), rfl⟩
    have hno : plZ p n r0 p0 = false := by unfold plZ; simp only [Bool.and_eq_false_iff, decide_eq_false_iff_not]; omega
    refine gl_op <| op_rd rfl (rd_pick_t rfl rfl) <| gl_op <| op_rd rfl (rd_move rfl) <| gl_no rfl rfl rfl <| gl_no rfl rfl rfl <| gl_no rfl rfl rfl <| gl_no rfl rfl rfl <| gl_op <| op_rd rfl (rd_pick_f rfl rfl) <| gl_op <| op_rd rfl (rd_move rfl) <| gl_no rfl rfl rfl <| gl_no rfl rfl rfl <| gl_no rfl rfl rfl <| gl_no rfl rfl rfl <| gl_no rfl rfl rfl <| gl_no rfl rfl rfl <| gl_no rfl rfl rfl <| gl_op <| op_rd rfl (rd_pick_f rfl rfl) <| gl_op <| op_rd rfl (rd_assign rfl) <| gl_nil <| gx_then <| gc_ret <| gx_ret1 (.inl rfl) Tryz.results38 rfl [] (by decide) ?_
    exact ⟨congrArg Value.bool (Eq.symm hno), rfl⟩
  have hno : plZ p n r0 p0 = false := by unfold plZ; simp only [Bool.and_eq_false_iff, decide_eq_false_iff_not]; omega
  refine gl_op <| op_rd rfl (rd_move rfl) <| gl_no rfl rfl rfl <| gl_no rfl rfl rfl <| gl_no rfl rfl rfl <| gl_no rfl rfl rfl <| gl_op <| op_rd rfl (rd_pick_f rfl rfl) <| gl_op <| op_rd rfl (rd_move rfl) <| gl_no rfl rfl rfl <| gl_no rfl rfl rfl <| gl_no rfl rfl rfl <| gl_no rfl rfl rfl <| gl_op <| op_rd rfl (rd_pick_f rfl rfl) <| gl_op <| op_rd rfl (rd_move rfl) <| gl_no rfl rfl rfl <| gl_no rfl rfl rfl <| gl_no rfl rfl rfl <| gl_no rfl rfl rfl <| gl_no rfl rfl rfl <| gl_no rfl rfl rfl <| gl_no rfl rfl rfl <| gl_op <| op_rd rfl (rd_pick_f rfl rfl) <| gl_op <| op_rd rfl (rd_assign rfl) <| gl_nil <| gx_then <| gc_ret ?_
  refine gx_ret1 (.inl rfl) Tryz.results38 rfl [] (by decide) ?_
  exact ⟨congrArg Value.bool (Eq.symm hno), rfl⟩
set_option maxRecDepth 100000 in
set_option maxHeartbeats 1000000 in
theorem indexPt_ok (x : St) (n : Nat) (r0 p0 : Int) (hl : x.ps.length ≤ 1000) (hpb : ∀ p ∈ x.ps, 0 ≤ p.lo ∧ p.hi ≤ 127 ∧ -96 ≤ p.shift ∧ p.shift ≤ 96) (bp bn : Nat) (w0 : World) (hx : OldSl w0 [] x.pa x.ps.length 4 (x.ps.flatMap Pt.cells)) (hbp : OldSl w0 [] (some ⟨bp, 0, none⟩) 2 1 [.int .i64 r0, .int .i64 p0]) (hbn : OldSl w0 [] (some ⟨bn, 0, none⟩) 1 1 [natV n]) : Sp Tryz.prog 62 [.slice x.pa x.ps.length x.pc, .func (.func 38) #[] #[.pointer (some ⟨bp, 0, none⟩), .pointer (some ⟨bn, 0, none⟩)]] w0 [] (fun v L => ∃ r : Int, v = .int .i64 r ∧ L = [] ∧ (0 ≤ r ↔ playsZ x n r0 p0 = true)) := by
  refine spec_enter Tryz.func62 rfl Tryz.ntmps62 rfl (Own.refl _) ?_
  simp only [argEnv]
  refine gc_seq <| gc_region <| gl_op <| op_rd rfl (rd_assign rfl) <| gl_nil <| gx_then <| gc_seq <| gc_seq <| gc_region <| gl_op <| op_rd rfl (rd_move rfl) <| gl_op <| op_rd rfl (rd_lenSlice Tryz.underlying54 rfl) <| gl_op <| op_rd rfl (rd_move rfl) <| gl_nil <| gx_then <| gc_block <| gc_loopF (ι := Nat) [(0, _), (1, _), (7, _)] [] (fun k => k ≤ x.ps.length ∧ ∀ j, j < k → plZ (ptA x.ps j) n r0 p0 = false) (fun k Fr0 => ((8, natV k) :: Fr0)) (fun k Fr0 => Fr0) (fun k => x.ps.length - k) 0 (⟨Nat.zero_le _, fun j h => absurd h (Nat.not_lt_zero j)⟩) ⟨rfl, rfl, rfl, rfl, trivial⟩ ⟨[], by decide, rfl⟩ ?_
  rintro k ⟨hk, hall⟩
  refine gc_seq <| gc_region <| gl_op (op_rd rfl (rd_lss rfl rfl) (gk_dec (fun h9 => ?_) (fun h9 => ?_)))
  · obtain ⟨p, hp⟩ := get_some (show k < x.ps.length by omega)
    have hpt : ptA x.ps k = p := getD_some hp
    obtain ⟨hb0, hb1, hb2, hb3⟩ := hpb p (List.mem_of_getElem? hp)
    refine gl_nil <| gx_then <| gc_seq <| gc_cond_t rfl <| gc_skip <| gx_then <| gc_seq <| gc_block <| gc_seq <| gc_region <| gl_op <| op_rd rfl (rd_move rfl) <| gl_op <| op_rd rfl (rd_assign rfl) <| gl_nil <| gx_then <| gc_seq <| gc_region <| gl_op <| op_rd rfl (rd_move rfl) <| gl_op <| op_rd rfl (rd_move rfl) <| gl_op <| op_rd rfl (rd_move rfl) <| gl_op (op_rd rfl (rd_indexOld hx Tryz.underlying54 ty_104 rfl rfl (by omega) (by omega)) ?_)
    refine gl_op (op_rd rfl (rd_loadAgg Tryz.underlying104 rfl ty_104 rfl (cs_slN hx (flat_drop_get Pt.cells 4 (fun _ => rfl) hp)) rfl) ?_)
    simp only [Pt.cells]
    refine gl_op (op_call rfl (vf := []) (vc := [.pointer (some ⟨bp, 0, none⟩), .pointer (some ⟨bn, 0, none⟩)]) rfl rfl Tryz.call38 (fun w1 ho => why1_ok p n r0 p0 hb0 hb1 hb2 hb3 bp bn w1 (hbp.at ho) (hbn.at ho)) ?_)
    rintro _ _ ⟨rfl, rfl⟩
    refine gk_bool (fun hh => ?_) (fun hh => ?_)
    · refine gl_nil <| gx_then <| gc_cond_t rfl <| gc_seq <| gc_region <| gl_op <| op_rd rfl (rd_move rfl) <| gl_op <| op_rd rfl (rd_assign rfl) <| gl_nil <| gx_then <| gc_ret <| gx_block_ret <| gx_then_ret <| gx_then_ret <| gx_block_ret <| gx_then_ret <| gx_ret1 (.inl rfl) Tryz.results62 rfl [] (by decide) ?_
      exact ⟨_, rfl, rfl, ⟨fun _ => playsZ_t hp hh, fun _ => by omega⟩⟩
    have hno : plZ (ptA x.ps k) n r0 p0 = false := by rw [hpt]; exact hh
    refine gl_nil <| gx_then <| gc_cond_f rfl <| gc_skip <| gx_block <| gx_then <| gc_region <| gl_op (op_rd rfl (by exact rd_addN (b := 1) rfl rfl (by omega)) ?_)
    refine gl_op <| op_rd rfl (rd_move rfl) <| gl_nil <| gx_then ?_
    exact gx_cut (k + 1) ⟨⟨by omega, all_snocZ hall hno⟩, by omega⟩ ⟨rfl, rfl, rfl, rfl, trivial⟩ ⟨[], by decide, rfl⟩
  refine gl_nil <| gx_then <| gc_seq <| gc_cond_f rfl <| gc_exit <| gx_then_exit <| gx_then_exit <| gx_block_exit <| gx_then <| gc_seq <| gc_region <| gl_op <| op_rd rfl (rd_assign rfl) <| gl_nil <| gx_then <| gc_ret <| gx_ret1 (.inl rfl) Tryz.results62 rfl [] (by decide) ?_
  refine ⟨_, rfl, rfl, ⟨fun h => by omega, fun h => ?_⟩⟩
  rw [playsZ_f fun j hj => hall j (by omega)] at h; cases h
set_option maxRecDepth 100000 in
set_option maxHeartbeats 1000000 in
theorem containsPt_ok (x : St) (n : Nat) (r0 p0 : Int) (hl : x.ps.length ≤ 1000) (hpb : ∀ p ∈ x.ps, 0 ≤ p.lo ∧ p.hi ≤ 127 ∧ -96 ≤ p.shift ∧ p.shift ≤ 96) (bp bn : Nat) (w0 : World) (hx : OldSl w0 [] x.pa x.ps.length 4 (x.ps.flatMap Pt.cells)) (hbp : OldSl w0 [] (some ⟨bp, 0, none⟩) 2 1 [.int .i64 r0, .int .i64 p0]) (hbn : OldSl w0 [] (some ⟨bn, 0, none⟩) 1 1 [natV n]) : Sp Tryz.prog 37 [.slice x.pa x.ps.length x.pc, .func (.func 38) #[] #[.pointer (some ⟨bp, 0, none⟩), .pointer (some ⟨bn, 0, none⟩)]] w0 [] (RV (.bool (playsZ x n r0 p0))) := by
  refine spec_enter Tryz.func37 rfl Tryz.ntmps37 rfl (Own.refl _) ?_
  simp only [argEnv]
  refine gc_seq <| gc_region <| gl_op <| op_rd rfl (rd_assign rfl) <| gl_nil <| gx_then <| gc_seq <| gc_region <| gl_op <| op_rd rfl (rd_move rfl) <| gl_op <| op_rd rfl (rd_move rfl) <| gl_op (op_call rfl (vf := []) (vc := []) rfl rfl Tryz.call62 (fun w1 ho => indexPt_ok x n r0 p0 hl hpb bp bn w1 (hx.at ho) (hbp.at ho) (hbn.at ho)) ?_)
  rintro _ _ ⟨r, rfl, rfl, hr⟩
  refine gl_op <| op_rd rfl (rd_geq rfl rfl) <| gl_op <| op_rd rfl (rd_assign rfl) <| gl_nil <| gx_then <| gc_ret <| gx_ret1 (.inl rfl) Tryz.results37 rfl [] (by decide) ?_
  refine ⟨congrArg Value.bool ?_, rfl⟩
  rw [Bool.eq_iff_iff, ← hr]; simp
end Go.Proofs.YtbjijbbkfgcleaaGreatDoor
namespace Go.Proofs.YtbjijbbkfgcleaaGreatDoor
open Go.Gv
open Go.RowKit
open Go.Sn
open Sx
namespace Sx
theorem rd_lookupAct {dm : List Deferred} {P : Program} {n : Nat} {e : Env} {w0 : World} {S : List Nat} {l : List HL} {dst : Option Tmp} {ty : TypeId} {pos : String} {aft : Array Edge} {gd : Option (Nat × Bool)} (j : Nat) {t kt et : TypeId} {x y : Operand} {z : Value} {bb : Nat} {tb : List En} {q : Pl} {en : En} {size bytes : Nat} {f g : Field} {q1 q2 : IntKind} (he : findEn tb q = some en) (hj : l[j]? = some (.obj bb (actO tb))) (hu : P.underlying t = some (.map kt et)) (hk : I2 P kt f g q1 q2) (ht : TyF P et z size bytes) (hx : e.ev x = some (.map (some bb))) (hy : e.ev y = some (kv2 q.1 q.2)) :
    Rd P dm n e w0 S l ⟨dst, .lookup t x y false, ty, pos, aft, gd⟩ (.agg #[.int .i64 en.i, natV en.p.1, natV en.p.2]) := by
  have h := rd_lookupP (dm := dm) (n := n) (w0 := w0) (S := S) (dst := dst) (ty := ty) (pos := pos) (aft := aft) (gd := gd) j stpV (m := mpOf tb 0) (nb := tb.length) hj hu hk ht hx hy
  rw [mpOf_get, he] at h
  exact h
end Sx
open Sx
set_option maxRecDepth 100000 in
set_option maxHeartbeats 1000000 in
theorem Reverse_ok (xs : List Nat) (r : Option Nat) (c : Nat) (hl : xs.length ≤ 1000000) (S : List Nat) (w0 : World) (hown : Own w0 S w0 [.row 3 1 r xs.length c (xs.map natV)]) : Sp Tryz.prog 63 [.slice (rowA r) xs.length c] w0 S (fun v L => v = .tuple #[] ∧ L = [.row 3 1 r xs.length c (xs.reverse.map natV)]) := by
  obtain ⟨g, hrg⟩ : ∃ g, xs.length ≠ 0 → r = some g := by
    cases r with
    | none => exact ⟨0, fun h => absurd (hown.holds _ (List.mem_singleton.2 rfl)).2.1 h⟩
    | some g => exact ⟨g, fun _ => rfl⟩
  refine spec_enter Tryz.func63 rfl Tryz.ntmps63 rfl hown ?_
  simp only [argEnv]
  refine gc_seq <| gc_region <| gl_op <| op_rd rfl (rd_move rfl) <| gl_op <| op_rd rfl (rd_lenSlice Tryz.underlying29 rfl) <| gl_op (op_rd rfl (by exact rd_sub rfl rfl (by omega) (by omega)) ?_)
  refine gl_op <| op_rd rfl (rd_assign rfl) <| gl_op <| op_rd rfl (rd_assign rfl) <| gl_nil <| gx_then <| gc_block ?_
  rw [show (xs.length : Int) - 1 = (xs.length : Int) - 1 - ((0 : Nat) : Int) by omega]
  refine gc_loopF (ι := Nat × List Nat) [(0, _)] [] (fun q => 2 * q.1 ≤ xs.length + 1 ∧ Turned xs q.2 q.1) (fun q Fr0 => ((2, natV q.1) :: (3, .int .i64 ((xs.length : Int) - 1 - q.1)) :: Fr0)) (fun q Fr0 => (.row 3 1 r xs.length c (q.2.map natV) :: Fr0)) (fun q => xs.length + 1 - q.1) (0, xs) (⟨by simp only; omega, Turned.init xs⟩) ⟨rfl, rfl, rfl, trivial⟩ ⟨[0], by decide, rfl⟩ ?_
  rintro ⟨i, ys⟩ ⟨hi, ht⟩
  simp only at hi ht ⊢
  have hyl := ht.len
  refine gc_seq <| gc_seq <| gc_region <| gl_op <| op_rd rfl (rd_move rfl) <| gl_op <| op_rd rfl (rd_move rfl) <| gl_op (op_rd rfl (rd_lss rfl rfl) (gk_dec (fun h9 => ?_) (fun h9 => ?_)))
  · have hr9 := hrg (by omega)
    subst hr9
    obtain ⟨u, hu⟩ := get_some (show xs.length - 1 - i < ys.length by omega)
    obtain ⟨v, hv⟩ := get_some (show i < ys.length by omega)
    have hj9 : (xs.length : Int) - 1 - i = ((xs.length - 1 - i : Nat) : Int) := by omega
    rw [hj9]
    refine gl_nil <| gx_then <| gc_cond_t rfl <| gc_skip <| gx_then <| gc_seq <| gc_block <| gc_drawP [] false 15 rfl <| ga_first 0 (bm 16 1) rfl rfl rfl rfl (by kernel_rfl) (by kernel_rfl) ⟨[], by decide, rfl⟩ (qt_rd (rd_move rfl)) ?_
    refine ga_first 1 (bm 16 3) rfl rfl rfl rfl (by kernel_rfl) (by kernel_rfl) ⟨[], by decide, rfl⟩ (qt_rd (rd_move rfl)) ?_
    refine ga_first 2 (bm 16 7) rfl rfl rfl rfl (by kernel_rfl) (by kernel_rfl) ⟨[], by decide, rfl⟩ (qt_rd (rd_move rfl)) ?_
    refine ga_first 3 (bm 16 15) rfl rfl rfl rfl (by kernel_rfl) (by kernel_rfl) ⟨[], by decide, rfl⟩ (qt_rd (rd_move rfl)) ?_
    refine ga_first 4 (bm 16 31) rfl rfl rfl rfl (by kernel_rfl) (by kernel_rfl) ⟨[], by decide, rfl⟩ (qt_rd (rd_move rfl)) ?_
    refine ga_first 5 (bm 16 63) rfl rfl rfl rfl (by kernel_rfl) (by kernel_rfl) ⟨[], by decide, rfl⟩ (qt_rd (rd_move rfl)) ?_
    refine ga_first 6 (bm 16 127) rfl rfl rfl rfl (by kernel_rfl) (by kernel_rfl) ⟨[], by decide, rfl⟩ (qt_rd (rd_indexS1 Tryz.underlying29 ty_3 rfl rfl (by omega))) ?_
    refine ga_first 8 (bm 16 383) rfl rfl rfl rfl (by kernel_rfl) (by kernel_rfl) ⟨[], by decide, rfl⟩ (qt_rd (rd_move rfl)) ?_
    refine ga_first 9 (bm 16 895) rfl rfl rfl rfl (by kernel_rfl) (by kernel_rfl) ⟨[], by decide, rfl⟩ (qt_rd (rd_move rfl)) ?_
    refine ga_first 10 (bm 16 1919) rfl rfl rfl rfl (by kernel_rfl) (by kernel_rfl) ⟨[], by decide, rfl⟩ (qt_rd (rd_indexS1 Tryz.underlying29 ty_3 rfl rfl (by omega))) ?_
    refine ga_two 7 11 (bm 16 2047) (bm 16 3967) rfl rfl rfl rfl (by kernel_rfl) (by kernel_rfl) (by kernel_rfl) (.inr ⟨[], by decide, rfl⟩) ?_ ?_
    · refine (op_rd rfl (rd_load Tryz.underlying3 rfl rfl (ld_rowN 0 rfl (by rw [List.getElem?_map, hu]; rfl))) ?_)
      refine ga_only 11 (bm 16 4095) rfl rfl (by kernel_rfl) (by kernel_rfl) (.inr ⟨[], by decide, rfl⟩) (op_rd rfl (rd_load Tryz.underlying3 rfl rfl (ld_rowN 0 rfl (by rw [List.getElem?_map, hv]; rfl))) ?_)
      refine ga_first 12 (bm 16 8191) rfl rfl rfl rfl (by kernel_rfl) (by kernel_rfl) ⟨[], by decide, rfl⟩ (qt_rd (rd_indexS1 Tryz.underlying29 ty_3 rfl rfl (by omega))) ?_
      refine ga_only 13 (bm 16 16383) rfl rfl (by kernel_rfl) (by kernel_rfl) (.inr ⟨[], by decide, rfl⟩) (op_storeRowE 0 ty_3 rfl rfl rfl rfl (by rw [List.length_map]; omega) (by rw [← List.map_set]) (by rfl) ?_)
      refine ga_first 14 (bm 16 32767) rfl rfl rfl rfl (by kernel_rfl) (by kernel_rfl) ⟨[], by decide, rfl⟩ (qt_rd (rd_indexS1 Tryz.underlying29 ty_3 rfl rfl (by omega))) ?_
      refine ga_only 15 (bm 16 65535) rfl rfl (by kernel_rfl) (by kernel_rfl) (.inr ⟨[], by decide, rfl⟩) (op_storeRowE 0 ty_3 rfl rfl rfl rfl (by rw [List.length_map, List.length_set]; omega) (by rw [← List.map_set]) (by rfl) ?_)
      refine ga_end (by kernel_rfl) (.inl (by kernel_rfl)) ?_
      refine gx_block <| gx_then <| gc_region <| gl_op <| op_rd rfl (rd_move rfl) <| gl_op (op_rd rfl (by exact rd_addN (b := 1) rfl rfl (by omega)) ?_)
      refine gl_op <| op_rd rfl (rd_move rfl) <| gl_op (op_rd rfl (by exact rd_subN (b := 1) rfl rfl (by omega) (by omega)) ?_)
      refine gl_op <| op_rd rfl (rd_assign rfl) <| gl_op <| op_rd rfl (rd_assign rfl) <| gl_nil <| gx_then ?_
      exact gx_cut ((i + 1, (ys.set i u).set (xs.length - 1 - i) v)) ⟨⟨by simp only; omega, ht.step (by omega) hu hv⟩, by simp only; omega⟩ ⟨rfl, congrArg (fun z : Int => some (Value.int .i64 z)) (by simp only; omega), rfl, trivial⟩ ⟨[0], by decide, rfl⟩
    refine (op_rd rfl (rd_load Tryz.underlying3 rfl rfl (ld_rowN 0 rfl (by rw [List.getElem?_map, hv]; rfl))) ?_)
    refine ga_only 7 (bm 16 4095) rfl rfl (by kernel_rfl) (by kernel_rfl) (.inr ⟨[], by decide, rfl⟩) (op_rd rfl (rd_load Tryz.underlying3 rfl rfl (ld_rowN 0 rfl (by rw [List.getElem?_map, hu]; rfl))) ?_)
    refine ga_first 12 (bm 16 8191) rfl rfl rfl rfl (by kernel_rfl) (by kernel_rfl) ⟨[], by decide, rfl⟩ (qt_rd (rd_indexS1 Tryz.underlying29 ty_3 rfl rfl (by omega))) ?_
    refine ga_only 13 (bm 16 16383) rfl rfl (by kernel_rfl) (by kernel_rfl) (.inr ⟨[], by decide, rfl⟩) (op_storeRowE 0 ty_3 rfl rfl rfl rfl (by rw [List.length_map]; omega) (by rw [← List.map_set]) (by rfl) ?_)
    refine ga_first 14 (bm 16 32767) rfl rfl rfl rfl (by kernel_rfl) (by kernel_rfl) ⟨[], by decide, rfl⟩ (qt_rd (rd_indexS1 Tryz.underlying29 ty_3 rfl rfl (by omega))) ?_
    refine ga_only 15 (bm 16 65535) rfl rfl (by kernel_rfl) (by kernel_rfl) (.inr ⟨[], by decide, rfl⟩) (op_storeRowE 0 ty_3 rfl rfl rfl rfl (by rw [List.length_map, List.length_set]; omega) (by rw [← List.map_set]) (by rfl) ?_)
    refine ga_end (by kernel_rfl) (.inl (by kernel_rfl)) ?_
    refine gx_block <| gx_then <| gc_region <| gl_op <| op_rd rfl (rd_move rfl) <| gl_op (op_rd rfl (by exact rd_addN (b := 1) rfl rfl (by omega)) ?_)
    refine gl_op <| op_rd rfl (rd_move rfl) <| gl_op (op_rd rfl (by exact rd_subN (b := 1) rfl rfl (by omega) (by omega)) ?_)
    refine gl_op <| op_rd rfl (rd_assign rfl) <| gl_op <| op_rd rfl (rd_assign rfl) <| gl_nil <| gx_then ?_
    exact gx_cut ((i + 1, (ys.set i u).set (xs.length - 1 - i) v)) ⟨⟨by simp only; omega, ht.step (by omega) hu hv⟩, by simp only; omega⟩ ⟨rfl, congrArg (fun z : Int => some (Value.int .i64 z)) (by simp only; omega), rfl, trivial⟩ ⟨[0], by decide, rfl⟩
  refine gl_nil <| gx_then <| gc_cond_f rfl <| gc_exit <| gx_then_exit <| gx_then_exit <| gx_block_exit <| gx_ret0 (.inr rfl) Tryz.results63 [0] (by decide) ?_
  exact ⟨rfl, by rw [ht.done (by omega)]; rfl⟩
set_option maxRecDepth 100000 in
set_option maxHeartbeats 1000000 in
theorem chain_ok (nd b30 k27 c27 m28 : Nat) (tb : List En) (hlk : Lk tb) (q0 : Pl) (v0 : Pl × List Nat) (hv0 : tabOf tb q0 = some v0) (hc : v0.2.length ≤ 1000) (S : List Nat) (w0 : World) (hown : Own w0 S w0 [.blk b30 [.slice (rowA (some k27)) nd c27, .map (some m28)] 97, .obj m28 (actO tb)]) : Sp Tryz.prog 39 [.pointer (some ⟨b30, 0, none⟩), .agg #[natV q0.1, natV q0.2]] w0 S (fun v L => ∃ r c, v = .tuple #[.agg #[natV v0.1.1, natV v0.1.2], .slice (rowA r) v0.2.length c] ∧ L = [.blk b30 [.slice (rowA (some k27)) nd c27, .map (some m28)] 97, .obj m28 (actO tb), .row 3 1 r v0.2.length c (v0.2.map natV)]) := by
  refine spec_enter Tryz.func39 rfl Tryz.ntmps39 rfl hown ?_
  simp only [argEnv]
  refine gc_seq <| gc_region <| gl_op (op_box rfl rfl rfl (fun b3 => ?_))
  refine gl_op (op_alloc ty_107 rfl rfl (fun b4 => ?_))
  refine gl_op <| op_rd rfl (rd_assign rfl) <| gl_nil <| gx_then <| gc_seq <| gc_region <| gl_op <| op_rd rfl (rd_assign rfl) <| gl_nil <| gx_then <| gc_seq <| gc_block <| gk_nil 3 1 <| gc_loopF (ι := Pl × List Nat × Option Nat × Nat) [(0, _), (3, _), (4, _)] [_, _, _] (fun q => Back tb q0 q.1 q.2.1) (fun q Fr0 => ((6, .slice (rowA q.2.2.1) q.2.1.length q.2.2.2) :: Fr0)) (fun q Fr0 => (.blk b3 [natV q.1.1, natV q.1.2] 107 :: .row 3 1 q.2.2.1 q.2.1.length q.2.2.2 (q.2.1.map natV) :: Fr0)) (fun q => v0.2.length - q.2.1.length) (q0, [], none, 0) (Back.init hv0) ⟨rfl, rfl, rfl, rfl, trivial⟩ ⟨[2, 0, 1, 3, 4], by decide, rfl⟩ ?_
  rintro ⟨p, cs, r6, c6⟩ hb
  simp only at hb ⊢
  obtain ⟨en, hen⟩ := hb.find
  have hcl := hb.len hv0
  refine gc_seq <| gc_seq <| gc_drawP [0, 1, 2, 3, 4] true 7 rfl <| ga_first 0 (bm 8 1) rfl rfl rfl rfl (by kernel_rfl) (by kernel_rfl) ⟨[0, 1, 2, 3, 4], by decide, rfl⟩ (qt_rd (rd_move rfl)) ?_
  refine ga_first 1 (bm 8 3) rfl rfl rfl rfl (by kernel_rfl) (by kernel_rfl) ⟨[0, 1, 2, 3, 4], by decide, rfl⟩ (qt_rd (rd_nilCheck rfl)) ?_
  refine ga_first 2 (bm 8 7) rfl rfl rfl rfl (by kernel_rfl) (by kernel_rfl) ⟨[0, 1, 2, 3, 4], by decide, rfl⟩ (qt_rd (rd_fieldAddr rfl (fa_97_1 _))) ?_
  refine ga_first 3 (bm 8 15) rfl rfl rfl rfl (by kernel_rfl) (by kernel_rfl) ⟨[0, 1, 2, 3, 4], by decide, rfl⟩ (qt_rd (rd_load Tryz.underlying95 rfl rfl (by exact ld_blk 3 rfl rfl))) ?_
  refine ga_first 4 (bm 8 31) rfl rfl rfl rfl (by kernel_rfl) (by kernel_rfl) ⟨[0, 1, 2, 3, 4], by decide, rfl⟩ (qt_rd (rd_loadAgg Tryz.underlying107 rfl ty_107 rfl (by exact cs_blk 0 (off := 0) (k := 2) rfl rfl) rfl)) ?_
  refine ga_first 5 (bm 8 63) rfl rfl rfl rfl (by kernel_rfl) (by kernel_rfl) ⟨[0, 1, 2, 3, 4], by decide, rfl⟩ (qt_rd (rd_lookupAct 4 hen rfl Tryz.underlying95 i2_place ty_123 rfl rfl)) ?_
  refine ga_first 6 (bm 8 127) rfl rfl rfl rfl (by kernel_rfl) (by kernel_rfl) ⟨[0, 1, 2, 3, 4], by decide, rfl⟩ (qt_rd (rd_field rfl (fd_123_0 _ _ _))) ?_
  refine ga_first 7 (bm 8 255) rfl rfl rfl rfl (by kernel_rfl) (by kernel_rfl) ⟨[0, 1, 2, 3, 4], by decide, rfl⟩ (qt_rd (rd_geq rfl rfl)) (gk_dec (fun h14 => ?_) (fun h14 => ?_))
  · have hin : en.i = ((en.i.toNat : Nat) : Int) := by omega
    refine ga_end (by kernel_rfl) (.inr ⟨[0, 1, 2, 3, 4], by decide, rfl⟩) ?_
    refine gx_then <| gc_cond_t rfl <| gc_skip <| gx_then <| gc_block <| gc_seq <| gc_drawP [0, 2, 3, 4] false 10 rfl <| ga_first 0 (bm 11 1) rfl rfl rfl rfl (by kernel_rfl) (by kernel_rfl) ⟨[0, 2, 3, 4], by decide, rfl⟩ (qt_rd (rd_move rfl)) ?_
    refine ga_first 1 (bm 11 3) rfl rfl rfl rfl (by kernel_rfl) (by kernel_rfl) ⟨[0, 2, 3, 4], by decide, rfl⟩ (qt_rd (rd_move rfl)) ?_
    refine ga_first 2 (bm 11 7) rfl rfl rfl rfl (by kernel_rfl) (by kernel_rfl) ⟨[0, 2, 3, 4], by decide, rfl⟩ (qt_rd (rd_nilCheck rfl)) ?_
    refine ga_first 3 (bm 11 15) rfl rfl rfl rfl (by kernel_rfl) (by kernel_rfl) ⟨[0, 2, 3, 4], by decide, rfl⟩ (qt_rd (rd_fieldAddr rfl (fa_97_1 _))) ?_
    refine ga_first 4 (bm 11 31) rfl rfl rfl rfl (by kernel_rfl) (by kernel_rfl) ⟨[0, 2, 3, 4], by decide, rfl⟩ (qt_rd (rd_load Tryz.underlying95 rfl rfl (by exact ld_blk 2 rfl rfl))) ?_
    refine ga_first 5 (bm 11 63) rfl rfl rfl rfl (by kernel_rfl) (by kernel_rfl) ⟨[0, 2, 3, 4], by decide, rfl⟩ (qt_rd (rd_loadAgg Tryz.underlying107 rfl ty_107 rfl (by exact cs_blk 0 (off := 0) (k := 2) rfl rfl) rfl)) ?_
    refine ga_first 6 (bm 11 127) rfl rfl rfl rfl (by kernel_rfl) (by kernel_rfl) ⟨[0, 2, 3, 4], by decide, rfl⟩ (qt_rd (rd_lookupAct 3 hen rfl Tryz.underlying95 i2_place ty_123 rfl rfl)) ?_
    refine ga_first 7 (bm 11 255) rfl rfl rfl rfl (by kernel_rfl) (by kernel_rfl) ⟨[0, 2, 3, 4], by decide, rfl⟩ (qt_rd (rd_field rfl (fd_123_0 _ _ _))) ?_
    refine ga_only 8 (bm 11 511) rfl rfl (by kernel_rfl) (by kernel_rfl) (.inr ⟨[0, 2, 3, 4], by decide, rfl⟩) (op_buildSlice (sz := 1) rfl rfl (fun _ => bs_29_1_0 _) rfl rfl (fun b23 => ?_))
    refine ga_only 9 (bm 11 1023) rfl rfl (by kernel_rfl) (by kernel_rfl) (.inr ⟨[1, 3, 4, 5], by decide, rfl⟩) (op_appendRow 2 0 Tryz.underlying29 ty_3 rfl (by decide) rfl rfl rfl rfl rfl (by simp [Value.oneCell']) (by omega) (by omega) (fun _ => (by rfl)) (fun r24 c24 => ?_))
    refine ga_only 10 (bm 11 2047) rfl rfl (by kernel_rfl) (by kernel_rfl) (.inr ⟨[1, 3, 4, 5], by decide, rfl⟩) (op_rd rfl (rd_assign rfl) ?_)
    refine ga_end (by kernel_rfl) (.inl (by kernel_rfl)) ?_
    refine gx_then ?_
    rw [show cs.map natV ++ [.int .i64 en.i] = (cs ++ [en.i.toNat]).map natV by rw [List.map_append]; show _ = _ ++ [natV en.i.toNat]; rw [show natV en.i.toNat = .int .i64 en.i from congrArg (Value.int .i64) hin.symm], show cs.length + 1 = (cs ++ [en.i.toNat]).length by simp]
    refine gc_drawP [0, 2, 3, 4, 5] false 7 rfl <| ga_first 0 (bm 8 1) rfl rfl rfl rfl (by kernel_rfl) (by kernel_rfl) ⟨[0, 2, 3, 4, 5], by decide, rfl⟩ (qt_rd (rd_move rfl)) ?_
    refine ga_first 1 (bm 8 3) rfl rfl rfl rfl (by kernel_rfl) (by kernel_rfl) ⟨[0, 2, 3, 4, 5], by decide, rfl⟩ (qt_rd (rd_nilCheck rfl)) ?_
    refine ga_first 2 (bm 8 7) rfl rfl rfl rfl (by kernel_rfl) (by kernel_rfl) ⟨[0, 2, 3, 4, 5], by decide, rfl⟩ (qt_rd (rd_fieldAddr rfl (fa_97_1 _))) ?_
    refine ga_first 3 (bm 8 15) rfl rfl rfl rfl (by kernel_rfl) (by kernel_rfl) ⟨[0, 2, 3, 4, 5], by decide, rfl⟩ (qt_rd (rd_load Tryz.underlying95 rfl rfl (by exact ld_blk 3 rfl rfl))) ?_
    refine ga_only 4 (bm 8 31) rfl rfl (by kernel_rfl) (by kernel_rfl) (.inr ⟨[0, 2, 3, 4, 5], by decide, rfl⟩) (op_rd rfl (rd_loadAgg Tryz.underlying107 rfl ty_107 rfl (by exact cs_blk 1 (off := 0) (k := 2) rfl rfl) rfl) ?_)
    refine ga_first 5 (bm 8 63) rfl rfl rfl rfl (by kernel_rfl) (by kernel_rfl) ⟨[0, 2, 3, 4, 5], by decide, rfl⟩ (qt_rd (rd_lookupAct 4 hen rfl Tryz.underlying95 i2_place ty_123 rfl rfl)) ?_
    refine ga_first 6 (bm 8 127) rfl rfl rfl rfl (by kernel_rfl) (by kernel_rfl) ⟨[0, 2, 3, 4, 5], by decide, rfl⟩ (qt_rd (rd_field rfl (fd_123_1 _ _ _))) ?_
    refine ga_only 7 (bm 8 255) rfl rfl (by kernel_rfl) (by kernel_rfl) (.inr ⟨[0, 2, 3, 4, 5], by decide, rfl⟩) (op_storeAgg 1 ty_107 rfl rfl rfl rfl rfl rfl (by rfl) ?_)
    refine ga_end (by kernel_rfl) (.inl (by kernel_rfl)) ?_
    refine gx_block <| gx_then ?_
    exact gx_cut ((en.p, cs ++ [en.i.toNat], r24, c24)) ⟨hb.step hlk hen (by omega), by have h9 := (hb.step hlk hen (by omega)).len hv0; simp only [List.length_append, List.length_cons, List.length_nil] at h9 ⊢; omega⟩ ⟨rfl, rfl, rfl, rfl, trivial⟩ ⟨[1, 2, 3, 4, 5], by decide, rfl⟩
  refine ga_end (by kernel_rfl) (.inr ⟨[0, 1, 2, 3, 4], by decide, rfl⟩) ?_
  refine gx_then <| gc_cond_f rfl <| gc_exit <| gx_then_exit <| gx_then_exit <| gx_block_exit <| gx_then <| gc_seq <| gc_region <| gl_op <| op_rd rfl (rd_move rfl) <| gl_op (op_callM [1] [0, 2, 3, 4] rfl (vf := []) (vc := []) rfl rfl Tryz.call63 (by decide) rfl (fun w how hc => Reverse_ok cs r6 c6 (by omega) _ w hc) ?_)
  rintro _ _ ⟨rfl, rfl⟩
  refine gl_nil <| gx_then <| gc_seq <| gc_region <| gl_op (op_rd rfl (rd_loadAgg Tryz.underlying107 rfl ty_107 rfl (by exact cs_blk 1 (off := 0) (k := 2) rfl rfl) rfl) ?_)
  refine gl_op <| op_rd rfl (rd_move rfl) <| gl_op (op_storeAgg 2 ty_107 rfl rfl rfl rfl rfl rfl (by rfl) ?_)
  refine gl_op <| op_rd rfl (rd_assign rfl) <| gl_nil <| gx_then <| gc_ret <| gx_retV2 (.inl rfl) Tryz.results39 (rv_agg Tryz.underlying107 rfl ty_107 rfl (by rfl) (cs_blk 2 (off := 0) (k := 2) rfl rfl)) (rv_tmp rfl) [3, 4, 0] (by decide) ?_
  have hd := hb.done hlk hen (by omega)
  rw [hv0] at hd
  simp only [Option.some.injEq] at hd
  subst hd
  exact ⟨r6, c6, by simp only [List.length_reverse]; rfl, by simp only [List.length_reverse]; rfl⟩
end Go.Proofs.YtbjijbbkfgcleaaGreatDoor
namespace Go.Proofs.YtbjijbbkfgcleaaGreatDoor
open Go.Gv
open Go.RowKit
open Go.Sn
open Sx
namespace Sx
theorem i2_pipe : I2 Tryz.prog 69 (Tryz.prog.fieldsOf 69)[0]! (Tryz.prog.fieldsOf 69)[1]! .i64 .i64 := ⟨by kernel_rfl, by kernel_rfl, by kernel_rfl, by kernel_rfl, by kernel_rfl, by kernel_rfl, by kernel_rfl, by kernel_rfl⟩
theorem sameIntsN_ok (xs ys : List Nat) (a b : Option Addr) (ca cb : Nat) (hxl : xs.length ≤ 140737488355328) (w0 : World) (hx : OldSl w0 [] a xs.length 1 (xs.map natV)) (hy : OldSl w0 [] b ys.length 1 (ys.map natV)) : Sp Tryz.prog 21 [.slice a xs.length ca, .slice b ys.length cb] w0 [] (RV (.bool (decide (xs = ys)))) := by
  have h := SameInts_ok (xs.map fun n : Nat => (n : Int)) (ys.map fun n : Nat => (n : Int)) a b ca cb (by rw [List.length_map]; exact hxl) w0 (by rw [List.length_map, natI]; exact hx) (by rw [List.length_map, natI]; exact hy)
  rw [List.length_map, List.length_map, show decide ((xs.map fun n : Nat => (n : Int)) = (ys.map fun n : Nat => (n : Int))) = decide (xs = ys) from decide_eq_decide.2 castL_inj] at h
  exact h
end Sx
open Sx
set_option maxRecDepth 100000 in
set_option maxHeartbeats 1000000 in
theorem SamePipes_ok (xs ys : List Pl) (a b : Option Addr) (ca cb : Nat) (hxl : xs.length ≤ 1000000) (w0 : World) (hx : OldSl w0 [] a xs.length 2 (xs.flatMap plC)) (hy : OldSl w0 [] b ys.length 2 (ys.flatMap plC)) : Sp Tryz.prog 13 [.slice a xs.length ca, .slice b ys.length cb] w0 [] (RV (.bool (decide (xs = ys)))) := by
  refine spec_enter Tryz.func13 rfl Tryz.ntmps13 rfl (Own.refl _) ?_
  simp only [argEnv]
  refine gc_seq <| gc_region <| gl_op <| op_rd rfl (rd_assign rfl) <| gl_nil <| gx_then <| gc_seq <| gc_seq <| gc_region <| gl_op <| op_rd rfl (rd_move rfl) <| gl_op <| op_rd rfl (rd_lenSlice Tryz.underlying36 rfl) <| gl_op <| op_rd rfl (rd_move rfl) <| gl_op <| op_rd rfl (rd_lenSlice Tryz.underlying36 rfl) <| gl_op (op_rd rfl (rd_neq rfl rfl) (gk_dec (fun h10 => ?_) (fun h10 => ?_)))
  · refine gl_nil <| gx_then <| gc_cond_t rfl <| gc_seq <| gc_region <| gl_op <| op_rd rfl (rd_assign rfl) <| gl_nil <| gx_then <| gc_ret <| gx_then_ret <| gx_ret1 (.inl rfl) Tryz.results13 rfl [] (by decide) ?_
    refine ⟨congrArg Value.bool (Eq.symm ?_), rfl⟩
    exact decide_eq_false (fun e => by subst e; omega)
  refine gl_nil <| gx_then <| gc_cond_f rfl <| gc_skip <| gx_then <| gc_seq <| gc_seq <| gc_region <| gl_op <| op_rd rfl (rd_assign rfl) <| gl_nil <| gx_then <| gc_block <| gc_loopF (ι := Nat) [(0, _), (1, _)] [] (fun k => k ≤ xs.length ∧ xs.take k = ys.take k) (fun k Fr0 => ((5, natV k) :: Fr0)) (fun k Fr0 => Fr0) (fun k => xs.length - k) 0 (⟨Nat.zero_le _, rfl⟩) ⟨rfl, rfl, rfl, trivial⟩ ⟨[], by decide, rfl⟩ ?_
  rintro k ⟨hk, htk⟩
  refine gc_seq <| gc_seq <| gc_region <| gl_op <| op_rd rfl (rd_move rfl) <| gl_op <| op_rd rfl (rd_move rfl) <| gl_op <| op_rd rfl (rd_lenSlice Tryz.underlying36 rfl) <| gl_op (op_rd rfl (rd_lss rfl rfl) (gk_dec (fun h14 => ?_) (fun h14 => ?_)))
  · obtain ⟨u, hu⟩ := get_some (show k < xs.length by omega)
    obtain ⟨v, hv⟩ := get_some (show k < ys.length by omega)
    refine gl_nil <| gx_then <| gc_cond_t rfl <| gc_skip <| gx_then <| gc_seq <| gc_block <| gc_seq <| gc_drawP [] true 8 rfl <| ga_first 0 (bm 9 1) rfl rfl rfl rfl (by kernel_rfl) (by kernel_rfl) ⟨[], by decide, rfl⟩ (qt_rd (rd_move rfl)) ?_
    refine ga_first 1 (bm 9 3) rfl rfl rfl rfl (by kernel_rfl) (by kernel_rfl) ⟨[], by decide, rfl⟩ (qt_rd (rd_move rfl)) ?_
    refine ga_first 2 (bm 9 7) rfl rfl rfl rfl (by kernel_rfl) (by kernel_rfl) ⟨[], by decide, rfl⟩ (qt_rd (rd_indexOld hx Tryz.underlying36 ty_69 rfl rfl (by omega) (by omega))) ?_
    refine ga_first 3 (bm 9 15) rfl rfl rfl rfl (by kernel_rfl) (by kernel_rfl) ⟨[], by decide, rfl⟩ (qt_rd (rd_loadAgg Tryz.underlying69 rfl ty_69 rfl (cs_slN hx (flat_drop_get plC 2 (fun _ => rfl) hu)) rfl)) ?_
    refine ga_first 4 (bm 9 31) rfl rfl rfl rfl (by kernel_rfl) (by kernel_rfl) ⟨[], by decide, rfl⟩ (qt_rd (rd_move rfl)) ?_
    refine ga_first 5 (bm 9 63) rfl rfl rfl rfl (by kernel_rfl) (by kernel_rfl) ⟨[], by decide, rfl⟩ (qt_rd (rd_move rfl)) ?_
    refine ga_first 6 (bm 9 127) rfl rfl rfl rfl (by kernel_rfl) (by kernel_rfl) ⟨[], by decide, rfl⟩ (qt_rd (rd_indexOld hy Tryz.underlying36 ty_69 rfl rfl (by omega) (by omega))) ?_
    refine ga_first 7 (bm 9 255) rfl rfl rfl rfl (by kernel_rfl) (by kernel_rfl) ⟨[], by decide, rfl⟩ (qt_rd (rd_loadAgg Tryz.underlying69 rfl ty_69 rfl (cs_slN hy (flat_drop_get plC 2 (fun _ => rfl) hv)) rfl)) ?_
    refine ga_first 8 (bm 9 511) rfl rfl rfl rfl (by kernel_rfl) (by kernel_rfl) ⟨[], by decide, rfl⟩ (qt_rd (rd_neqI2 (a := (u.1 : Int)) (b := (u.2 : Int)) (c := (v.1 : Int)) (d := (v.2 : Int)) i2_pipe (by kernel_rfl) rfl rfl)) ?_
    refine gk_bool (fun h25 => ?_) (fun h25 => ?_)
    · have huv : ¬ ((u.1 : Int) = v.1 ∧ (u.2 : Int) = v.2) := fun e => by rw [decide_eq_true e] at h25; cases h25
      refine ga_end (by kernel_rfl) (.inr ⟨[], by decide, rfl⟩) ?_
      refine gx_then <| gc_cond_t rfl <| gc_seq <| gc_region <| gl_op <| op_rd rfl (rd_assign rfl) <| gl_nil <| gx_then <| gc_ret <| gx_block_ret <| gx_then_ret <| gx_then_ret <| gx_block_ret <| gx_then_ret <| gx_ret1 (.inl rfl) Tryz.results13 rfl [] (by decide) ?_
      refine ⟨congrArg Value.bool (Eq.symm ?_), rfl⟩
      exact decide_eq_false (fun e => by subst e; rw [hu] at hv; cases hv; exact huv ⟨rfl, rfl⟩)
    have huv : (u.1 : Int) = v.1 ∧ (u.2 : Int) = v.2 := by simpa using h25
    refine ga_end (by kernel_rfl) (.inr ⟨[], by decide, rfl⟩) ?_
    refine gx_then <| gc_cond_f rfl <| gc_skip <| gx_block <| gx_then <| gc_region <| gl_op <| op_rd rfl (rd_move rfl) <| gl_op (op_rd rfl (by exact rd_addN (b := 1) rfl rfl (by omega)) ?_)
    refine gl_op <| op_rd rfl (rd_assign rfl) <| gl_nil <| gx_then ?_
    exact gx_cut (k + 1) ⟨⟨by omega, by rw [take_at hu, take_at hv, htk, show u = v from Prod.ext (by have := huv.1; omega) (by have := huv.2; omega)]⟩, by omega⟩ ⟨rfl, rfl, rfl, trivial⟩ ⟨[], by decide, rfl⟩
  refine gl_nil <| gx_then <| gc_cond_f rfl <| gc_exit <| gx_then_exit <| gx_then_exit <| gx_block_exit <| gx_then <| gc_seq <| gc_region <| gl_op <| op_rd rfl (rd_assign rfl) <| gl_nil <| gx_then <| gc_ret <| gx_ret1 (.inl rfl) Tryz.results13 rfl [] (by decide) ?_
  refine ⟨congrArg Value.bool (Eq.symm ?_), rfl⟩
  rw [List.take_of_length_le (by omega), List.take_of_length_le (by omega)] at htk
  exact decide_eq_true htk
set_option maxRecDepth 100000 in
set_option maxHeartbeats 1000000 in
theorem SameReason_ok (u v : Rsn) (a b : Option Addr) (ca cb : Nat) (hl : u.ch.length ≤ 140737488355328) (w0 : World) (hx : OldSl w0 [] a u.ch.length 1 (u.ch.map natV)) (hy : OldSl w0 [] b v.ch.length 1 (v.ch.map natV)) : Sp Tryz.prog 23 [u.val a ca, v.val b cb] w0 [] (RV (.bool (decide (u = v)))) := by
  refine spec_enter Tryz.func23 rfl Tryz.ntmps23 rfl (Own.refl _) ?_
  simp only [argEnv]
  refine gc_seq <| gc_region <| gl_op (op_box rfl rfl rfl (fun b2 => ?_))
  refine gl_op (op_box rfl rfl rfl (fun b3 => ?_))
  refine gl_op <| op_rd rfl (rd_assign rfl) <| gl_nil <| gx_then <| gc_seq <| gc_region <| gl_op <| op_rd rfl (rd_fieldAddr rfl (fa_65_0 _)) <| gl_op (op_rd rfl (rd_load Tryz.underlying3 rfl rfl (by exact ld_blk 1 rfl rfl)) ?_)
  refine gl_op <| op_rd rfl (rd_fieldAddr rfl (fa_65_0 _)) <| gl_op (op_rd rfl (rd_load Tryz.underlying3 rfl rfl (by exact ld_blk 0 rfl rfl)) ?_)
  refine gl_op (op_rd rfl (rd_eql rfl rfl) (gk_dec (fun h9 => ?_) (fun h9 => ?_)))
  · refine gl_op <| op_rd rfl (rd_move rfl) <| gl_yes rfl rfl <| op_rd rfl (rd_fieldAddr rfl (fa_65_1 _)) <| gl_yes rfl rfl (op_rd rfl (rd_load Tryz.underlying3 rfl rfl (by exact ld_blk 1 rfl rfl)) ?_)
    refine gl_yes rfl rfl <| op_rd rfl (rd_fieldAddr rfl (fa_65_1 _)) <| gl_yes rfl rfl (op_rd rfl (rd_load Tryz.underlying3 rfl rfl (by exact ld_blk 0 rfl rfl)) ?_)
    refine gl_yes rfl rfl (op_rd rfl (rd_eql rfl rfl) (gk_dec (fun h15 => ?_) (fun h15 => ?_)))
    · refine gl_op <| op_rd rfl (rd_pick_t rfl rfl) <| gl_op <| op_rd rfl (rd_move rfl) <| gl_yes rfl rfl <| op_rd rfl (rd_fieldAddr rfl (fa_65_3 _)) <| gl_yes rfl rfl (op_rd rfl (rd_load Tryz.underlying3 rfl rfl (by exact ld_blk 1 rfl rfl)) ?_)
      refine gl_yes rfl rfl <| op_rd rfl (rd_fieldAddr rfl (fa_65_3 _)) <| gl_yes rfl rfl (op_rd rfl (rd_load Tryz.underlying3 rfl rfl (by exact ld_blk 0 rfl rfl)) ?_)
      refine gl_yes rfl rfl (op_rd rfl (rd_eql rfl rfl) (gk_dec (fun h22 => ?_) (fun h22 => ?_)))
      · refine gl_op <| op_rd rfl (rd_pick_t rfl rfl) <| gl_op <| op_rd rfl (rd_move rfl) <| gl_yes rfl rfl <| op_rd rfl (rd_fieldAddr rfl (fa_65_4 _)) <| gl_yes rfl rfl (op_rd rfl (rd_load Tryz.underlying3 rfl rfl (by exact ld_blk 1 rfl rfl)) ?_)
        refine gl_yes rfl rfl <| op_rd rfl (rd_fieldAddr rfl (fa_65_4 _)) <| gl_yes rfl rfl (op_rd rfl (rd_load Tryz.underlying3 rfl rfl (by exact ld_blk 0 rfl rfl)) ?_)
        refine gl_yes rfl rfl (op_rd rfl (rd_eql rfl rfl) (gk_dec (fun h29 => ?_) (fun h29 => ?_)))
        · refine gl_op <| op_rd rfl (rd_pick_t rfl rfl) <| gl_op <| op_rd rfl (rd_move rfl) <| gl_yes rfl rfl <| op_rd rfl (rd_fieldAddr rfl (fa_65_5 _)) <| gl_yes rfl rfl (op_rd rfl (rd_load Tryz.underlying3 rfl rfl (by exact ld_blk 1 rfl rfl)) ?_)
          refine gl_yes rfl rfl <| op_rd rfl (rd_fieldAddr rfl (fa_65_5 _)) <| gl_yes rfl rfl (op_rd rfl (rd_load Tryz.underlying3 rfl rfl (by exact ld_blk 0 rfl rfl)) ?_)
          refine gl_yes rfl rfl (op_rd rfl (rd_eql rfl rfl) (gk_dec (fun h36 => ?_) (fun h36 => ?_)))
          · refine gl_op <| op_rd rfl (rd_pick_t rfl rfl) <| gl_op <| op_rd rfl (rd_move rfl) <| gl_yes rfl rfl <| op_rd rfl (rd_fieldAddr rfl (fa_65_2 _)) <| gl_yes rfl rfl (op_rd rfl (rd_load Tryz.underlying29 rfl rfl (by exact ld_blk 1 rfl rfl)) ?_)
            refine gl_yes rfl rfl <| op_rd rfl (rd_fieldAddr rfl (fa_65_2 _)) <| gl_yes rfl rfl (op_rd rfl (rd_load Tryz.underlying29 rfl rfl (by exact ld_blk 0 rfl rfl)) ?_)
            refine gl_yes rfl rfl (op_call rfl (vf := []) (vc := []) rfl rfl Tryz.call21 (fun w1 ho => sameIntsN_ok u.ch v.ch a b ca cb hl w1 (hx.at ho) (hy.at ho)) ?_)
            rintro _ _ ⟨rfl, rfl⟩
            refine gl_op <| op_rd rfl (rd_pick_t rfl rfl) <| gl_op <| op_rd rfl (rd_assign rfl) <| gl_nil <| gx_then <| gc_ret <| gx_ret1 (.inl rfl) Tryz.results23 rfl [] (by decide) ?_
            refine ⟨congrArg Value.bool ?_, rfl⟩
            rw [Bool.eq_iff_iff, decide_eq_true_eq, decide_eq_true_eq]
            constructor
            · intro e
              obtain ⟨u1, u2, u3, u4, u5, u6⟩ := u
              obtain ⟨v1, v2, v3, v4, v5, v6⟩ := v
              simp only at h9 h15 h22 h29 h36 e
              simp only [Rsn.mk.injEq]
              exact ⟨by omega, by omega, e, by omega, by omega, by omega⟩
            · rintro rfl; rfl
          have hne : decide (u = v) = false := decide_eq_false (fun e => by subst e; omega)
          refine gl_op <| op_rd rfl (rd_pick_t rfl rfl) <| gl_op <| op_rd rfl (rd_move rfl) <| gl_no rfl rfl rfl <| gl_no rfl rfl rfl <| gl_no rfl rfl rfl <| gl_no rfl rfl rfl <| gl_no rfl rfl rfl <| gl_op <| op_rd rfl (rd_pick_f rfl rfl) <| gl_op <| op_rd rfl (rd_assign rfl) <| gl_nil <| gx_then <| gc_ret <| gx_ret1 (.inl rfl) Tryz.results23 rfl [] (by decide) ?_
          exact ⟨congrArg Value.bool hne.symm, rfl⟩
        have hne : decide (u = v) = false := decide_eq_false (fun e => by subst e; omega)
        refine gl_op <| op_rd rfl (rd_pick_t rfl rfl) <| gl_op <| op_rd rfl (rd_move rfl) <| gl_no rfl rfl rfl <| gl_no rfl rfl rfl <| gl_no rfl rfl rfl <| gl_no rfl rfl rfl <| gl_no rfl rfl rfl <| gl_op <| op_rd rfl (rd_pick_f rfl rfl) <| gl_op <| op_rd rfl (rd_move rfl) <| gl_no rfl rfl rfl <| gl_no rfl rfl rfl <| gl_no rfl rfl rfl <| gl_no rfl rfl rfl <| gl_no rfl rfl rfl <| gl_op <| op_rd rfl (rd_pick_f rfl rfl) <| gl_op <| op_rd rfl (rd_assign rfl) <| gl_nil <| gx_then <| gc_ret <| gx_ret1 (.inl rfl) Tryz.results23 rfl [] (by decide) ?_
        exact ⟨congrArg Value.bool hne.symm, rfl⟩
      have hne : decide (u = v) = false := decide_eq_false (fun e => by subst e; omega)
      refine gl_op <| op_rd rfl (rd_pick_t rfl rfl) <| gl_op <| op_rd rfl (rd_move rfl) <| gl_no rfl rfl rfl <| gl_no rfl rfl rfl <| gl_no rfl rfl rfl <| gl_no rfl rfl rfl <| gl_no rfl rfl rfl <| gl_op <| op_rd rfl (rd_pick_f rfl rfl) <| gl_op <| op_rd rfl (rd_move rfl) <| gl_no rfl rfl rfl <| gl_no rfl rfl rfl <| gl_no rfl rfl rfl <| gl_no rfl rfl rfl <| gl_no rfl rfl rfl <| gl_op <| op_rd rfl (rd_pick_f rfl rfl) <| gl_op <| op_rd rfl (rd_move rfl) <| gl_no rfl rfl rfl <| gl_no rfl rfl rfl <| gl_no rfl rfl rfl <| gl_no rfl rfl rfl <| gl_no rfl rfl rfl <| gl_op <| op_rd rfl (rd_pick_f rfl rfl) <| gl_op <| op_rd rfl (rd_assign rfl) <| gl_nil <| gx_then ?_
      refine gc_ret <| gx_ret1 (.inl rfl) Tryz.results23 rfl [] (by decide) ?_
      exact ⟨congrArg Value.bool hne.symm, rfl⟩
    have hne : decide (u = v) = false := decide_eq_false (fun e => by subst e; omega)
    refine gl_op <| op_rd rfl (rd_pick_t rfl rfl) <| gl_op <| op_rd rfl (rd_move rfl) <| gl_no rfl rfl rfl <| gl_no rfl rfl rfl <| gl_no rfl rfl rfl <| gl_no rfl rfl rfl <| gl_no rfl rfl rfl <| gl_op <| op_rd rfl (rd_pick_f rfl rfl) <| gl_op <| op_rd rfl (rd_move rfl) <| gl_no rfl rfl rfl <| gl_no rfl rfl rfl <| gl_no rfl rfl rfl <| gl_no rfl rfl rfl <| gl_no rfl rfl rfl <| gl_op <| op_rd rfl (rd_pick_f rfl rfl) <| gl_op <| op_rd rfl (rd_move rfl) <| gl_no rfl rfl rfl <| gl_no rfl rfl rfl <| gl_no rfl rfl rfl <| gl_no rfl rfl rfl <| gl_no rfl rfl rfl <| gl_op <| op_rd rfl (rd_pick_f rfl rfl) <| gl_op <| op_rd rfl (rd_move rfl) <| gl_no rfl rfl rfl <| gl_no rfl rfl rfl ?_
    refine gl_no rfl rfl rfl <| gl_no rfl rfl rfl <| gl_no rfl rfl rfl <| gl_op <| op_rd rfl (rd_pick_f rfl rfl) <| gl_op <| op_rd rfl (rd_assign rfl) <| gl_nil <| gx_then <| gc_ret <| gx_ret1 (.inl rfl) Tryz.results23 rfl [] (by decide) ?_
    exact ⟨congrArg Value.bool hne.symm, rfl⟩
  have hne : decide (u = v) = false := decide_eq_false (fun e => by subst e; omega)
  refine gl_op <| op_rd rfl (rd_move rfl) <| gl_no rfl rfl rfl <| gl_no rfl rfl rfl <| gl_no rfl rfl rfl <| gl_no rfl rfl rfl <| gl_no rfl rfl rfl <| gl_op <| op_rd rfl (rd_pick_f rfl rfl) <| gl_op <| op_rd rfl (rd_move rfl) <| gl_no rfl rfl rfl <| gl_no rfl rfl rfl <| gl_no rfl rfl rfl <| gl_no rfl rfl rfl <| gl_no rfl rfl rfl <| gl_op <| op_rd rfl (rd_pick_f rfl rfl) <| gl_op <| op_rd rfl (rd_move rfl) <| gl_no rfl rfl rfl <| gl_no rfl rfl rfl <| gl_no rfl rfl rfl <| gl_no rfl rfl rfl <| gl_no rfl rfl rfl <| gl_op <| op_rd rfl (rd_pick_f rfl rfl) <| gl_op <| op_rd rfl (rd_move rfl) <| gl_no rfl rfl rfl <| gl_no rfl rfl rfl <| gl_no rfl rfl rfl ?_
  refine gl_no rfl rfl rfl <| gl_no rfl rfl rfl <| gl_op <| op_rd rfl (rd_pick_f rfl rfl) <| gl_op <| op_rd rfl (rd_move rfl) <| gl_no rfl rfl rfl <| gl_no rfl rfl rfl <| gl_no rfl rfl rfl <| gl_no rfl rfl rfl <| gl_no rfl rfl rfl <| gl_op <| op_rd rfl (rd_pick_f rfl rfl) <| gl_op <| op_rd rfl (rd_assign rfl) <| gl_nil <| gx_then <| gc_ret <| gx_ret1 (.inl rfl) Tryz.results23 rfl [] (by decide) ?_
  exact ⟨congrArg Value.bool hne.symm, rfl⟩
set_option maxRecDepth 100000 in
set_option maxHeartbeats 1000000 in
theorem flutes_ok (ns : List Nat) (a : Option Addr) (ca : Nat) (hl : ns.length ≤ 1000) (w0 : World) (hx : OldSl w0 [] a ns.length 1 (ns.map natV)) : Sp Tryz.prog 22 [.slice a ns.length ca] w0 [] (fun v L => ∃ r c, v = .slice (rowA r) ns.length c ∧ L = [.row 69 2 r ns.length c ((flutesP ns).flatMap plC)]) := by
  refine spec_enter Tryz.func22 rfl Tryz.ntmps22 rfl (Own.refl _) ?_
  simp only [argEnv]
  refine gc_seq <| gc_region <| gl_op <| op_rd rfl (rd_assign rfl) <| gl_nil <| gx_then <| gc_seq <| gc_region <| gl_op <| op_rd rfl (rd_assign rfl) <| gl_nil <| gx_then <| gc_seq <| gc_seq <| gc_region <| gl_op <| op_rd rfl (rd_assign rfl) <| gl_nil <| gx_then <| gc_block <| gk_nil 69 2 <| gc_loopF (ι := Nat × Option Nat × Nat) [(0, _)] [] (fun q => q.1 ≤ ns.length) (fun q Fr0 => ((3, .slice (rowA q.2.1) q.1 q.2.2) :: (4, natV q.1) :: Fr0)) (fun q Fr0 => (.row 69 2 q.2.1 q.1 q.2.2 ((flutesP (ns.take q.1)).flatMap plC) :: Fr0)) (fun q => ns.length - q.1) (0, none, 0) (Nat.zero_le _) ⟨rfl, rfl, rfl, trivial⟩ ⟨[0], by decide, rfl⟩ ?_
  rintro ⟨k, r3, c3⟩ hk
  simp only at hk ⊢
  refine gc_seq <| gc_seq <| gc_region <| gl_op <| op_rd rfl (rd_move rfl) <| gl_op <| op_rd rfl (rd_move rfl) <| gl_op <| op_rd rfl (rd_lenSlice Tryz.underlying29 rfl) <| gl_op (op_rd rfl (rd_lss rfl rfl) (gk_dec (fun h8 => ?_) (fun h8 => ?_)))
  · obtain ⟨z, hz⟩ := get_some (show k < ns.length by omega)
    refine gl_nil <| gx_then <| gc_cond_t rfl <| gc_skip <| gx_then <| gc_seq <| gc_block <| gc_region <| gl_op <| op_rd rfl (rd_move rfl) <| gl_op <| op_rd rfl (rd_move rfl) <| gl_op <| op_rd rfl (rd_move rfl) <| gl_op (op_rd rfl (rd_indexOld1 hx Tryz.underlying29 ty_3 rfl rfl (by omega) (by omega)) ?_)
    refine gl_op (op_rd rfl (rd_load Tryz.underlying3 rfl rfl (ld_slN hx (by rw [List.getElem?_map, hz]; rfl))) ?_)
    refine gl_op (op_rd rfl (rd_build rfl (fun _ => bd_69_1 _)) ?_)
    refine gl_op (op_buildSlice (sz := 2) rfl rfl (fun _ => bs_36_1_0 _ _) rfl rfl (fun b17 => ?_))
    refine gl_op (op_appendRow 1 0 Tryz.underlying36 ty_69 rfl (by decide) rfl rfl rfl rfl rfl (by simp [Value.oneCell']) (by omega) (by omega) (fun _ => (by rfl)) (fun r18 c18 => ?_))
    refine gl_op <| op_rd rfl (rd_assign rfl) <| gl_nil <| gx_block <| gx_then ?_
    rw [show (flutesP (ns.take k)).flatMap plC ++ [.int .i64 0, natV z] = (flutesP (ns.take (k + 1))).flatMap plC by rw [take_at hz]; unfold flutesP; rw [List.map_append, List.flatMap_append]; rfl]
    refine gc_region <| gl_op <| op_rd rfl (rd_move rfl) <| gl_op (op_rd rfl (by exact rd_addN (b := 1) rfl rfl (by omega)) ?_)
    refine gl_op <| op_rd rfl (rd_assign rfl) <| gl_nil <| gx_then ?_
    exact gx_cut ((k + 1, r18, c18)) ⟨by simp only; omega, by simp only; omega⟩ ⟨rfl, rfl, rfl, trivial⟩ ⟨[1], by decide, rfl⟩
  refine gl_nil <| gx_then <| gc_cond_f rfl <| gc_exit <| gx_then_exit <| gx_then_exit <| gx_block_exit <| gx_then <| gc_seq ?_
  have hk9 : k = ns.length := by omega
  subst hk9
  rw [List.take_length]
  refine gc_region <| gl_op <| op_rd rfl (rd_move rfl) <| gl_op <| op_rd rfl (rd_assign rfl) <| gl_nil <| gx_then <| gc_ret <| gx_ret1 (.inl rfl) Tryz.results22 rfl [0] (by decide) ?_
  exact ⟨r3, c3, rfl, rfl⟩
end Go.Proofs.YtbjijbbkfgcleaaGreatDoor
namespace Go.Proofs.YtbjijbbkfgcleaaGreatDoor
open Go.Gv
open Go.RowKit
open Go.Sn
open Sx
set_option maxRecDepth 100000 in
set_option maxHeartbeats 1000000 in
theorem Why_ok (s : Org) (h : Hd) (hle : OrgLe s) (hhe : HdLe h) (r0 p0 : Int) (w0 : World) (hS : OrgIn s w0 []) (hH : HdIn h w0 []) (hT : TabIn w0) : Sp Tryz.prog 20 [s.val, h.val, .agg #[.int .i64 r0, .int .i64 p0]] w0 [] (WhyR 3 65 s h r0 p0) := by
  refine spec_enterM Tryz.func20 rfl Tryz.ntmps20 rfl (Own.refl _) ?_
  simp only [argEnv]
  refine rc_seq <| rc_region <| rl_op (by nofun) (op_box rfl rfl rfl (fun b3 => ?_))
  refine rl_op (by nofun) (op_box rfl rfl rfl (fun b4 => ?_))
  refine rl_op (by nofun) (op_box rfl rfl rfl (fun b5 => ?_))
  refine rl_op (by nofun) (op_alloc ty_65 rfl rfl (fun b6 => ?_))
  refine rl_op (by nofun) (op_rd rfl (rd_assign rfl) ?_)
  refine rl_nil <| gx_then <| rc_seq <| rc_seq <| rc_region <| rl_op (by nofun) (op_rd rfl (rd_loadAgg Tryz.underlying27 rfl ty_27 rfl (by exact cs_blk 3 (off := 0) (k := 4) rfl rfl) rfl) ?_)
  refine rl_op (by nofun) (op_rd rfl (rd_loadAgg Tryz.underlying31 rfl ty_31 rfl (by exact cs_blk 2 (off := 0) (k := 3) rfl rfl) rfl) ?_)
  refine rl_op (by nofun) (op_call rfl (vf := []) (vc := []) rfl rfl Tryz.call24 (fun w1 ho => Check_ok s h hle hhe w1 (hS.at ho) (hH.at ho)) ?_)
  rintro _ _ ⟨rfl, rfl⟩
  refine rl_op (by nofun) (op_rd rfl (rd_assign rfl) ?_)
  refine rl_nil <| gx_then <| rc_seq <| rc_region <| rl_op (by nofun) (op_rd rfl (rd_move rfl) ?_)
  refine rl_op (by nofun) (op_rd rfl (rd_neq rfl rfl) (gk_dec (fun h23 => ?_) (fun h23 => ?_)))
  · refine rl_nil <| gx_then <| rc_cond_t rfl <| rc_seq <| rc_region <| rl_op (by nofun) (op_rd rfl (rd_build rfl (fun _ => bd_65_)) ?_)
    refine rl_op (by nofun) (op_rd rfl (rd_move rfl) ?_)
    refine rl_op (by nofun) (op_storeAgg 0 ty_65 rfl rfl rfl rfl rfl rfl (by rfl) ?_)
    refine rl_op (by nofun) (op_rd rfl (rd_assign rfl) ?_)
    refine rl_nil <| gx_then <| rc_ret <| gx_then_ret <| gx_retMV2 [] (.inl rfl) Tryz.results20 (rv_agg Tryz.underlying65 rfl ty_65 rfl (by rfl) (cs_blk 0 (off := 0) (k := 6) rfl rfl)) (rv_tmp rfl) ⟨[0], by decide, rfl⟩ ?_
    exact ⟨b6, .inl ⟨h23, rfl, rfl⟩⟩
  obtain ⟨h, rfl, hg⟩ := good_of (s := s) hhe (by omega)
  have hH := HNIn.of hH
  simp only [HN.hd_val]
  have hA := hg.cx
  have hnd : s.ds.length ≤ 6 := hA.nd
  have hns := hg.ns
  have hss : h.ss.length ≤ s.ss.length := asc_len hg.ssA hg.ssN
  obtain ⟨e0, he0⟩ : ∃ e0, handErr s h.hd = e0 := ⟨_, rfl⟩
  refine rl_nil <| gx_then <| rc_cond_f rfl <| rc_skip <| gx_then <| rc_seq <| rc_region <| rl_op (by nofun) (op_rd rfl (rd_loadAgg Tryz.underlying27 rfl ty_27 rfl (by exact cs_blk 3 (off := 0) (k := 4) rfl rfl) rfl) ?_)
  refine rl_op (by nofun) (op_rd rfl (rd_loadAgg Tryz.underlying31 rfl ty_31 rfl (by exact cs_blk 2 (off := 0) (k := 3) rfl rfl) rfl) ?_)
  refine rl_op (by nofun) (op_call rfl (vf := []) (vc := []) rfl rfl Tryz.call33 (fun w1 ho => acting_ok s h hle hg w1 (hS.at ho) (hH.at ho)) ?_)
  rintro _ _ ⟨b30, k27, c27, m28, rfl, rfl⟩
  unfold BK RS OM
  have hset := act_set hA
  have hsl0 : (actP (cxN s h)).sets.length = s.ds.length := hset.len
  refine rl_op (by nofun) (op_alloc ty_93 rfl rfl (fun b9 => ?_))
  refine rl_op (by nofun) (op_store 0 ty_93 rfl rfl rfl rfl rfl (by rfl) (by rfl) ?_)
  refine rl_nil <| gx_then <| rc_seq <| rc_region <| rl_op (by nofun) (op_alloc ty_65 rfl rfl (fun b10 => ?_))
  refine rl_nil <| gx_then <| rc_seq <| rc_region <| rl_op (by nofun) (op_alloc ty_4 rfl rfl (fun b11 => ?_))
  refine rl_op (by nofun) (op_store 0 ty_4 rfl rfl rfl rfl rfl (by rfl) (by rfl) ?_)
  refine rl_nil <| gx_then <| rc_seq <| rc_seq <| rc_region <| rl_op (by nofun) (op_rd rfl (rd_fieldAddr rfl (fa_31_1 _)) ?_)
  refine rl_op (by nofun) (op_rd rfl (rd_load Tryz.underlying29 rfl rfl (by exact ld_blk 8 rfl rfl)) ?_)
  refine rl_op (by nofun) (op_rd rfl (rd_lenSlice Tryz.underlying29 rfl) ?_)
  refine rl_op (by nofun) (op_rd rfl (rd_move rfl) ?_)
  refine rl_nil <| gx_then <| rc_block <| gk_nil 3 1 <| rc_loopM (ι := Nat × List Nat × Option Nat × Nat) [(3, _), (5, _), (6, _), (9, _), (10, _), (11, _), (30, _), (31, _)] [_, _, _, _, _, _, _, _] (fun q => q.1 ≤ h.ss.length) (fun q => q.2.1.map Go.Gv.mark) (fun q Fr0 => ((32, natV q.1) :: Fr0)) (fun q Fr0 => (HL.blk b10 ((bestR (whyK s h r0 p0 q.1)).cells (rowA q.2.2.1) q.2.2.2) 65 :: HL.blk b11 [.bool (whyK s h r0 p0 q.1).isSome] 4 :: HL.row 3 1 q.2.2.1 (bestR (whyK s h r0 p0 q.1)).ch.length q.2.2.2 ((bestR (whyK s h r0 p0 q.1)).ch.map natV) :: (Fr0 ++ (q.2.1.map markH)))) (fun q => h.ss.length - q.1) (0, [], none, 0) (Nat.zero_le _) rfl ⟨rfl, rfl, rfl, rfl, rfl, rfl, rfl, rfl, rfl, trivial⟩ ⟨[2, 1, 0, 3, 4, 5, 6, 7, 8, 9, 10], by decide, rfl⟩ ?_
  rintro ⟨k, Ds, rB, cB⟩ hk
  simp only at hk ⊢
  refine rc_seq <| rc_region <| rl_op (by nofun) (op_rd rfl (rd_lss rfl rfl) (gk_dec (fun h33 => ?_) (fun h33 => ?_)))
  · obtain ⟨i0, hi0⟩ := get_some (show k < h.ss.length by omega)
    obtain ⟨x, hx⟩ := get_some (hg.ssN i0 (List.mem_of_getElem? hi0))
    have hxm := List.mem_of_getElem? hx
    obtain ⟨hv0, hv1, hpo, hp12, hpb⟩ := Go.Sn.stop_ok hg hx
    have hpc := hle.pc x hxm
    obtain ⟨X, hX⟩ := get_some (show x.div.toNat < (actP (cxN s h)).sets.length by omega)
    have hXl := hset.lt X (List.mem_of_getElem? hX)
    have hbl := bitsOf_len X
    have hkX := keysP_at hA (show x.div.toNat < s.ds.length by omega) hX
    have hil : i0 < s.ss.length := (List.getElem?_eq_some_iff.1 hx).1
    have hdn : x.div = ((x.div.toNat : Nat) : Int) := by omega
    have hnx := whyK_next (r0 := r0) (p0 := p0) hi0 hx hkX
    refine rl_nil <| gx_then <| rc_seq <| rc_cond_t rfl <| rc_skip <| gx_then <| rc_seq <| rc_block <| rc_seq <| rc_region <| rl_op (by nofun) (op_rd rfl (rd_indexOld1 hH.t Tryz.underlying29 ty_3 rfl rfl (by omega) (by omega)) ?_)
    refine rl_op (by nofun) (op_rd rfl (rd_load Tryz.underlying3 rfl rfl (ld_slN hH.t (get_nz hi0))) ?_)
    refine rl_op (by nofun) (op_alloc ty_3 rfl rfl (fun b13 => ?_))
    refine rl_op (by nofun) (op_store 0 ty_3 rfl rfl rfl rfl rfl (by rfl) (by rfl) ?_)
    refine rl_nil <| gx_then <| rc_seq <| rc_region <| rl_op (by nofun) (op_rd rfl (rd_fieldAddr rfl (fa_27_2 _)) ?_)
    refine rl_op (by nofun) (op_rd rfl (rd_load Tryz.underlying24 rfl rfl (by exact ld_blk 11 rfl rfl)) ?_)
    refine rl_op (by nofun) (op_rd rfl (rd_load Tryz.underlying3 rfl rfl (by exact ld_blk 0 rfl rfl)) ?_)
    refine rl_op (by nofun) (op_rd rfl (rd_indexOld hS.t Tryz.underlying24 ty_56 rfl rfl (by omega) (by omega)) ?_)
    refine rl_op (by nofun) (op_rd rfl (rd_loadAgg Tryz.underlying56 rfl ty_56 rfl (cs_slN hS.t (flat_drop_get St.cells 5 (fun _ => rfl) hx)) rfl) ?_)
    refine rl_op (by nofun) (op_alloc ty_56 rfl rfl (fun b14 => ?_))
    refine rl_op (by nofun) (op_storeAgg 0 ty_56 rfl rfl rfl rfl rfl rfl (by rfl) ?_)
    refine rl_nil <| gx_then <| rc_seq ?_
    simp only [St.cells]
    rw [show Value.int .i64 x.div = natV x.div.toNat from congrArg (Value.int .i64) hdn]
    refine rc_drawP [0, 1, 2, 3, 4, 5, 6, 7, 8, 9, 10, 11, 12] true 8 rfl rfl <| ga_first 0 (bm 9 1) rfl rfl rfl rfl (by kernel_rfl) (by kernel_rfl) ⟨[0, 1, 2, 3, 4, 5, 6, 7, 8, 9, 10, 11, 12], by decide, rfl⟩ (qt_rd (rd_load Tryz.underlying93 rfl rfl (by exact ld_blk 5 rfl rfl))) ?_
    refine ga_first 1 (bm 9 3) rfl rfl rfl rfl (by kernel_rfl) (by kernel_rfl) ⟨[0, 1, 2, 3, 4, 5, 6, 7, 8, 9, 10, 11, 12], by decide, rfl⟩ (qt_rd (rd_nilCheck rfl)) ?_
    refine ga_first 2 (bm 9 7) rfl rfl rfl rfl (by kernel_rfl) (by kernel_rfl) ⟨[0, 1, 2, 3, 4, 5, 6, 7, 8, 9, 10, 11, 12], by decide, rfl⟩ (qt_rd (rd_fieldAddr rfl (fa_97_0 _))) ?_
    refine ga_first 3 (bm 9 15) rfl rfl rfl rfl (by kernel_rfl) (by kernel_rfl) ⟨[0, 1, 2, 3, 4, 5, 6, 7, 8, 9, 10, 11, 12], by decide, rfl⟩ (qt_rd (rd_load Tryz.underlying75 rfl rfl (by exact ld_blk 6 rfl rfl))) ?_
    refine ga_first 4 (bm 9 31) rfl rfl rfl rfl (by kernel_rfl) (by kernel_rfl) ⟨[0, 1, 2, 3, 4, 5, 6, 7, 8, 9, 10, 11, 12], by decide, rfl⟩ (qt_rd (rd_fieldAddr rfl (fa_56_1 _))) ?_
    refine ga_first 5 (bm 9 63) rfl rfl rfl rfl (by kernel_rfl) (by kernel_rfl) ⟨[0, 1, 2, 3, 4, 5, 6, 7, 8, 9, 10, 11, 12], by decide, rfl⟩ (qt_rd (rd_load Tryz.underlying3 rfl rfl (by exact ld_blk 0 rfl rfl))) ?_
    refine ga_first 6 (bm 9 127) rfl rfl rfl rfl (by kernel_rfl) (by kernel_rfl) ⟨[0, 1, 2, 3, 4, 5, 6, 7, 8, 9, 10, 11, 12], by decide, rfl⟩ (qt_rd (by exact rd_indexRow 7 rfl Tryz.underlying75 ty_87 rfl rfl (by omega) (by omega))) ?_
    refine ga_first 7 (bm 9 255) rfl rfl rfl rfl (by kernel_rfl) (by kernel_rfl) ⟨[0, 1, 2, 3, 4, 5, 6, 7, 8, 9, 10, 11, 12], by decide, rfl⟩ (qt_rd (rd_loadAgg Tryz.underlying87 rfl ty_87 rfl (cs_row 7 (a := some k27) rfl (flat_drop_get setC 2 (fun _ => rfl) hX)) rfl)) ?_
    simp only [setC]
    refine ga_only 8 (bm 9 511) rfl rfl (by kernel_rfl) (by kernel_rfl) (.inr ⟨[0, 1, 2, 3, 4, 5, 6, 7, 8, 9, 10, 11, 12], by decide, rfl⟩) (op_call rfl (vf := []) (vc := []) rfl rfl Tryz.call36 (fun w1 ho => all_ok X w1) ?_)
    rintro _ _ ⟨bx, rfl, rfl⟩
    refine ga_end (by kernel_rfl) (.inr ⟨[1, 2, 3, 4, 5, 6, 7, 8, 9, 10, 11, 12, 13], by decide, rfl⟩) ?_
    refine gx_then <| rc_block <| gk_env [(3, _), (5, _), (6, _), (9, _), (10, _), (11, _), (13, _), (14, _), (30, _), (31, _), (32, _), (33, _), (34, _), (35, _), (36, _), (37, _), (38, _), (39, _), (40, _), (41, _), (42, _), (43, _), (44, _), (45, _), (46, _), (47, _), (48, _), (49, _)] ⟨rfl, rfl, rfl, rfl, rfl, rfl, rfl, rfl, rfl, rfl, rfl, rfl, rfl, rfl, rfl, rfl, rfl, rfl, rfl, rfl, rfl, rfl, rfl, rfl, rfl, rfl, rfl, rfl, trivial⟩ ?_
    refine rc_rangeF (β := Nat) (N := (bitsOf X).length) (xs := fun i => natV ((bitsOf X).getD i 0)) (gf := 60) (caps := [.pointer (some ⟨bx, 0, none⟩)]) (fun i b => [(15, .pointer (some ⟨b, 0, none⟩))]) (fun i b => [.blk b [natV ((bitsOf X).getD i 0)] 3]) rfl Tryz.call60 rfl (fun i L => ∃ r c, L = [HL.blk bx (setC X) 87, .blk b14 [.string x.name, natV x.div.toNat, .int .i64 x.num, .int .i64 x.den, .slice x.pa x.ps.length x.pc] 56, .blk b13 [natV i0] 3, HL.blk b10 ((bestR (whyI s h r0 p0 (whyK s h r0 p0 k) i0 x (bitsOf X) i)).cells (rowA r) c) 65, HL.blk b11 [.bool (whyI s h r0 p0 (whyK s h r0 p0 k) i0 x (bitsOf X) i).isSome] 4, HL.row 3 1 r (bestR (whyI s h r0 p0 (whyK s h r0 p0 k) i0 x (bitsOf X) i)).ch.length c ((bestR (whyI s h r0 p0 (whyK s h r0 p0 k) i0 x (bitsOf X) i)).ch.map natV), .blk b9 [.pointer (some ⟨b30, 0, none⟩)] 93, .blk b30 [.slice (rowA (some k27)) s.ds.length c27, .map (some m28)] 97, .row 87 2 (some k27) s.ds.length c27 ((actP (cxN s h)).sets.flatMap setC), .obj m28 (actO (actP (cxN s h)).tb), HL.blk b6 ((bestR none).cells none 0) 65, .blk b5 [.int .i64 r0, .int .i64 p0] 69, .blk b4 h.val.cells.toList 31, .blk b3 s.val.cells.toList 27] ++ Ds.map markH) (fun _ _ _ => False) (fun L => HL.blk bx (setC X) 87 ∈ L) (fun i L hd h => by
      rcases h with ⟨r, c, rfl⟩ | ⟨c, h⟩
      · exact List.mem_append_right _ (List.mem_append_left _ List.mem_cons_self)
      · exact h.elim) (⟨rB, cB, by rw [whyI_zero]; rfl⟩) (fun lb J Jx hG w1 L hY hJ hO => allIt_ok X hXl bx lb J Jx hG w1 L hY hJ hO.self (hT.at hO (by decide)) (old_out hO hT.lt (by decide))) ?_ ?_ ?_ ?_
    · intro i lb w1 S1 L1 K1 Q1 hk1
      refine rc_region <| rl_op (by nofun) (op_alloc ty_3 rfl rfl (fun b15 => ?_))
      refine rl_op (by nofun) (op_store 0 ty_3 rfl rfl rfl rfl rfl (by rfl) (by rfl) ?_)
      refine rl_nil <| gx_then ?_
      exact gk_env _ (by exact ⟨rfl, rfl, rfl, rfl, rfl, rfl, rfl, rfl, rfl, rfl, rfl, rfl, rfl, rfl, rfl, rfl, rfl, rfl, rfl, rfl, rfl, rfl, rfl, rfl, rfl, rfl, rfl, rfl, rfl, trivial⟩) (hk1 b15)
    · intro i hi L hI lb D rec w1 S1 b15 rec9 hO9 hS9
      obtain ⟨r, c, rfl⟩ := hI
      have hS1 := hS.atS (Sc := S1) hO9 (by rw [hS9]; exact own_new hO9)
      obtain ⟨n, hn⟩ := get_some hi
      have hnn : (bitsOf X).getD i 0 = n := getD_some hn
      have hnb := bitsOf_mem.1 (List.mem_of_getElem? hn)
      obtain ⟨v, hv⟩ := (hset.has (x.div.toNat, n) (show x.div.toNat < s.ds.length by omega)).1 (by unfold hasS; rw [getD_some hX]; exact hnb.2)
      have hsh := ((act_chains hA).best _ _ hv).short hA
      rw [hnn]
      refine rc_block <| rc_seq <| rc_region <| rl_op (by nofun) (op_rd rfl (rd_fieldAddr rfl (fa_56_3 _)) ?_)
      refine rl_op (by nofun) (op_rd rfl (rd_load Tryz.underlying54 rfl rfl (by exact ld_blk 4 rfl rfl)) ?_)
      refine rl_op (by nofun) (op_rd rfl (rd_makeFunc (fs := []) (cs := [.tmp 5, .tmp 15]) rfl rfl) ?_)
      refine rl_op (by nofun) (op_call rfl (vf := []) (vc := []) rfl rfl Tryz.call37 (fun w1 ho => containsPt_ok x n r0 p0 (by omega) hpb b5 b15 w1 ((hS1.p x hxm).at ho) (blkSl ho 14 rfl rfl) (blkSl ho 0 rfl rfl)) ?_)
      rintro _ _ ⟨rfl, rfl⟩
      refine gk_bool (fun hpz => ?_) (fun hpz => ?_)
      · refine rl_op (by nofun) (op_rd rfl (rd_assign rfl) ?_)
        refine rl_nil <| gx_then <| rc_seq <| rc_seq <| rc_region <| rl_op (by nofun) (op_rd rfl (rd_move rfl) ?_)
        refine rl_op (by nofun) (op_rd rfl (rd_not rfl) ?_)
        refine rl_nil <| gx_then <| rc_cond_f rfl <| rc_skip <| gx_then <| rc_seq <| rc_region <| rl_op (by nofun) (op_rd rfl (rd_load Tryz.underlying93 rfl rfl (by exact ld_blk 9 rfl rfl)) ?_)
        refine rl_op (by nofun) (op_rd rfl (rd_fieldAddr rfl (fa_56_1 _)) ?_)
        refine rl_op (by nofun) (op_rd rfl (rd_load Tryz.underlying3 rfl rfl (by exact ld_blk 4 rfl rfl)) ?_)
        refine rl_op (by nofun) (op_rd rfl (rd_load Tryz.underlying3 rfl rfl (by exact ld_blk 0 rfl rfl)) ?_)
        refine rl_op (by nofun) (op_rd rfl (rd_build rfl (fun _ => bd_107_0_1 _ _)) ?_)
        refine rl_op (by nofun) (op_callMT [_, _, _, _, _, _, _, _, _, _, _, _, _, _, _, _, _] (Ds.map markH) [10, 12] [0, 1, 2, 3, 4, 5, 6, 7, 8, 9, 11, 13, 14, 15, 16] 17 rfl rfl rfl (vf := []) (vc := []) rfl rfl Tryz.call39 (by decide) (by decide) rfl (fun w how hc => chain_ok s.ds.length b30 k27 c27 m28 (actP (cxN s h)).tb (act_lk hA) (x.div.toNat, n) v hv (by omega) _ w hc) ?_)
        rintro _ _ ⟨r63, c63, rfl, rfl⟩
        refine rl_op (by nofun) (op_rd rfl (rd_move rfl) ?_)
        refine rl_op (by nofun) (op_rd rfl (rd_extract rfl rfl) ?_)
        refine rl_op (by nofun) (op_rd rfl (rd_extract rfl rfl) ?_)
        refine rl_op (by nofun) (op_alloc ty_107 rfl rfl (fun b17 => ?_))
        refine rl_op (by nofun) (op_storeAgg 0 ty_107 rfl rfl rfl rfl rfl rfl (by rfl) ?_)
        refine rl_op (by nofun) (op_rd rfl (rd_assign rfl) ?_)
        refine rl_nil <| gx_then <| rc_seq <| rc_region <| rl_op (by nofun) (op_rd rfl (rd_load Tryz.underlying4 rfl rfl (by exact ld_blk 11 rfl rfl)) ?_)
        refine gk_bool (fun h66 => ?_) (fun h66 => ?_)
        · refine rl_op (by nofun) (op_rd rfl (rd_not rfl) ?_)
          refine rl_op (by nofun) (op_rd rfl (rd_move rfl) ?_)
          refine rl_yes (by nofun) rfl rfl (op_rd rfl (rd_move rfl) ?_)
          refine rl_yes (by nofun) rfl rfl (op_rd rfl (rd_lenSlice Tryz.underlying29 rfl) ?_)
          refine rl_yes (by nofun) rfl rfl (op_rd rfl (rd_fieldAddr rfl (fa_65_2 _)) ?_)
          refine rl_yes (by nofun) rfl rfl (op_rd rfl (rd_load Tryz.underlying29 rfl rfl (by exact ld_blk 10 rfl rfl)) ?_)
          refine rl_yes (by nofun) rfl rfl (op_rd rfl (rd_lenSlice Tryz.underlying29 rfl) ?_)
          refine rl_yes (by nofun) rfl rfl (op_rd rfl (rd_lss rfl rfl) (gk_dec (fun h74 => ?_) (fun h74 => ?_)))
          · have hch : (whyI s h r0 p0 (whyK s h r0 p0 k) i0 x (bitsOf X) i) = none ∨ v.2.length < (bestR (whyI s h r0 p0 (whyK s h r0 p0 k) i0 x (bitsOf X) i)).ch.length := .inr (by omega)
            refine rl_op (by nofun) (op_rd rfl (rd_pick_f rfl rfl) ?_)
            refine rl_nil <| gx_then <| rc_cond_t rfl <| rc_seq <| rc_region <| rl_op (by nofun) (op_rd rfl (rd_fieldAddr rfl (fa_107_0 _)) ?_)
            refine rl_op (by nofun) (op_rd rfl (rd_load Tryz.underlying3 rfl rfl (by exact ld_blk 0 rfl rfl)) ?_)
            refine rl_op (by nofun) (op_rd rfl (rd_fieldAddr rfl (fa_107_1 _)) ?_)
            refine rl_op (by nofun) (op_rd rfl (rd_load Tryz.underlying3 rfl rfl (by exact ld_blk 0 rfl rfl)) ?_)
            refine rl_op (by nofun) (op_rd rfl (rd_move rfl) ?_)
            refine rl_op (by nofun) (op_rd rfl (rd_fieldAddr rfl (fa_56_1 _)) ?_)
            refine rl_op (by nofun) (op_rd rfl (rd_load Tryz.underlying3 rfl rfl (by exact ld_blk 8 rfl rfl)) ?_)
            refine rl_op (by nofun) (op_rd rfl (rd_load Tryz.underlying3 rfl rfl (by exact ld_blk 4 rfl rfl)) ?_)
            refine rl_op (by nofun) (op_rd rfl (rd_load Tryz.underlying3 rfl rfl (by exact ld_blk 9 rfl rfl)) ?_)
            refine rl_op (by nofun) (op_rd rfl (rd_build rfl (fun _ => bd_65_0_1_2_3_4_5 _ _ _ _ _ _ _ _)) ?_)
            refine rl_op (by nofun) (op_storeAgg 10 ty_65 rfl rfl rfl rfl rfl rfl (by rfl) ?_)
            refine rl_nil <| gx_then <| rc_region <| rl_op (by nofun) (op_store 11 ty_4 rfl rfl rfl rfl rfl (by rfl) (by rfl) ?_)
            refine rl_nil <| gx_block ?_
            have hws : (whyI s h r0 p0 (whyK s h r0 p0 k) i0 x (bitsOf X) (i + 1)) = (some ⟨v.1.1, v.1.2, v.2, x.div.toNat, n, i0⟩) := by rw [whyI_snoc hn]; exact stepW_yes hpz hv hch
            rw [show HL.blk b10 [natV v.1.1, natV v.1.2, .slice (rowA r63) v.2.length c63, natV x.div.toNat, natV n, natV i0] 65 = HL.blk b10 ((bestR (whyI s h r0 p0 (whyK s h r0 p0 k) i0 x (bitsOf X) (i + 1))).cells (rowA r63) c63) 65 by rw [hws]; rfl, show HL.blk b11 ([.bool (whyI s h r0 p0 (whyK s h r0 p0 k) i0 x (bitsOf X) i).isSome].set 0 (.bool true)) 4 = HL.blk b11 [.bool (whyI s h r0 p0 (whyK s h r0 p0 k) i0 x (bitsOf X) (i + 1)).isSome] 4 by rw [hws]; rfl, show HL.row 3 1 r63 v.2.length c63 (v.2.map natV) = HL.row 3 1 r63 (bestR (whyI s h r0 p0 (whyK s h r0 p0 k) i0 x (bitsOf X) (i + 1))).ch.length c63 ((bestR (whyI s h r0 p0 (whyK s h r0 p0 k) i0 x (bitsOf X) (i + 1))).ch.map natV) by rw [hws]; rfl]
            exact rp_normal _ (⟨r63, c63, rfl⟩) (sub_tail (A := [_, _, _, _, _, _, _, _, _, _, _, _, _, _, _, _]) (B := [_, _, _, _, _, _, _, _, _, _, _, _, _, _, _, _, _, _, _]) (T := (Ds.map markH)) [5, 6, 7, 8, 9, 10, 11, 3, 13, 1, 14, 2, 15, 16, 17, 18] 19 (by decide) (by decide) rfl rfl)
          obtain ⟨u, hbu⟩ : ∃ u, (whyI s h r0 p0 (whyK s h r0 p0 k) i0 x (bitsOf X) i) = some u := Option.isSome_iff_exists.1 h66
          have hch : ¬ v.2.length < u.ch.length := by rw [hbu] at h74; have h9 : (bestR (some u)) = u := rfl; rw [h9] at h74; omega
          refine rl_op (by nofun) (op_rd rfl (rd_pick_f rfl rfl) ?_)
          refine rl_nil <| gx_then <| rc_cond_f rfl <| rc_skip <| gx_block ?_
          have hws : (whyI s h r0 p0 (whyK s h r0 p0 k) i0 x (bitsOf X) (i + 1)) = (whyI s h r0 p0 (whyK s h r0 p0 k) i0 x (bitsOf X) i) := by rw [whyI_snoc hn, hbu]; exact stepW_old hpz hv hch
          rw [← hws]
          exact rp_normal _ (⟨r, c, rfl⟩) (sub_tail (A := [_, _, _, _, _, _, _, _, _, _, _, _, _, _, _, _]) (B := [_, _, _, _, _, _, _, _, _, _, _, _, _, _, _, _, _, _, _]) (T := (Ds.map markH)) [5, 6, 7, 8, 9, 10, 11, 12, 13, 1, 14, 2, 15, 16, 17, 18] 19 (by decide) (by decide) rfl rfl)
        have hch : (whyI s h r0 p0 (whyK s h r0 p0 k) i0 x (bitsOf X) i) = none ∨ v.2.length < (bestR (whyI s h r0 p0 (whyK s h r0 p0 k) i0 x (bitsOf X) i)).ch.length := .inl (by cases hq : (whyI s h r0 p0 (whyK s h r0 p0 k) i0 x (bitsOf X) i) with
          | none => rfl
          | some u => rw [hq] at h66; cases h66)
        refine rl_op (by nofun) (op_rd rfl (rd_not rfl) ?_)
        refine rl_op (by nofun) (op_rd rfl (rd_move rfl) ?_)
        refine rl_no rfl rfl rfl <| rl_no rfl rfl rfl <| rl_no rfl rfl rfl <| rl_no rfl rfl rfl <| rl_no rfl rfl rfl <| rl_no rfl rfl rfl <| rl_op (by nofun) (op_rd rfl (rd_pick_t rfl rfl) ?_)
        refine rl_nil <| gx_then <| rc_cond_t rfl <| rc_seq <| rc_region <| rl_op (by nofun) (op_rd rfl (rd_fieldAddr rfl (fa_107_0 _)) ?_)
        refine rl_op (by nofun) (op_rd rfl (rd_load Tryz.underlying3 rfl rfl (by exact ld_blk 0 rfl rfl)) ?_)
        refine rl_op (by nofun) (op_rd rfl (rd_fieldAddr rfl (fa_107_1 _)) ?_)
        refine rl_op (by nofun) (op_rd rfl (rd_load Tryz.underlying3 rfl rfl (by exact ld_blk 0 rfl rfl)) ?_)
        refine rl_op (by nofun) (op_rd rfl (rd_move rfl) ?_)
        refine rl_op (by nofun) (op_rd rfl (rd_fieldAddr rfl (fa_56_1 _)) ?_)
        refine rl_op (by nofun) (op_rd rfl (rd_load Tryz.underlying3 rfl rfl (by exact ld_blk 8 rfl rfl)) ?_)
        refine rl_op (by nofun) (op_rd rfl (rd_load Tryz.underlying3 rfl rfl (by exact ld_blk 4 rfl rfl)) ?_)
        refine rl_op (by nofun) (op_rd rfl (rd_load Tryz.underlying3 rfl rfl (by exact ld_blk 9 rfl rfl)) ?_)
        refine rl_op (by nofun) (op_rd rfl (rd_build rfl (fun _ => bd_65_0_1_2_3_4_5 _ _ _ _ _ _ _ _)) ?_)
        refine rl_op (by nofun) (op_storeAgg 10 ty_65 rfl rfl rfl rfl rfl rfl (by rfl) ?_)
        refine rl_nil <| gx_then <| rc_region <| rl_op (by nofun) (op_store 11 ty_4 rfl rfl rfl rfl rfl (by rfl) (by rfl) ?_)
        refine rl_nil <| gx_block ?_
        have hws : (whyI s h r0 p0 (whyK s h r0 p0 k) i0 x (bitsOf X) (i + 1)) = (some ⟨v.1.1, v.1.2, v.2, x.div.toNat, n, i0⟩) := by rw [whyI_snoc hn]; exact stepW_yes hpz hv hch
        rw [show HL.blk b10 [natV v.1.1, natV v.1.2, .slice (rowA r63) v.2.length c63, natV x.div.toNat, natV n, natV i0] 65 = HL.blk b10 ((bestR (whyI s h r0 p0 (whyK s h r0 p0 k) i0 x (bitsOf X) (i + 1))).cells (rowA r63) c63) 65 by rw [hws]; rfl, show HL.blk b11 ([.bool (whyI s h r0 p0 (whyK s h r0 p0 k) i0 x (bitsOf X) i).isSome].set 0 (.bool true)) 4 = HL.blk b11 [.bool (whyI s h r0 p0 (whyK s h r0 p0 k) i0 x (bitsOf X) (i + 1)).isSome] 4 by rw [hws]; rfl, show HL.row 3 1 r63 v.2.length c63 (v.2.map natV) = HL.row 3 1 r63 (bestR (whyI s h r0 p0 (whyK s h r0 p0 k) i0 x (bitsOf X) (i + 1))).ch.length c63 ((bestR (whyI s h r0 p0 (whyK s h r0 p0 k) i0 x (bitsOf X) (i + 1))).ch.map natV) by rw [hws]; rfl]
        exact rp_normal _ (⟨r63, c63, rfl⟩) (sub_tail (A := [_, _, _, _, _, _, _, _, _, _, _, _, _, _, _, _]) (B := [_, _, _, _, _, _, _, _, _, _, _, _, _, _, _, _, _, _, _]) (T := (Ds.map markH)) [5, 6, 7, 8, 9, 10, 11, 3, 13, 1, 14, 2, 15, 16, 17, 18] 19 (by decide) (by decide) rfl rfl)
      refine rl_op (by nofun) (op_rd rfl (rd_assign rfl) ?_)
      refine rl_nil <| gx_then <| rc_seq <| rc_seq <| rc_region <| rl_op (by nofun) (op_rd rfl (rd_move rfl) ?_)
      refine rl_op (by nofun) (op_rd rfl (rd_not rfl) ?_)
      refine rl_nil <| gx_then <| rc_cond_t rfl <| rc_exit <| gx_then_exit <| gx_block_exit ?_
      have hws : (whyI s h r0 p0 (whyK s h r0 p0 k) i0 x (bitsOf X) (i + 1)) = (whyI s h r0 p0 (whyK s h r0 p0 k) i0 x (bitsOf X) i) := by rw [whyI_snoc hn]; exact stepW_no hpz
      rw [← hws]
      exact rp_normal _ (⟨r, c, rfl⟩) (sub_tail (A := [_, _, _, _, _, _, _, _, _, _, _, _, _, _, _, _]) (B := [_, _, _, _, _, _, _, _, _, _, _, _, _, _, _, _, _]) (T := (Ds.map markH)) [1, 2, 3, 4, 5, 6, 7, 8, 9, 10, 11, 12, 13, 14, 15, 16] 17 (by decide) (by decide) rfl rfl)
    · intro D L hI
      obtain ⟨r, c, rfl⟩ := hI
      rw [hnx]
      refine gk_front [_, _, _, _, _, _, _, _, _, _, _, _, _, _, _] [_, _, _, _, _, _, _, _, _, _, _, _, _, _] (Ds.map markH) [1, 2, 3, 4, 5, 6, 7, 8, 9, 10, 11, 12, 13, 14] 0 15 rfl (x := markH D) rfl rfl (by decide) (by decide) ?_
      refine gx_block <| gx_block <| gx_then <| rc_region <| rl_op (by nofun) (op_rd rfl (by exact rd_addN (b := 1) rfl rfl (by omega)) ?_)
      refine rl_op (by nofun) (op_rd rfl (rd_move rfl) ?_)
      refine rl_nil <| gx_then ?_
      exact gx_cutM ((k + 1, D :: Ds, r, c)) ⟨by simp only; omega, by simp only; omega⟩ rfl ⟨rfl, rfl, rfl, rfl, rfl, rfl, rfl, rfl, rfl, trivial⟩ (sub_tail (A := [_, _, _, _, _, _, _, _, _, _, _]) (B := [_, _, _, _, _, _, _, _, _, _, _, _, _, _]) (T := ((D :: Ds).map markH)) [3, 4, 5, 6, 7, 8, 9, 10, 11, 12, 13] 14 (by decide) (by decide) rfl rfl)
    · intro D c i L hi hI
      exact hI.elim
  refine rl_nil <| gx_then <| rc_seq <| rc_cond_f rfl <| rc_exit <| gx_then_exit <| gx_then_exit <| gx_block_exit <| gx_then <| rc_seq <| rc_seq <| rc_region <| rl_op (by nofun) (op_rd rfl (rd_load Tryz.underlying4 rfl rfl (by exact ld_blk 1 rfl rfl)) ?_)
  refine gk_bool (fun h87 => ?_) (fun h87 => ?_)
  · refine rl_op (by nofun) (op_rd rfl (rd_not rfl) ?_)
    refine rl_nil <| gx_then <| rc_cond_f rfl <| rc_skip <| gx_then <| rc_seq <| rc_region <| rl_op (by nofun) (op_rd rfl (rd_loadAgg Tryz.underlying65 rfl ty_65 rfl (by exact cs_blk 0 (off := 0) (k := 6) rfl rfl) rfl) ?_)
    refine rl_op (by nofun) (op_storeAgg 7 ty_65 rfl rfl rfl rfl rfl rfl (by rfl) ?_)
    refine rl_op (by nofun) (op_rd rfl (rd_assign rfl) ?_)
    refine rl_nil <| gx_then <| rc_ret ?_
    have hk9 : k = h.ss.length := by omega
    subst hk9
    refine gk_sub (sub_tail (A := [_, _]) (B := [_, _, _, _, _, _, _, _, _, _, _]) (T := (Ds.map markH)) [7, 2] 11 (by decide) (by decide) rfl rfl) ?_
    refine gk_sub (sub_rot [_, _] (Ds.map markH)) ?_
    obtain ⟨u, hbu⟩ : ∃ u, (whyK s h r0 p0 h.ss.length) = some u := Option.isSome_iff_exists.1 h87
    rw [hbu]
    refine gx_retMV2 Ds (.inl rfl) Tryz.results20 (rv_agg Tryz.underlying65 rfl ty_65 rfl (by rfl) (cs_blk 0 (off := 0) (k := 6) rfl rfl)) (rv_tmp rfl) (Sub.refl' _) ?_
    exact ⟨b6, .inr ⟨by omega, h, rfl, hg, .inr ⟨u, rB, cB, hbu, rfl, rfl⟩⟩⟩
  refine rl_op (by nofun) (op_rd rfl (rd_not rfl) ?_)
  refine rl_nil <| gx_then <| rc_cond_t rfl <| rc_seq <| rc_region <| rl_op (by nofun) (op_rd rfl (rd_build rfl (fun _ => bd_65_)) ?_)
  refine rl_op (by nofun) (op_storeAgg 7 ty_65 rfl rfl rfl rfl rfl rfl (by rfl) ?_)
  refine rl_op (by nofun) (op_rd rfl (rd_assign rfl) ?_)
  refine rl_nil <| gx_then <| rc_ret <| gx_then_ret ?_
  have hk9 : k = h.ss.length := by omega
  subst hk9
  refine gk_sub (sub_tail (A := [_]) (B := [_, _, _, _, _, _, _, _, _, _, _]) (T := (Ds.map markH)) [7] 11 (by decide) (by decide) rfl rfl) ?_
  refine gk_sub (sub_rot [_] (Ds.map markH)) <| gx_retMV2 Ds (.inl rfl) Tryz.results20 (rv_agg Tryz.underlying65 rfl ty_65 rfl (by rfl) (cs_blk 0 (off := 0) (k := 6) rfl rfl)) (rv_tmp rfl) (Sub.refl' _) ?_
  refine ⟨b6, .inr ⟨by omega, h, rfl, hg, .inl ⟨?_, rfl, rfl⟩⟩⟩
  cases hq : (whyK s h r0 p0 h.ss.length) with
  | none => rfl
  | some u => rw [hq] at h87; cases h87
end Go.Proofs.YtbjijbbkfgcleaaGreatDoor
namespace Go.Proofs.YtbjijbbkfgcleaaGreatDoor
open Go.Gv
open Go.RowKit
open Go.Sn
open Sx
set_option maxRecDepth 100000 in
set_option maxHeartbeats 1000000 in
theorem far12_ok (h : Hd) (hhe : HdLe h) (w0 : World) (hH : HdIn h w0 []) : Sp Tryz.prog 6 [h.val] w0 [] (fun v L => ∃ b, v = .bool b ∧ L = []) := by
  have hks := hhe.k
  refine spec_enter Tryz.func6 rfl Tryz.ntmps6 rfl (Own.refl _) ?_
  simp only [argEnv]
  refine gc_seq <| gc_region <| gl_op (op_box rfl rfl rfl (fun b1 => ?_))
  refine gl_op <| op_rd rfl (rd_assign rfl) <| gl_nil <| gx_then <| gc_seq <| gc_seq <| gc_region <| gl_op <| op_rd rfl (rd_fieldAddr rfl (fa_31_0 _)) <| gl_op (op_rd rfl (rd_load Tryz.underlying28 rfl rfl (by exact ld_blk 0 rfl rfl)) ?_)
  refine gl_op <| op_rd rfl (rd_lenSlice Tryz.underlying28 rfl) <| gl_op (op_rd rfl (rd_gtr rfl rfl) (gk_dec (fun h7 => ?_) (fun h7 => ?_)))
  · refine gl_op <| op_rd rfl (rd_move rfl) <| gl_no rfl rfl rfl <| gl_no rfl rfl rfl <| gl_no rfl rfl rfl <| gl_no rfl rfl rfl <| gl_op <| op_rd rfl (rd_pick_t rfl rfl) <| gl_op <| op_rd rfl (rd_move rfl) <| gl_no rfl rfl rfl <| gl_no rfl rfl rfl <| gl_no rfl rfl rfl <| gl_no rfl rfl rfl <| gl_op <| op_rd rfl (rd_pick_t rfl rfl) <| gl_nil <| gx_then <| gc_cond_t rfl <| gc_seq <| gc_region <| gl_op <| op_rd rfl (rd_assign rfl) <| gl_nil <| gx_then <| gc_ret <| gx_then_ret <| gx_ret1 (.inl rfl) Tryz.results6 rfl [] (by decide) ?_
    exact ⟨_, rfl, rfl⟩
  refine gl_op <| op_rd rfl (rd_move rfl) <| gl_yes rfl rfl <| op_rd rfl (rd_fieldAddr rfl (fa_31_1 _)) <| gl_yes rfl rfl (op_rd rfl (rd_load Tryz.underlying29 rfl rfl (by exact ld_blk 0 rfl rfl)) ?_)
  refine gl_yes rfl rfl <| op_rd rfl (rd_lenSlice Tryz.underlying29 rfl) <| gl_yes rfl rfl (op_rd rfl (rd_gtr rfl rfl) (gk_dec (fun h12 => ?_) (fun h12 => ?_)))
  · refine gl_op <| op_rd rfl (rd_pick_f rfl rfl) <| gl_op <| op_rd rfl (rd_move rfl) <| gl_no rfl rfl rfl <| gl_no rfl rfl rfl <| gl_no rfl rfl rfl <| gl_no rfl rfl rfl <| gl_op <| op_rd rfl (rd_pick_t rfl rfl) <| gl_nil <| gx_then <| gc_cond_t rfl <| gc_seq <| gc_region <| gl_op <| op_rd rfl (rd_assign rfl) <| gl_nil <| gx_then <| gc_ret <| gx_then_ret <| gx_ret1 (.inl rfl) Tryz.results6 rfl [] (by decide) ?_
    exact ⟨_, rfl, rfl⟩
  refine gl_op <| op_rd rfl (rd_pick_f rfl rfl) <| gl_op <| op_rd rfl (rd_move rfl) <| gl_yes rfl rfl <| op_rd rfl (rd_fieldAddr rfl (fa_31_2 _)) <| gl_yes rfl rfl (op_rd rfl (rd_load Tryz.underlying29 rfl rfl (by exact ld_blk 0 rfl rfl)) ?_)
  refine gl_yes rfl rfl <| op_rd rfl (rd_lenSlice Tryz.underlying29 rfl) <| gl_yes rfl rfl (op_rd rfl (rd_gtr rfl rfl) (gk_dec (fun h18 => ?_) (fun h18 => ?_)))
  · refine gl_op <| op_rd rfl (rd_pick_f rfl rfl) <| gl_nil <| gx_then <| gc_cond_t rfl <| gc_seq <| gc_region <| gl_op <| op_rd rfl (rd_assign rfl) <| gl_nil <| gx_then <| gc_ret <| gx_then_ret <| gx_ret1 (.inl rfl) Tryz.results6 rfl [] (by decide) ?_
    exact ⟨_, rfl, rfl⟩
  refine gl_op <| op_rd rfl (rd_pick_f rfl rfl) <| gl_nil <| gx_then <| gc_cond_f rfl <| gc_skip <| gx_then <| gc_seq <| gc_seq <| gc_region <| gl_op <| op_rd rfl (rd_assign rfl) <| gl_nil <| gx_then <| gc_block <| gc_loopF (ι := Nat) [(1, _)] [_] (fun k => k ≤ h.ks.length) (fun k Fr0 => ((3, natV k) :: Fr0)) (fun k Fr0 => Fr0) (fun k => h.ks.length - k) 0 (Nat.zero_le _) ⟨rfl, rfl, trivial⟩ ⟨[0], by decide, rfl⟩ ?_
  rintro k hk
  refine gc_seq <| gc_seq <| gc_region <| gl_op <| op_rd rfl (rd_move rfl) <| gl_op <| op_rd rfl (rd_fieldAddr rfl (fa_31_0 _)) <| gl_op (op_rd rfl (rd_load Tryz.underlying28 rfl rfl (by exact ld_blk 0 rfl rfl)) ?_)
  refine gl_op <| op_rd rfl (rd_lenSlice Tryz.underlying28 rfl) <| gl_op (op_rd rfl (rd_lss rfl rfl) (gk_dec (fun h24 => ?_) (fun h24 => ?_)))
  · obtain ⟨r, hr⟩ := get_some (show k < h.ks.length by omega)
    refine gl_nil <| gx_then <| gc_cond_t rfl <| gc_skip <| gx_then <| gc_seq <| gc_block <| gc_seq <| gc_region <| gl_op <| op_rd rfl (rd_fieldAddr rfl (fa_31_0 _)) <| gl_op (op_rd rfl (rd_load Tryz.underlying28 rfl rfl (by exact ld_blk 0 rfl rfl)) ?_)
    refine gl_op <| op_rd rfl (rd_move rfl) <| gl_op (op_rd rfl (rd_indexOld1 hH.k Tryz.underlying28 ty_29 rfl rfl (by omega) (by omega)) ?_)
    refine gl_op <| op_rd rfl (rd_load Tryz.underlying29 rfl rfl (ld_slN hH.k (get_row hr))) <| gl_op <| op_rd rfl (rd_lenSlice Tryz.underlying29 rfl) <| gl_op (op_rd rfl (rd_gtr rfl rfl) (gk_dec (fun h33 => ?_) (fun h33 => ?_)))
    · refine gl_nil <| gx_then <| gc_cond_t rfl <| gc_seq <| gc_region <| gl_op <| op_rd rfl (rd_assign rfl) <| gl_nil <| gx_then <| gc_ret <| gx_block_ret <| gx_then_ret <| gx_then_ret <| gx_block_ret <| gx_then_ret <| gx_ret1 (.inl rfl) Tryz.results6 rfl [] (by decide) ?_
      exact ⟨_, rfl, rfl⟩
    refine gl_nil <| gx_then <| gc_cond_f rfl <| gc_skip <| gx_block <| gx_then <| gc_region <| gl_op <| op_rd rfl (rd_move rfl) <| gl_op (op_rd rfl (by exact rd_addN (b := 1) rfl rfl (by omega)) ?_)
    refine gl_op <| op_rd rfl (rd_assign rfl) <| gl_nil <| gx_then ?_
    exact gx_cut (k + 1) ⟨by omega, by omega⟩ ⟨rfl, rfl, trivial⟩ ⟨[0], by decide, rfl⟩
  refine gl_nil <| gx_then <| gc_cond_f rfl <| gc_exit <| gx_then_exit <| gx_then_exit <| gx_block_exit <| gx_then <| gc_seq <| gc_region <| gl_op <| op_rd rfl (rd_assign rfl) <| gl_nil <| gx_then <| gc_ret <| gx_ret1 (.inl rfl) Tryz.results6 rfl [] (by decide) ?_
  exact ⟨_, rfl, rfl⟩
set_option maxRecDepth 100000 in
set_option maxHeartbeats 1000000 in
theorem far10_ok (s : Org) (hle : OrgLe s) (w0 : World) (hS : OrgIn s w0 []) : Sp Tryz.prog 5 [s.val] w0 [] (fun v L => ∃ b, v = .bool b ∧ L = []) := by
  have h1 := hle.d
  have h2 := hle.r
  have h3 := hle.t
  have h4 := hle.c
  refine spec_enter Tryz.func5 rfl Tryz.ntmps5 rfl (Own.refl _) ?_
  simp only [argEnv]
  refine gc_seq <| gc_region <| gl_op (op_box rfl rfl rfl (fun b1 => ?_))
  refine gl_op <| op_rd rfl (rd_assign rfl) <| gl_nil <| gx_then <| gc_seq <| gc_seq <| gc_region <| gl_op <| op_rd rfl (rd_fieldAddr rfl (fa_27_0 _)) <| gl_op (op_rd rfl (rd_load Tryz.underlying22 rfl rfl (by exact ld_blk 0 rfl rfl)) ?_)
  refine gl_op <| op_rd rfl (rd_lenSlice Tryz.underlying22 rfl) <| gl_op (op_rd rfl (rd_gtr rfl rfl) (gk_dec (fun h11 => ?_) (fun h11 => ?_)))
  · refine gl_op <| op_rd rfl (rd_move rfl) <| gl_no rfl rfl rfl <| gl_no rfl rfl rfl <| gl_no rfl rfl rfl <| gl_no rfl rfl rfl <| gl_op <| op_rd rfl (rd_pick_t rfl rfl) <| gl_op <| op_rd rfl (rd_move rfl) <| gl_no rfl rfl rfl <| gl_no rfl rfl rfl <| gl_no rfl rfl rfl <| gl_no rfl rfl rfl <| gl_op <| op_rd rfl (rd_pick_t rfl rfl) <| gl_op <| op_rd rfl (rd_move rfl) <| gl_no rfl rfl rfl <| gl_no rfl rfl rfl <| gl_no rfl rfl rfl <| gl_no rfl rfl rfl <| gl_op <| op_rd rfl (rd_pick_t rfl rfl) <| gl_nil <| gx_then <| gc_cond_t rfl <| gc_seq <| gc_region <| gl_op <| op_rd rfl (rd_assign rfl) <| gl_nil ?_
    refine gx_then <| gc_ret <| gx_then_ret <| gx_ret1 (.inl rfl) Tryz.results5 rfl [] (by decide) ?_
    exact ⟨_, rfl, rfl⟩
  refine gl_op <| op_rd rfl (rd_move rfl) <| gl_yes rfl rfl <| op_rd rfl (rd_fieldAddr rfl (fa_27_1 _)) <| gl_yes rfl rfl (op_rd rfl (rd_load Tryz.underlying23 rfl rfl (by exact ld_blk 0 rfl rfl)) ?_)
  refine gl_yes rfl rfl <| op_rd rfl (rd_lenSlice Tryz.underlying23 rfl) <| gl_yes rfl rfl (op_rd rfl (rd_gtr rfl rfl) (gk_dec (fun h16 => ?_) (fun h16 => ?_)))
  · refine gl_op <| op_rd rfl (rd_pick_f rfl rfl) <| gl_op <| op_rd rfl (rd_move rfl) <| gl_no rfl rfl rfl <| gl_no rfl rfl rfl <| gl_no rfl rfl rfl <| gl_no rfl rfl rfl <| gl_op <| op_rd rfl (rd_pick_t rfl rfl) <| gl_op <| op_rd rfl (rd_move rfl) <| gl_no rfl rfl rfl <| gl_no rfl rfl rfl <| gl_no rfl rfl rfl <| gl_no rfl rfl rfl <| gl_op <| op_rd rfl (rd_pick_t rfl rfl) <| gl_nil <| gx_then <| gc_cond_t rfl <| gc_seq <| gc_region <| gl_op <| op_rd rfl (rd_assign rfl) <| gl_nil <| gx_then <| gc_ret <| gx_then_ret <| gx_ret1 (.inl rfl) Tryz.results5 rfl [] (by decide) ?_
    exact ⟨_, rfl, rfl⟩
  refine gl_op <| op_rd rfl (rd_pick_f rfl rfl) <| gl_op <| op_rd rfl (rd_move rfl) <| gl_yes rfl rfl <| op_rd rfl (rd_fieldAddr rfl (fa_27_2 _)) <| gl_yes rfl rfl (op_rd rfl (rd_load Tryz.underlying24 rfl rfl (by exact ld_blk 0 rfl rfl)) ?_)
  refine gl_yes rfl rfl <| op_rd rfl (rd_lenSlice Tryz.underlying24 rfl) <| gl_yes rfl rfl (op_rd rfl (rd_gtr rfl rfl) (gk_dec (fun h22 => ?_) (fun h22 => ?_)))
  · refine gl_op <| op_rd rfl (rd_pick_f rfl rfl) <| gl_op <| op_rd rfl (rd_move rfl) <| gl_no rfl rfl rfl <| gl_no rfl rfl rfl <| gl_no rfl rfl rfl <| gl_no rfl rfl rfl <| gl_op <| op_rd rfl (rd_pick_t rfl rfl) <| gl_nil <| gx_then <| gc_cond_t rfl <| gc_seq <| gc_region <| gl_op <| op_rd rfl (rd_assign rfl) <| gl_nil <| gx_then <| gc_ret <| gx_then_ret <| gx_ret1 (.inl rfl) Tryz.results5 rfl [] (by decide) ?_
    exact ⟨_, rfl, rfl⟩
  refine gl_op <| op_rd rfl (rd_pick_f rfl rfl) <| gl_op <| op_rd rfl (rd_move rfl) <| gl_yes rfl rfl <| op_rd rfl (rd_fieldAddr rfl (fa_27_3 _)) <| gl_yes rfl rfl (op_rd rfl (rd_load Tryz.underlying25 rfl rfl (by exact ld_blk 0 rfl rfl)) ?_)
  refine gl_yes rfl rfl <| op_rd rfl (rd_lenSlice Tryz.underlying25 rfl) <| gl_yes rfl rfl (op_rd rfl (rd_gtr rfl rfl) (gk_dec (fun h28 => ?_) (fun h28 => ?_)))
  · refine gl_op <| op_rd rfl (rd_pick_f rfl rfl) <| gl_nil <| gx_then <| gc_cond_t rfl <| gc_seq <| gc_region <| gl_op <| op_rd rfl (rd_assign rfl) <| gl_nil <| gx_then <| gc_ret <| gx_then_ret <| gx_ret1 (.inl rfl) Tryz.results5 rfl [] (by decide) ?_
    exact ⟨_, rfl, rfl⟩
  refine gl_op <| op_rd rfl (rd_pick_f rfl rfl) <| gl_nil <| gx_then <| gc_cond_f rfl <| gc_skip <| gx_then <| gc_seq <| gc_region <| gl_op <| op_rd rfl (rd_assign rfl) <| gl_nil <| gx_then <| gc_seq <| gc_seq <| gc_region <| gl_op <| op_rd rfl (rd_assign rfl) <| gl_nil <| gx_then <| gc_block <| gc_loopF (ι := Nat × Bool) [(1, _)] [_] (fun q => q.1 ≤ s.ds.length) (fun q Fr0 => ((3, .bool q.2) :: (4, natV q.1) :: Fr0)) (fun q Fr0 => Fr0) (fun q => s.ds.length - q.1) (0, false) (Nat.zero_le _) ⟨rfl, rfl, rfl, trivial⟩ ⟨[0], by decide, rfl⟩ ?_
  rintro ⟨k, bb⟩ hk
  simp only at hk ⊢
  refine gc_seq <| gc_seq <| gc_region <| gl_op <| op_rd rfl (rd_move rfl) <| gl_op <| op_rd rfl (rd_fieldAddr rfl (fa_27_0 _)) <| gl_op (op_rd rfl (rd_load Tryz.underlying22 rfl rfl (by exact ld_blk 0 rfl rfl)) ?_)
  refine gl_op <| op_rd rfl (rd_lenSlice Tryz.underlying22 rfl) <| gl_op (op_rd rfl (rd_lss rfl rfl) (gk_dec (fun h34 => ?_) (fun h34 => ?_)))
  · obtain ⟨x, hx⟩ := get_some (show k < s.ds.length by omega)
    refine gl_nil <| gx_then <| gc_cond_t rfl <| gc_skip <| gx_then <| gc_seq <| gc_block <| gc_region <| gl_op <| op_rd rfl (rd_move rfl) <| gl_op <| op_rd rfl (rd_move rfl) <| gk_bool (fun hb38 => ?_) (fun hb38 => ?_)
    · refine gl_no rfl rfl rfl <| gl_no rfl rfl rfl <| gl_no rfl rfl rfl <| gl_no rfl rfl rfl <| gl_no rfl rfl rfl <| gl_no rfl rfl rfl <| gl_no rfl rfl rfl <| gl_no rfl rfl rfl <| gl_op <| op_rd rfl (rd_pick_t rfl rfl) <| gl_op <| op_rd rfl (rd_assign rfl) <| gl_nil <| gx_block <| gx_then <| gc_region <| gl_op <| op_rd rfl (rd_move rfl) <| gl_op (op_rd rfl (by exact rd_addN (b := 1) rfl rfl (by omega)) ?_)
      refine gl_op <| op_rd rfl (rd_assign rfl) <| gl_nil <| gx_then ?_
      exact gx_cut ((k + 1, _)) ⟨by simp only; omega, by simp only; omega⟩ ⟨rfl, rfl, rfl, trivial⟩ ⟨[0], by decide, rfl⟩
    refine gl_yes rfl rfl <| op_rd rfl (rd_fieldAddr rfl (fa_27_0 _)) <| gl_yes rfl rfl (op_rd rfl (rd_load Tryz.underlying22 rfl rfl (by exact ld_blk 0 rfl rfl)) ?_)
    refine gl_yes rfl rfl <| op_rd rfl (rd_move rfl) <| gl_yes rfl rfl (op_rd rfl (rd_indexOld hS.d Tryz.underlying22 ty_49 rfl rfl (by omega) (by omega)) ?_)
    refine gl_yes rfl rfl <| op_rd rfl (rd_fieldAddr rfl (fa_49_0 _)) <| gl_yes rfl rfl (op_rd rfl (rd_load Tryz.underlying9 rfl rfl (ld_slf hS.d (get_flat Dv.cells 3 (fun _ => rfl) hx (j := 0) (by decide) rfl))) ?_)
    refine gl_yes rfl rfl <| op_rd rfl (rd_lenString Tryz.underlying9 rfl) <| gl_yes rfl rfl <| op_rd rfl (rd_gtr rfl rfl) <| gl_op <| op_rd rfl (rd_pick_f rfl rfl) <| gl_op <| op_rd rfl (rd_assign rfl) <| gl_nil <| gx_block <| gx_then <| gc_region <| gl_op <| op_rd rfl (rd_move rfl) <| gl_op (op_rd rfl (by exact rd_addN (b := 1) rfl rfl (by omega)) ?_)
    refine gl_op <| op_rd rfl (rd_assign rfl) <| gl_nil <| gx_then ?_
    exact gx_cut ((k + 1, _)) ⟨by simp only; omega, by simp only; omega⟩ ⟨rfl, rfl, rfl, trivial⟩ ⟨[0], by decide, rfl⟩
  refine gl_nil <| gx_then <| gc_cond_f rfl <| gc_exit <| gx_then_exit <| gx_then_exit <| gx_block_exit <| gx_then <| gc_seq <| gc_seq <| gc_region <| gl_op <| op_rd rfl (rd_assign rfl) <| gl_nil <| gx_then <| gc_block <| gc_loopF (ι := Nat × Bool) [(1, _)] [_] (fun q => q.1 ≤ s.rs.length) (fun q Fr0 => ((3, .bool q.2) :: (5, natV q.1) :: Fr0)) (fun q Fr0 => Fr0) (fun q => s.rs.length - q.1) (0, _) (Nat.zero_le _) ⟨rfl, rfl, rfl, trivial⟩ ⟨[0], by decide, rfl⟩ ?_
  rintro ⟨k, bb⟩ hk
  simp only at hk ⊢
  refine gc_seq <| gc_seq <| gc_region <| gl_op <| op_rd rfl (rd_move rfl) <| gl_op <| op_rd rfl (rd_fieldAddr rfl (fa_27_1 _)) <| gl_op (op_rd rfl (rd_load Tryz.underlying23 rfl rfl (by exact ld_blk 0 rfl rfl)) ?_)
  refine gl_op <| op_rd rfl (rd_lenSlice Tryz.underlying23 rfl) <| gl_op (op_rd rfl (rd_lss rfl rfl) (gk_dec (fun h52 => ?_) (fun h52 => ?_)))
  · obtain ⟨x, hx⟩ := get_some (show k < s.rs.length by omega)
    refine gl_nil <| gx_then <| gc_cond_t rfl <| gc_skip <| gx_then <| gc_seq <| gc_block <| gc_region <| gl_op <| op_rd rfl (rd_move rfl) <| gl_op <| op_rd rfl (rd_move rfl) <| gk_bool (fun hb56 => ?_) (fun hb56 => ?_)
    · refine gl_no rfl rfl rfl <| gl_no rfl rfl rfl <| gl_no rfl rfl rfl <| gl_no rfl rfl rfl <| gl_no rfl rfl rfl <| gl_no rfl rfl rfl <| gl_no rfl rfl rfl <| gl_no rfl rfl rfl <| gl_op <| op_rd rfl (rd_pick_t rfl rfl) <| gl_op <| op_rd rfl (rd_assign rfl) <| gl_nil <| gx_block <| gx_then <| gc_region <| gl_op <| op_rd rfl (rd_move rfl) <| gl_op (op_rd rfl (by exact rd_addN (b := 1) rfl rfl (by omega)) ?_)
      refine gl_op <| op_rd rfl (rd_assign rfl) <| gl_nil <| gx_then ?_
      exact gx_cut ((k + 1, _)) ⟨by simp only; omega, by simp only; omega⟩ ⟨rfl, rfl, rfl, trivial⟩ ⟨[0], by decide, rfl⟩
    refine gl_yes rfl rfl <| op_rd rfl (rd_fieldAddr rfl (fa_27_1 _)) <| gl_yes rfl rfl (op_rd rfl (rd_load Tryz.underlying23 rfl rfl (by exact ld_blk 0 rfl rfl)) ?_)
    refine gl_yes rfl rfl <| op_rd rfl (rd_move rfl) <| gl_yes rfl rfl (op_rd rfl (rd_indexOld hS.r Tryz.underlying23 ty_53 rfl rfl (by omega) (by omega)) ?_)
    refine gl_yes rfl rfl <| op_rd rfl (rd_fieldAddr rfl (fa_53_0 _)) <| gl_yes rfl rfl (op_rd rfl (rd_load Tryz.underlying9 rfl rfl (ld_slf hS.r (get_flat Rk.cells 6 (fun _ => rfl) hx (j := 0) (by decide) rfl))) ?_)
    refine gl_yes rfl rfl <| op_rd rfl (rd_lenString Tryz.underlying9 rfl) <| gl_yes rfl rfl <| op_rd rfl (rd_gtr rfl rfl) <| gl_op <| op_rd rfl (rd_pick_f rfl rfl) <| gl_op <| op_rd rfl (rd_assign rfl) <| gl_nil <| gx_block <| gx_then <| gc_region <| gl_op <| op_rd rfl (rd_move rfl) <| gl_op (op_rd rfl (by exact rd_addN (b := 1) rfl rfl (by omega)) ?_)
    refine gl_op <| op_rd rfl (rd_assign rfl) <| gl_nil <| gx_then ?_
    exact gx_cut ((k + 1, _)) ⟨by simp only; omega, by simp only; omega⟩ ⟨rfl, rfl, rfl, trivial⟩ ⟨[0], by decide, rfl⟩
  refine gl_nil <| gx_then <| gc_cond_f rfl <| gc_exit <| gx_then_exit <| gx_then_exit <| gx_block_exit <| gx_then <| gc_seq <| gc_seq <| gc_region <| gl_op <| op_rd rfl (rd_assign rfl) <| gl_nil <| gx_then <| gc_block <| gc_loopF (ι := Nat × Bool) [(1, _)] [_] (fun q => q.1 ≤ s.ss.length) (fun q Fr0 => ((3, .bool q.2) :: (6, natV q.1) :: Fr0)) (fun q Fr0 => Fr0) (fun q => s.ss.length - q.1) (0, _) (Nat.zero_le _) ⟨rfl, rfl, rfl, trivial⟩ ⟨[0], by decide, rfl⟩ ?_
  rintro ⟨k, bb⟩ hk
  simp only at hk ⊢
  refine gc_seq <| gc_seq <| gc_region <| gl_op <| op_rd rfl (rd_move rfl) <| gl_op <| op_rd rfl (rd_fieldAddr rfl (fa_27_2 _)) <| gl_op (op_rd rfl (rd_load Tryz.underlying24 rfl rfl (by exact ld_blk 0 rfl rfl)) ?_)
  refine gl_op <| op_rd rfl (rd_lenSlice Tryz.underlying24 rfl) <| gl_op (op_rd rfl (rd_lss rfl rfl) (gk_dec (fun h70 => ?_) (fun h70 => ?_)))
  · obtain ⟨x, hx⟩ := get_some (show k < s.ss.length by omega)
    refine gl_nil <| gx_then <| gc_cond_t rfl <| gc_skip <| gx_then <| gc_seq <| gc_block <| gc_region <| gl_op <| op_rd rfl (rd_move rfl) <| gl_op <| op_rd rfl (rd_move rfl) <| gk_bool (fun hb74 => ?_) (fun hb74 => ?_)
    · refine gl_no rfl rfl rfl <| gl_no rfl rfl rfl <| gl_no rfl rfl rfl <| gl_no rfl rfl rfl <| gl_no rfl rfl rfl <| gl_no rfl rfl rfl <| gl_no rfl rfl rfl <| gl_no rfl rfl rfl <| gl_op <| op_rd rfl (rd_pick_t rfl rfl) <| gl_op <| op_rd rfl (rd_move rfl) <| gl_no rfl rfl rfl <| gl_no rfl rfl rfl <| gl_no rfl rfl rfl <| gl_no rfl rfl rfl <| gl_no rfl rfl rfl <| gl_no rfl rfl rfl <| gl_no rfl rfl rfl <| gl_no rfl rfl rfl <| gl_op <| op_rd rfl (rd_pick_t rfl rfl) <| gl_op <| op_rd rfl (rd_assign rfl) <| gl_nil <| gx_block <| gx_then <| gc_region <| gl_op <| op_rd rfl (rd_move rfl) ?_
      refine gl_op (op_rd rfl (by exact rd_addN (b := 1) rfl rfl (by omega)) ?_)
      refine gl_op <| op_rd rfl (rd_assign rfl) <| gl_nil <| gx_then ?_
      exact gx_cut ((k + 1, _)) ⟨by simp only; omega, by simp only; omega⟩ ⟨rfl, rfl, rfl, trivial⟩ ⟨[0], by decide, rfl⟩
    refine gl_yes rfl rfl <| op_rd rfl (rd_fieldAddr rfl (fa_27_2 _)) <| gl_yes rfl rfl (op_rd rfl (rd_load Tryz.underlying24 rfl rfl (by exact ld_blk 0 rfl rfl)) ?_)
    refine gl_yes rfl rfl <| op_rd rfl (rd_move rfl) <| gl_yes rfl rfl (op_rd rfl (rd_indexOld hS.t Tryz.underlying24 ty_56 rfl rfl (by omega) (by omega)) ?_)
    refine gl_yes rfl rfl <| op_rd rfl (rd_fieldAddr rfl (fa_56_0 _)) <| gl_yes rfl rfl (op_rd rfl (rd_load Tryz.underlying9 rfl rfl (ld_slf hS.t (get_flat St.cells 5 (fun _ => rfl) hx (j := 0) (by decide) rfl))) ?_)
    refine gl_yes rfl rfl <| op_rd rfl (rd_lenString Tryz.underlying9 rfl) <| gl_yes rfl rfl (op_rd rfl (rd_gtr rfl rfl) (gk_dec (fun h82 => ?_) (fun h82 => ?_)))
    · refine gl_op <| op_rd rfl (rd_pick_f rfl rfl) <| gl_op <| op_rd rfl (rd_move rfl) <| gl_no rfl rfl rfl <| gl_no rfl rfl rfl <| gl_no rfl rfl rfl <| gl_no rfl rfl rfl <| gl_no rfl rfl rfl <| gl_no rfl rfl rfl <| gl_no rfl rfl rfl <| gl_no rfl rfl rfl <| gl_op <| op_rd rfl (rd_pick_t rfl rfl) <| gl_op <| op_rd rfl (rd_assign rfl) <| gl_nil <| gx_block <| gx_then <| gc_region <| gl_op <| op_rd rfl (rd_move rfl) <| gl_op (op_rd rfl (by exact rd_addN (b := 1) rfl rfl (by omega)) ?_)
      refine gl_op <| op_rd rfl (rd_assign rfl) <| gl_nil <| gx_then ?_
      exact gx_cut ((k + 1, _)) ⟨by simp only; omega, by simp only; omega⟩ ⟨rfl, rfl, rfl, trivial⟩ ⟨[0], by decide, rfl⟩
    refine gl_op <| op_rd rfl (rd_pick_f rfl rfl) <| gl_op <| op_rd rfl (rd_move rfl) <| gl_yes rfl rfl <| op_rd rfl (rd_fieldAddr rfl (fa_27_2 _)) <| gl_yes rfl rfl (op_rd rfl (rd_load Tryz.underlying24 rfl rfl (by exact ld_blk 0 rfl rfl)) ?_)
    refine gl_yes rfl rfl <| op_rd rfl (rd_move rfl) <| gl_yes rfl rfl (op_rd rfl (rd_indexOld hS.t Tryz.underlying24 ty_56 rfl rfl (by omega) (by omega)) ?_)
    refine gl_yes rfl rfl <| op_rd rfl (rd_fieldAddr rfl (fa_56_3 _)) <| gl_yes rfl rfl (op_rd rfl (rd_load Tryz.underlying54 rfl rfl (ld_slf hS.t (get_flat St.cells 5 (fun _ => rfl) hx (j := 4) (by decide) rfl))) ?_)
    refine gl_yes rfl rfl <| op_rd rfl (rd_lenSlice Tryz.underlying54 rfl) <| gl_yes rfl rfl <| op_rd rfl (rd_gtr rfl rfl) <| gl_op <| op_rd rfl (rd_pick_f rfl rfl) <| gl_op <| op_rd rfl (rd_assign rfl) <| gl_nil <| gx_block <| gx_then <| gc_region <| gl_op <| op_rd rfl (rd_move rfl) <| gl_op (op_rd rfl (by exact rd_addN (b := 1) rfl rfl (by omega)) ?_)
    refine gl_op <| op_rd rfl (rd_assign rfl) <| gl_nil <| gx_then ?_
    exact gx_cut ((k + 1, _)) ⟨by simp only; omega, by simp only; omega⟩ ⟨rfl, rfl, rfl, trivial⟩ ⟨[0], by decide, rfl⟩
  refine gl_nil <| gx_then <| gc_cond_f rfl <| gc_exit <| gx_then_exit <| gx_then_exit <| gx_block_exit <| gx_then <| gc_seq <| gc_seq <| gc_region <| gl_op <| op_rd rfl (rd_assign rfl) <| gl_nil <| gx_then <| gc_block <| gc_loopF (ι := Nat × Bool) [(1, _)] [_] (fun q => q.1 ≤ s.cs.length) (fun q Fr0 => ((3, .bool q.2) :: (7, natV q.1) :: Fr0)) (fun q Fr0 => Fr0) (fun q => s.cs.length - q.1) (0, _) (Nat.zero_le _) ⟨rfl, rfl, rfl, trivial⟩ ⟨[0], by decide, rfl⟩ ?_
  rintro ⟨k, bb⟩ hk
  simp only at hk ⊢
  refine gc_seq <| gc_seq <| gc_region <| gl_op <| op_rd rfl (rd_move rfl) <| gl_op <| op_rd rfl (rd_fieldAddr rfl (fa_27_3 _)) <| gl_op (op_rd rfl (rd_load Tryz.underlying25 rfl rfl (by exact ld_blk 0 rfl rfl)) ?_)
  refine gl_op <| op_rd rfl (rd_lenSlice Tryz.underlying25 rfl) <| gl_op (op_rd rfl (rd_lss rfl rfl) (gk_dec (fun h98 => ?_) (fun h98 => ?_)))
  · obtain ⟨x, hx⟩ := get_some (show k < s.cs.length by omega)
    refine gl_nil <| gx_then <| gc_cond_t rfl <| gc_skip <| gx_then <| gc_seq <| gc_block <| gc_region <| gl_op <| op_rd rfl (rd_move rfl) <| gl_op <| op_rd rfl (rd_move rfl) <| gk_bool (fun hb102 => ?_) (fun hb102 => ?_)
    · refine gl_no rfl rfl rfl <| gl_no rfl rfl rfl <| gl_no rfl rfl rfl <| gl_no rfl rfl rfl <| gl_no rfl rfl rfl <| gl_no rfl rfl rfl <| gl_no rfl rfl rfl <| gl_no rfl rfl rfl <| gl_op <| op_rd rfl (rd_pick_t rfl rfl) <| gl_op <| op_rd rfl (rd_assign rfl) <| gl_nil <| gx_block <| gx_then <| gc_region <| gl_op <| op_rd rfl (rd_move rfl) <| gl_op (op_rd rfl (by exact rd_addN (b := 1) rfl rfl (by omega)) ?_)
      refine gl_op <| op_rd rfl (rd_assign rfl) <| gl_nil <| gx_then ?_
      exact gx_cut ((k + 1, _)) ⟨by simp only; omega, by simp only; omega⟩ ⟨rfl, rfl, rfl, trivial⟩ ⟨[0], by decide, rfl⟩
    refine gl_yes rfl rfl <| op_rd rfl (rd_fieldAddr rfl (fa_27_3 _)) <| gl_yes rfl rfl (op_rd rfl (rd_load Tryz.underlying25 rfl rfl (by exact ld_blk 0 rfl rfl)) ?_)
    refine gl_yes rfl rfl <| op_rd rfl (rd_move rfl) <| gl_yes rfl rfl (op_rd rfl (rd_indexOld hS.c Tryz.underlying25 ty_58 rfl rfl (by omega) (by omega)) ?_)
    refine gl_yes rfl rfl <| op_rd rfl (rd_fieldAddr rfl (fa_58_0 _)) <| gl_yes rfl rfl (op_rd rfl (rd_load Tryz.underlying9 rfl rfl (ld_slf hS.c (get_flat Cp.cells 6 (fun _ => rfl) hx (j := 0) (by decide) rfl))) ?_)
    refine gl_yes rfl rfl <| op_rd rfl (rd_lenString Tryz.underlying9 rfl) <| gl_yes rfl rfl <| op_rd rfl (rd_gtr rfl rfl) <| gl_op <| op_rd rfl (rd_pick_f rfl rfl) <| gl_op <| op_rd rfl (rd_assign rfl) <| gl_nil <| gx_block <| gx_then <| gc_region <| gl_op <| op_rd rfl (rd_move rfl) <| gl_op (op_rd rfl (by exact rd_addN (b := 1) rfl rfl (by omega)) ?_)
    refine gl_op <| op_rd rfl (rd_assign rfl) <| gl_nil <| gx_then ?_
    exact gx_cut ((k + 1, _)) ⟨by simp only; omega, by simp only; omega⟩ ⟨rfl, rfl, rfl, trivial⟩ ⟨[0], by decide, rfl⟩
  refine gl_nil <| gx_then <| gc_cond_f rfl <| gc_exit <| gx_then_exit <| gx_then_exit <| gx_block_exit <| gx_then <| gc_seq <| gc_region <| gl_op <| op_rd rfl (rd_move rfl) <| gl_op <| op_rd rfl (rd_assign rfl) <| gl_nil <| gx_then <| gc_ret <| gx_ret1 (.inl rfl) Tryz.results5 rfl [] (by decide) ?_
  exact ⟨_, rfl, rfl⟩
end Go.Proofs.YtbjijbbkfgcleaaGreatDoor
namespace Go.Proofs.YtbjijbbkfgcleaaGreatDoor
open Go.Gv
open Go.RowKit
open Go.Sn
open Sx
set_option maxRecDepth 100000 in
set_option maxHeartbeats 1000000 in
theorem ex10_ok (w0 : World) : Sp Tryz.prog 35 [] w0 [] (fun v L => ∃ b0 b6 b11 b14 b18 b22 b24 b26, v = (ex10 b6 b11 b14 b18 b22 b24 b26).val ∧ L = [.blk b0 (ex10 b6 b11 b14 b18 b22 b24 b26).cells 27, .row 58 6 (some b26) 1 1 (exC1.flatMap Cp.cells), .row 56 5 (some b24) 3 3 ((exSs b14 b18 b22).flatMap St.cells), .row 104 4 (some b22) 1 1 (exP3.flatMap Pt.cells), .row 104 4 (some b18) 1 1 (exP2.flatMap Pt.cells), .row 104 4 (some b14) 1 1 (exP1.flatMap Pt.cells), .row 53 6 (some b11) 2 2 (exRs.flatMap Rk.cells), .row 49 3 (some b6) 1 1 (exDs.flatMap Dv.cells)]) := by
  refine spec_enter Tryz.func35 rfl Tryz.ntmps35 rfl (Own.refl _) ?_
  simp only [argEnv]
  refine gc_seq <| gc_region <| gl_op (op_alloc ty_27 rfl rfl (fun b0 => ?_))
  refine gl_nil <| gx_then <| gc_seq <| gc_region <| gl_op (op_rd rfl (rd_build rfl (fun _ => bd_51_0_1 _ _)) ?_)
  refine gl_op (op_rd rfl (rd_build rfl (fun _ => bd_51_0_1 _ _)) ?_)
  refine gl_op (op_alloc ty_51 rfl rfl (fun b1 => ?_))
  refine gl_op (op_alloc ty_51 rfl rfl (fun b2 => ?_))
  refine gl_op (op_storeAgg 1 ty_51 rfl rfl rfl rfl rfl rfl (by rfl) ?_)
  refine gl_op (op_storeAgg 0 ty_51 rfl rfl rfl rfl rfl rfl (by rfl) ?_)
  refine gl_nil <| gx_then <| gc_seq <| gc_region <| gl_op (op_rd rfl (rd_build rfl (fun _ => bd_49_0_1_2 _ _ _)) ?_)
  refine gl_op (op_buildSlice (sz := 3) rfl rfl (fun _ => bs_22_1_0 _ _ _) rfl rfl (fun b6 => ?_))
  refine gl_op (op_rd rfl (rd_loadAgg Tryz.underlying51 rfl ty_51 rfl (by exact cs_blk 2 (off := 0) (k := 2) rfl rfl) rfl) ?_)
  refine gl_op (op_rd rfl (rd_build rfl (fun _ => bd_53_0_1_2_3_4 _ _ _ _ _ _)) ?_)
  refine gl_op (op_rd rfl (rd_loadAgg Tryz.underlying51 rfl ty_51 rfl (by exact cs_blk 2 (off := 0) (k := 2) rfl rfl) rfl) ?_)
  refine gl_op (op_rd rfl (rd_build rfl (fun _ => bd_53_0_1_2_3_4 _ _ _ _ _ _)) ?_)
  refine gl_op (op_buildSlice (sz := 6) rfl rfl (fun _ => bs_23_2_0_1 _ _ _ _ _ _ _ _ _ _ _ _) rfl rfl (fun b11 => ?_))
  refine gl_op (op_rd rfl (rd_loadAgg Tryz.underlying51 rfl ty_51 rfl (by exact cs_blk 3 (off := 0) (k := 2) rfl rfl) rfl) ?_)
  refine gl_op (op_rd rfl (rd_build rfl (fun _ => bd_104_2_3 _ _)) ?_)
  refine gl_op (op_buildSlice (sz := 4) rfl rfl (fun _ => bs_54_1_0 _ _ _ _) rfl rfl (fun b14 => ?_))
  refine gl_op (op_rd rfl (rd_build rfl (fun _ => bd_56_0_2_3 _ _ _ _ _ _)) ?_)
  refine gl_op (op_rd rfl (rd_loadAgg Tryz.underlying51 rfl ty_51 rfl (by exact cs_blk 3 (off := 0) (k := 2) rfl rfl) rfl) ?_)
  refine gl_op (op_rd rfl (rd_build rfl (fun _ => bd_104_1_2_3 _ _ _)) ?_)
  refine gl_op (op_buildSlice (sz := 4) rfl rfl (fun _ => bs_54_1_0 _ _ _ _) rfl rfl (fun b18 => ?_))
  refine gl_op (op_rd rfl (rd_build rfl (fun _ => bd_56_0_2_3 _ _ _ _ _ _)) ?_)
  refine gl_op (op_rd rfl (rd_loadAgg Tryz.underlying51 rfl ty_51 rfl (by exact cs_blk 5 (off := 0) (k := 2) rfl rfl) rfl) ?_)
  refine gl_op (op_rd rfl (rd_build rfl (fun _ => bd_104_0_2_3 _ _ _)) ?_)
  refine gl_op (op_buildSlice (sz := 4) rfl rfl (fun _ => bs_54_1_0 _ _ _ _) rfl rfl (fun b22 => ?_))
  refine gl_op (op_rd rfl (rd_build rfl (fun _ => bd_56_0_2_3 _ _ _ _ _ _)) ?_)
  refine gl_op (op_buildSlice (sz := 5) rfl rfl (fun _ => bs_24_3_0_1_2 _ _ _ _ _ _ _ _ _ _ _ _ _ _ _ _ _ _ _ _ _) rfl rfl (fun b24 => ?_))
  refine gl_op (op_rd rfl (rd_build rfl (fun _ => bd_58_0_3 _ _)) ?_)
  refine gl_op (op_buildSlice (sz := 6) rfl rfl (fun _ => bs_25_1_0 _ _ _ _ _ _) rfl rfl (fun b26 => ?_))
  refine gl_op (op_rd rfl (rd_build rfl (fun _ => bd_27_0_1_2_3 _ _ _ _ _ _ _ _ _ _ _ _)) ?_)
  refine gl_op (op_storeAgg 9 ty_27 rfl rfl rfl rfl rfl rfl (by rfl) ?_)
  refine gl_nil <| gx_then <| gc_ret <| gx_retV1 (.inl rfl) Tryz.results35 (rv_agg Tryz.underlying27 rfl ty_27 rfl (by rfl) (cs_blk 9 (off := 0) (k := 4) rfl rfl)) [9, 0, 1, 2, 3, 4, 5, 6] (by decide) ?_
  exact ⟨b0, b6, b11, b14, b18, b22, b24, b26, rfl, rfl⟩
set_option maxRecDepth 100000 in
set_option maxHeartbeats 1000000 in
theorem ex12_ok (w0 : World) : Sp Tryz.prog 19 [] w0 [] (fun v L => ∃ b0 b6 b11 b14 b18 b22 b24 r9 c9, v = (ex12 b6 b11 b14 b18 b22 b24 r9 c9).val ∧ L = [.blk b0 (ex12 b6 b11 b14 b18 b22 b24 r9 c9).cells 27, .row 58 6 r9 4 c9 (exC4.flatMap Cp.cells), .row 56 5 (some b24) 3 3 ((exSs b14 b18 b22).flatMap St.cells), .row 104 4 (some b22) 1 1 (exP3.flatMap Pt.cells), .row 104 4 (some b18) 1 1 (exP2.flatMap Pt.cells), .row 104 4 (some b14) 1 1 (exP1.flatMap Pt.cells), .row 53 6 (some b11) 2 2 (exRs.flatMap Rk.cells), .row 49 3 (some b6) 1 1 (exDs.flatMap Dv.cells)]) := by
  refine spec_enter Tryz.func19 rfl Tryz.ntmps19 rfl (Own.refl _) ?_
  simp only [argEnv]
  refine gc_seq <| gc_region <| gl_op (op_alloc ty_27 rfl rfl (fun b0 => ?_))
  refine gl_nil <| gx_then <| gc_seq <| gc_region <| gl_op (op_call rfl (vf := []) (vc := []) rfl rfl Tryz.call35 (fun w1 ho => ex10_ok w1) ?_)
  rintro _ _ ⟨b90, b6, b11, b14, b18, b22, b24, b26, rfl, rfl⟩
  simp only [Org.cells]
  refine gl_op (op_alloc ty_27 rfl rfl (fun b1 => ?_))
  refine gl_op (op_storeAgg 0 ty_27 rfl rfl rfl rfl rfl rfl (by rfl) ?_)
  refine gl_nil <| gx_then <| gc_seq <| gc_region <| gl_op <| op_rd rfl (rd_fieldAddr rfl (fa_27_3 _)) <| gl_op (op_rd rfl (rd_load Tryz.underlying25 rfl rfl (by exact ld_blk 0 rfl rfl)) ?_)
  refine gl_op (op_rd rfl (rd_build rfl (fun _ => bd_58_0_3 _ _)) ?_)
  refine gl_op (op_rd rfl (rd_build rfl (fun _ => bd_58_0_3_4 _ _ _)) ?_)
  refine gl_op (op_rd rfl (rd_build rfl (fun _ => bd_58_0_3_5 _ _ _)) ?_)
  refine gl_op (op_buildSlice (sz := 6) rfl rfl (fun _ => bs_25_3_0_1_2 _ _ _ _ _ _ _ _ _ _ _ _ _ _ _ _ _ _) rfl rfl (fun b8 => ?_))
  refine gl_op (op_appendRow 3 0 Tryz.underlying25 ty_58 rfl (by decide) rfl rfl rfl rfl rfl (by simp [Value.oneCell']) (by omega) (by omega) (fun _ => (by rfl)) (fun r9 c9 => ?_))
  refine gl_op <| op_rd rfl (rd_fieldAddr rfl (fa_27_3 _)) <| gl_op (op_store 1 ty_25 rfl rfl rfl rfl rfl (by rfl) (by rfl) ?_)
  refine gl_nil <| gx_then <| gc_seq <| gc_region <| gl_op (op_rd rfl (rd_loadAgg Tryz.underlying27 rfl ty_27 rfl (by exact cs_blk 1 (off := 0) (k := 4) rfl rfl) rfl) ?_)
  refine gl_op (op_storeAgg 10 ty_27 rfl rfl rfl rfl rfl rfl (by rfl) ?_)
  refine gl_nil <| gx_then <| gc_ret <| gx_retV1 (.inl rfl) Tryz.results19 (rv_agg Tryz.underlying27 rfl ty_27 rfl (by rfl) (cs_blk 10 (off := 0) (k := 4) rfl rfl)) [10, 3, 4, 5, 6, 7, 8, 9] (by decide) ?_
  exact ⟨b0, b6, b11, b14, b18, b22, b24, r9, c9, rfl, rfl⟩
end Go.Proofs.YtbjijbbkfgcleaaGreatDoor
namespace Go.Proofs.YtbjijbbkfgcleaaGreatDoor
open Go.Gv
open Go.RowKit
open Go.Sn
open Sx
set_option maxRecDepth 100000 in
set_option maxHeartbeats 1000000 in
theorem shown_ok (w0 : World) (hT : TabIn w0) : Sp Tryz.prog 8 [] w0 [] (RV (.bool true)) := by
  refine spec_enter Tryz.func8 rfl Tryz.ntmps8 rfl (Own.refl _) ?_
  simp only [argEnv]
  refine gc_seq <| gc_region <| gl_op <| op_rd rfl (rd_assign rfl) <| gl_nil <| gx_then <| gc_seq <| gc_region <| gl_op (op_buildSlice (sz := 1) rfl rfl (fun _ => bs_29_1_0 _) rfl rfl (fun b8 => ?_))
  refine gl_op (op_buildSlice (sz := 1) rfl rfl (fun _ => bs_28_1_0 _ _ _) rfl rfl (fun b9 => ?_))
  refine gl_op (op_buildSlice (sz := 1) rfl rfl (fun _ => bs_29_2_0_1 _ _) rfl rfl (fun b10 => ?_))
  refine gl_op (op_buildSlice (sz := 1) rfl rfl (fun _ => bs_29_2_0_1 _ _) rfl rfl (fun b11 => ?_))
  refine gl_op (op_rd rfl (rd_build rfl (fun _ => bd_31_0_1_2 _ _ _ _ _ _ _ _ _)) ?_)
  refine gl_op (op_alloc ty_31 rfl rfl (fun b1 => ?_))
  refine gl_op (op_storeAgg 0 ty_31 rfl rfl rfl rfl rfl rfl (by rfl) ?_)
  refine gl_nil <| gx_then <| gc_seq <| gc_drawP [0, 1, 2, 3, 4] true 7 rfl <| ga_first 1 (bm 8 2) rfl rfl rfl rfl (by kernel_rfl) (by kernel_rfl) ⟨[0, 1, 2, 3, 4], by decide, rfl⟩ (qt_rd (rd_loadAgg Tryz.underlying31 rfl ty_31 rfl (by exact cs_blk 0 (off := 0) (k := 3) rfl rfl) rfl)) ?_
  refine ga_only 0 (bm 8 3) rfl rfl (by kernel_rfl) (by kernel_rfl) (.inr ⟨[0, 1, 2, 3, 4], by decide, rfl⟩) (op_call rfl (vf := []) (vc := []) rfl rfl Tryz.call19 (fun w1 ho => ex12_ok w1) ?_)
  rintro _ _ ⟨be14, d14, r14, pa14, pb14, pc14, t14, c14, cc14, rfl, rfl⟩
  refine ga_only 2 (bm 8 7) rfl rfl (by kernel_rfl) (by kernel_rfl) (.inr ⟨[8, 9, 10, 11, 12], by decide, rfl⟩) (op_call rfl (vf := []) (vc := []) rfl rfl Tryz.call18 (fun w1 ho => Keys_ok (ex12 d14 r14 pa14 pb14 pc14 t14 c14 cc14) (exHN (rowA (some b9)) (rowA (some b8)) (rowA (some b10)) (rowA (some b11))).hd ex_le ex_hle w1 (ex_in (ho.rowSl 7 rfl) (ho.rowSl 6 rfl) (ho.rowSl 2 rfl) (ho.rowSl 1 rfl) (ho.rowSl 5 rfl) (ho.rowSl 4 rfl) (ho.rowSl 3 rfl)) (exh_in (ho.rowSl 11 rfl) (ho.rowSl 12 rfl) (ho.rowSl 10 rfl) (ho.rowSl 9 rfl)) (hT.at ho (by decide))) ?_)
  rintro _ _ hq
  obtain ⟨r16, g16, hg16, rfl, rfl⟩ := ex_KeysR hq
  unfold KG.hl
  refine ga_first 3 (bm 8 15) rfl rfl rfl rfl (by kernel_rfl) (by kernel_rfl) ⟨[10, 11, 12, 13, 14], by decide, rfl⟩ (qt_rd (rd_move rfl)) ?_
  refine ga_first 4 (bm 8 31) rfl rfl rfl rfl (by kernel_rfl) (by kernel_rfl) ⟨[10, 11, 12, 13, 14], by decide, rfl⟩ (qt_rd (rd_extract rfl rfl)) ?_
  refine ga_first 5 (bm 8 63) rfl rfl rfl rfl (by kernel_rfl) (by kernel_rfl) ⟨[10, 11, 12, 13, 14], by decide, rfl⟩ (qt_rd (rd_extract rfl rfl)) ?_
  refine ga_first 6 (bm 8 127) rfl rfl rfl rfl (by kernel_rfl) (by kernel_rfl) ⟨[10, 11, 12, 13, 14], by decide, rfl⟩ (qt_rd (rd_assign rfl)) ?_
  refine ga_first 7 (bm 8 255) rfl rfl rfl rfl (by kernel_rfl) (by kernel_rfl) ⟨[10, 11, 12, 13, 14], by decide, rfl⟩ (qt_rd (rd_assign rfl)) ?_
  refine ga_end (by kernel_rfl) (.inr ⟨[10, 11, 12, 13, 14], by decide, rfl⟩) ?_
  refine gx_then <| gc_seq <| gc_drawP [0, 1, 2, 3, 4, 5, 6, 7, 8, 9, 10, 11, 12, 13, 14] true 7 rfl <| ga_first 1 (bm 8 2) rfl rfl rfl rfl (by kernel_rfl) (by kernel_rfl) ⟨[0, 1, 2, 3, 4, 5, 6, 7, 8, 9, 10, 11, 12, 13, 14], by decide, rfl⟩ (qt_rd (rd_loadAgg Tryz.underlying31 rfl ty_31 rfl (by exact cs_blk 10 (off := 0) (k := 3) rfl rfl) rfl)) ?_
  refine ga_only 0 (bm 8 3) rfl rfl (by kernel_rfl) (by kernel_rfl) (.inr ⟨[0, 1, 2, 3, 4, 5, 6, 7, 8, 9, 10, 11, 12, 13, 14], by decide, rfl⟩) (op_call rfl (vf := []) (vc := []) rfl rfl Tryz.call19 (fun w1 ho => ex12_ok w1) ?_)
  rintro _ _ ⟨be20, d20, r20, pa20, pb20, pc20, t20, c20, cc20, rfl, rfl⟩
  refine ga_only 2 (bm 8 7) rfl rfl (by kernel_rfl) (by kernel_rfl) (.inr ⟨[8, 9, 10, 11, 12, 13, 14, 15, 16, 17, 18, 19, 20, 21, 22], by decide, rfl⟩) (op_call rfl (vf := []) (vc := []) rfl rfl Tryz.call9 (fun w1 ho => Pipes_ok (ex12 d20 r20 pa20 pb20 pc20 t20 c20 cc20) (exHN (rowA (some b9)) (rowA (some b8)) (rowA (some b10)) (rowA (some b11))).hd ex_le ex_hle w1 (ex_in (ho.rowSl 7 rfl) (ho.rowSl 6 rfl) (ho.rowSl 2 rfl) (ho.rowSl 1 rfl) (ho.rowSl 5 rfl) (ho.rowSl 4 rfl) (ho.rowSl 3 rfl)) (exh_in (ho.rowSl 21 rfl) (ho.rowSl 22 rfl) (ho.rowSl 20 rfl) (ho.rowSl 19 rfl)) (hT.at ho (by decide))) ?_)
  rintro _ _ hq
  obtain ⟨r22, c22, rfl, rfl⟩ := ex_PipesR hq
  refine ga_first 3 (bm 8 15) rfl rfl rfl rfl (by kernel_rfl) (by kernel_rfl) ⟨[9, 10, 11, 12, 13, 14, 15, 16, 17, 18, 19, 20, 21, 22, 23], by decide, rfl⟩ (qt_rd (rd_move rfl)) ?_
  refine ga_first 4 (bm 8 31) rfl rfl rfl rfl (by kernel_rfl) (by kernel_rfl) ⟨[9, 10, 11, 12, 13, 14, 15, 16, 17, 18, 19, 20, 21, 22, 23], by decide, rfl⟩ (qt_rd (rd_extract rfl rfl)) ?_
  refine ga_first 5 (bm 8 63) rfl rfl rfl rfl (by kernel_rfl) (by kernel_rfl) ⟨[9, 10, 11, 12, 13, 14, 15, 16, 17, 18, 19, 20, 21, 22, 23], by decide, rfl⟩ (qt_rd (rd_extract rfl rfl)) ?_
  refine ga_first 6 (bm 8 127) rfl rfl rfl rfl (by kernel_rfl) (by kernel_rfl) ⟨[9, 10, 11, 12, 13, 14, 15, 16, 17, 18, 19, 20, 21, 22, 23], by decide, rfl⟩ (qt_rd (rd_assign rfl)) ?_
  refine ga_first 7 (bm 8 255) rfl rfl rfl rfl (by kernel_rfl) (by kernel_rfl) ⟨[9, 10, 11, 12, 13, 14, 15, 16, 17, 18, 19, 20, 21, 22, 23], by decide, rfl⟩ (qt_rd (rd_assign rfl)) ?_
  refine ga_end (by kernel_rfl) (.inr ⟨[9, 10, 11, 12, 13, 14, 15, 16, 17, 18, 19, 20, 21, 22, 23], by decide, rfl⟩) ?_
  refine gx_then <| gc_seq <| gc_drawP [0, 1, 2, 3, 4, 5, 6, 7, 8, 9, 10, 11, 12, 13, 14, 15, 16, 17, 18, 19, 20, 21, 22, 23] false 9 rfl <| ga_first 1 (bm 10 2) rfl rfl rfl rfl (by kernel_rfl) (by kernel_rfl) ⟨[0, 1, 2, 3, 4, 5, 6, 7, 8, 9, 10, 11, 12, 13, 14, 15, 16, 17, 18, 19, 20, 21, 22, 23], by decide, rfl⟩ (qt_rd (rd_loadAgg Tryz.underlying31 rfl ty_31 rfl (by exact cs_blk 19 (off := 0) (k := 3) rfl rfl) rfl)) ?_
  refine ga_first 2 (bm 10 6) rfl rfl rfl rfl (by kernel_rfl) (by kernel_rfl) ⟨[0, 1, 2, 3, 4, 5, 6, 7, 8, 9, 10, 11, 12, 13, 14, 15, 16, 17, 18, 19, 20, 21, 22, 23], by decide, rfl⟩ (qt_rd (rd_build rfl (fun _ => bd_69_1 _))) ?_
  refine ga_two 0 7 (bm 10 7) (bm 10 134) rfl rfl rfl rfl (by kernel_rfl) (by kernel_rfl) (by kernel_rfl) (.inr ⟨[0, 1, 2, 3, 4, 5, 6, 7, 8, 9, 10, 11, 12, 13, 14, 15, 16, 17, 18, 19, 20, 21, 22, 23], by decide, rfl⟩) ?_ ?_
  · refine (op_call rfl (vf := []) (vc := []) rfl rfl Tryz.call19 (fun w1 ho => ex12_ok w1) ?_)
    rintro _ _ ⟨be26, d26, r26, pa26, pb26, pc26, t26, c26, cc26, rfl, rfl⟩
    refine ga_two 3 7 (bm 10 15) (bm 10 135) rfl rfl rfl rfl (by kernel_rfl) (by kernel_rfl) (by kernel_rfl) (.inr ⟨[8, 9, 10, 11, 12, 13, 14, 15, 16, 17, 18, 19, 20, 21, 22, 23, 24, 25, 26, 27, 28, 29, 30, 31], by decide, rfl⟩) ?_ ?_
    · refine (op_call rfl (vf := []) (vc := []) rfl rfl Tryz.call20 (fun w1 ho => Why_ok (ex12 d26 r26 pa26 pb26 pc26 t26 c26 cc26) (exHN (rowA (some b9)) (rowA (some b8)) (rowA (some b10)) (rowA (some b11))).hd ex_le ex_hle 0 72 w1 (ex_in (ho.rowSl 7 rfl) (ho.rowSl 6 rfl) (ho.rowSl 2 rfl) (ho.rowSl 1 rfl) (ho.rowSl 5 rfl) (ho.rowSl 4 rfl) (ho.rowSl 3 rfl)) (exh_in (ho.rowSl 30 rfl) (ho.rowSl 31 rfl) (ho.rowSl 29 rfl) (ho.rowSl 28 rfl)) (hT.at ho (by decide))) ?_)
      rintro _ _ hq
      obtain ⟨b29, r29, c29, rfl, rfl⟩ := ex_WhyR hq
      refine ga_first 4 (bm 10 31) rfl rfl rfl rfl (by kernel_rfl) (by kernel_rfl) ⟨[10, 11, 12, 13, 14, 15, 16, 17, 18, 19, 20, 21, 22, 23, 24, 25, 26, 27, 28, 29, 30, 31, 32, 33], by decide, rfl⟩ (qt_rd (rd_move rfl)) ?_
      refine ga_first 5 (bm 10 63) rfl rfl rfl rfl (by kernel_rfl) (by kernel_rfl) ⟨[10, 11, 12, 13, 14, 15, 16, 17, 18, 19, 20, 21, 22, 23, 24, 25, 26, 27, 28, 29, 30, 31, 32, 33], by decide, rfl⟩ (qt_rd (rd_extract rfl rfl)) ?_
      refine ga_first 6 (bm 10 127) rfl rfl rfl rfl (by kernel_rfl) (by kernel_rfl) ⟨[10, 11, 12, 13, 14, 15, 16, 17, 18, 19, 20, 21, 22, 23, 24, 25, 26, 27, 28, 29, 30, 31, 32, 33], by decide, rfl⟩ (qt_rd (rd_extract rfl rfl)) ?_
      refine ga_only 7 (bm 10 255) rfl rfl (by kernel_rfl) (by kernel_rfl) (.inr ⟨[10, 11, 12, 13, 14, 15, 16, 17, 18, 19, 20, 21, 22, 23, 24, 25, 26, 27, 28, 29, 30, 31, 32, 33], by decide, rfl⟩) (op_alloc ty_65 rfl rfl (fun b6 => ?_))
      refine ga_only 8 (bm 10 511) rfl rfl (by kernel_rfl) (by kernel_rfl) (.inr ⟨[11, 12, 13, 14, 15, 16, 17, 18, 19, 20, 21, 22, 23, 24, 25, 26, 27, 28, 29, 30, 31, 32, 33, 34], by decide, rfl⟩) (op_storeAgg 0 ty_65 rfl rfl rfl rfl rfl rfl (by rfl) ?_)
      refine ga_only 9 (bm 10 1023) rfl rfl (by kernel_rfl) (by kernel_rfl) (.inr ⟨[11, 12, 13, 14, 15, 16, 17, 18, 19, 20, 21, 22, 23, 24, 25, 26, 27, 28, 29, 30, 31, 32, 33, 34], by decide, rfl⟩) (op_rd rfl (rd_assign rfl) ?_)
      refine ga_end (by kernel_rfl) (.inl (by kernel_rfl)) ?_
      refine gx_then <| gc_seq <| gc_region <| gl_op <| op_rd rfl (rd_move rfl) <| gl_op <| op_rd rfl (rd_lenSlice Tryz.underlying28 rfl) <| gl_op (op_rd rfl (rd_eql rfl rfl) (gk_dec (fun h34 => ?_) (fun h34 => ?_)))
      · refine gl_op <| op_rd rfl (rd_move rfl) <| gl_yes rfl rfl <| op_rd rfl (rd_move rfl) <| gl_yes rfl rfl (op_rd rfl (rd_indexRow1 20 rfl Tryz.underlying28 ty_29 rfl rfl (by omega) (by omega)) ?_)
        refine gl_yes rfl rfl <| op_rd rfl (rd_load Tryz.underlying29 rfl rfl (ld_rowN 20 (off := 0) rfl rfl)) <| gl_yes rfl rfl (op_buildSlice (sz := 1) rfl rfl (fun _ => bs_29_3_0_1_2 _ _ _) rfl rfl (fun b39 => ?_))
        unfold KG.cell
        refine gl_yes rfl rfl (op_call rfl (vf := []) (vc := []) rfl rfl Tryz.call21 (fun w1 ho => sameIntsN_ok g16.ks [36, 48, 60] _ _ _ _ (by rw [hg16]; decide) w1 (ho.rowSl 22 rfl) (ho.rowSl 0 rfl)) ?_)
        rintro _ _ ⟨rfl, rfl⟩
        refine gk_bool (fun h40 => ?_) (fun h40 => ?_)
        · refine gl_op <| op_rd rfl (rd_pick_t rfl rfl) <| gl_op <| op_rd rfl (rd_move rfl) <| gl_yes rfl rfl <| op_rd rfl (rd_move rfl) <| gl_yes rfl rfl (op_buildSlice (sz := 1) rfl rfl (fun _ => bs_29_4_0_1_2_3 _ _ _ _) rfl rfl (fun b44 => ?_))
          refine gl_yes rfl rfl (op_call rfl (vf := []) (vc := []) rfl rfl Tryz.call22 (fun w1 ho => flutes_ok [36, 48, 60, 72] _ _ (by decide) w1 (ho.rowSl 0 rfl)) ?_)
          rintro _ _ ⟨r45, c45, rfl, rfl⟩
          refine gl_yes rfl rfl (op_call rfl (vf := []) (vc := []) rfl rfl Tryz.call13 (fun w1 ho => SamePipes_ok (flutesP [36, 48, 60, 72]) (flutesP [36, 48, 60, 72]) _ _ _ _ (by decide) w1 (ho.rowSl 14 rfl) (ho.rowSl 0 rfl)) ?_)
          rintro _ _ ⟨rfl, rfl⟩
          refine gk_bool (fun h46 => ?_) (fun h46 => ?_)
          · refine gl_op <| op_rd rfl (rd_pick_t rfl rfl) <| gl_op <| op_rd rfl (rd_move rfl) <| gl_yes rfl rfl (op_rd rfl (rd_loadAgg Tryz.underlying65 rfl ty_65 rfl (by exact cs_blk 3 (off := 0) (k := 6) rfl rfl) rfl) ?_)
            refine gl_yes rfl rfl (op_buildSlice (sz := 1) rfl rfl (fun _ => bs_29_2_0_1 _ _) rfl rfl (fun b50 => ?_))
            refine gl_yes rfl rfl (op_rd rfl (rd_build rfl (fun _ => bd_65_1_2_4_5 _ _ _ _ _ _)) ?_)
            refine gl_yes rfl rfl (op_call rfl (vf := []) (vc := []) rfl rfl Tryz.call23 (fun w1 ho => SameReason_ok ⟨0, 36, [0, 3], 0, 60, 1⟩ ⟨0, 36, [0, 3], 0, 60, 1⟩ (rowA r29) (rowA (some b50)) c29 2 (by decide) w1 (ho.rowSl 6 rfl) (ho.rowSl 0 rfl)) ?_)
            rintro _ _ ⟨rfl, rfl⟩
            refine gk_bool (fun h52 => ?_) (fun h52 => ?_)
            · refine gl_op <| op_rd rfl (rd_pick_t rfl rfl) <| gl_op <| op_rd rfl (rd_move rfl) <| gl_yes rfl rfl <| op_rd rfl (rd_move rfl) <| gl_yes rfl rfl (op_rd rfl (rd_eql rfl rfl) (gk_dec (fun h56 => ?_) (fun h56 => ?_)))
              · refine gl_op <| op_rd rfl (rd_pick_t rfl rfl) <| gl_op <| op_rd rfl (rd_move rfl) <| gl_yes rfl rfl <| op_rd rfl (rd_move rfl) <| gl_yes rfl rfl (op_rd rfl (rd_eql rfl rfl) (gk_dec (fun h60 => ?_) (fun h60 => ?_)))
                · refine gl_op <| op_rd rfl (rd_pick_t rfl rfl) <| gl_op <| op_rd rfl (rd_move rfl) <| gl_yes rfl rfl <| op_rd rfl (rd_move rfl) <| gl_yes rfl rfl (op_rd rfl (rd_eql rfl rfl) (gk_dec (fun h64 => ?_) (fun h64 => ?_)))
                  · refine gl_op <| op_rd rfl (rd_pick_t rfl rfl) <| gl_op <| op_rd rfl (rd_assign rfl) <| gl_nil <| gx_then <| gc_ret <| gx_ret1 (.inl rfl) Tryz.results8 rfl [] (by decide) ?_
                    exact ⟨rfl, rfl⟩
                  refine gl_op <| op_rd rfl (rd_pick_t rfl rfl) <| gl_op <| op_rd rfl (rd_assign rfl) <| gl_nil <| gx_then <| gc_ret <| gx_ret1 (.inl rfl) Tryz.results8 rfl [] (by decide) ?_
                  exact absurd rfl h64
                refine gl_op <| op_rd rfl (rd_pick_t rfl rfl) <| gl_op <| op_rd rfl (rd_move rfl) <| gl_no rfl rfl rfl <| gl_no rfl rfl rfl <| gl_op <| op_rd rfl (rd_pick_f rfl rfl) <| gl_op <| op_rd rfl (rd_assign rfl) <| gl_nil <| gx_then <| gc_ret <| gx_ret1 (.inl rfl) Tryz.results8 rfl [] (by decide) ?_
                exact absurd rfl h60
              refine gl_op <| op_rd rfl (rd_pick_t rfl rfl) <| gl_op <| op_rd rfl (rd_move rfl) <| gl_no rfl rfl rfl <| gl_no rfl rfl rfl <| gl_op <| op_rd rfl (rd_pick_f rfl rfl) <| gl_op <| op_rd rfl (rd_move rfl) <| gl_no rfl rfl rfl <| gl_no rfl rfl rfl <| gl_op <| op_rd rfl (rd_pick_f rfl rfl) <| gl_op <| op_rd rfl (rd_assign rfl) <| gl_nil <| gx_then <| gc_ret <| gx_ret1 (.inl rfl) Tryz.results8 rfl [] (by decide) ?_
              exact absurd rfl h56
            refine gl_op <| op_rd rfl (rd_pick_t rfl rfl) <| gl_op <| op_rd rfl (rd_move rfl) <| gl_no rfl rfl rfl <| gl_no rfl rfl rfl <| gl_op <| op_rd rfl (rd_pick_f rfl rfl) <| gl_op <| op_rd rfl (rd_move rfl) <| gl_no rfl rfl rfl <| gl_no rfl rfl rfl <| gl_op <| op_rd rfl (rd_pick_f rfl rfl) <| gl_op <| op_rd rfl (rd_move rfl) <| gl_no rfl rfl rfl <| gl_no rfl rfl rfl <| gl_op <| op_rd rfl (rd_pick_f rfl rfl) <| gl_op <| op_rd rfl (rd_assign rfl) <| gl_nil <| gx_then <| gc_ret <| gx_ret1 (.inl rfl) Tryz.results8 rfl [] (by decide) ?_
            rw [decide_eq_true rfl] at h52; cases h52
          refine gl_op <| op_rd rfl (rd_pick_t rfl rfl) <| gl_op <| op_rd rfl (rd_move rfl) <| gl_no rfl rfl rfl <| gl_no rfl rfl rfl <| gl_no rfl rfl rfl <| gl_no rfl rfl rfl <| gl_op <| op_rd rfl (rd_pick_f rfl rfl) <| gl_op <| op_rd rfl (rd_move rfl) <| gl_no rfl rfl rfl <| gl_no rfl rfl rfl <| gl_op <| op_rd rfl (rd_pick_f rfl rfl) <| gl_op <| op_rd rfl (rd_move rfl) <| gl_no rfl rfl rfl <| gl_no rfl rfl rfl <| gl_op <| op_rd rfl (rd_pick_f rfl rfl) <| gl_op <| op_rd rfl (rd_move rfl) <| gl_no rfl rfl rfl <| gl_no rfl rfl rfl <| gl_op <| op_rd rfl (rd_pick_f rfl rfl) <| gl_op <| op_rd rfl (rd_assign rfl) <| gl_nil <| gx_then <| gc_ret <| gx_ret1 (.inl rfl) Tryz.results8 rfl [] (by decide) ?_
          rw [decide_eq_true rfl] at h46; cases h46
        refine gl_op <| op_rd rfl (rd_pick_t rfl rfl) <| gl_op <| op_rd rfl (rd_move rfl) <| gl_no rfl rfl rfl <| gl_no rfl rfl rfl <| gl_no rfl rfl rfl <| gl_no rfl rfl rfl <| gl_op <| op_rd rfl (rd_pick_f rfl rfl) <| gl_op <| op_rd rfl (rd_move rfl) <| gl_no rfl rfl rfl <| gl_no rfl rfl rfl <| gl_no rfl rfl rfl <| gl_no rfl rfl rfl <| gl_op <| op_rd rfl (rd_pick_f rfl rfl) <| gl_op <| op_rd rfl (rd_move rfl) <| gl_no rfl rfl rfl <| gl_no rfl rfl rfl <| gl_op <| op_rd rfl (rd_pick_f rfl rfl) <| gl_op <| op_rd rfl (rd_move rfl) <| gl_no rfl rfl rfl <| gl_no rfl rfl rfl <| gl_op <| op_rd rfl (rd_pick_f rfl rfl) <| gl_op <| op_rd rfl (rd_move rfl) <| gl_no rfl rfl rfl <| gl_no rfl rfl rfl <| gl_op <| op_rd rfl (rd_pick_f rfl rfl) ?_
        refine gl_op <| op_rd rfl (rd_assign rfl) <| gl_nil <| gx_then <| gc_ret <| gx_ret1 (.inl rfl) Tryz.results8 rfl [] (by decide) ?_
        rw [decide_eq_true hg16] at h40; cases h40
      refine gl_op <| op_rd rfl (rd_move rfl) <| gl_no rfl rfl rfl <| gl_no rfl rfl rfl <| gl_no rfl rfl rfl <| gl_no rfl rfl rfl <| gl_no rfl rfl rfl <| gl_op <| op_rd rfl (rd_pick_f rfl rfl) <| gl_op <| op_rd rfl (rd_move rfl) <| gl_no rfl rfl rfl <| gl_no rfl rfl rfl <| gl_no rfl rfl rfl <| gl_no rfl rfl rfl <| gl_op <| op_rd rfl (rd_pick_f rfl rfl) <| gl_op <| op_rd rfl (rd_move rfl) <| gl_no rfl rfl rfl <| gl_no rfl rfl rfl <| gl_no rfl rfl rfl <| gl_no rfl rfl rfl <| gl_op <| op_rd rfl (rd_pick_f rfl rfl) <| gl_op <| op_rd rfl (rd_move rfl) <| gl_no rfl rfl rfl <| gl_no rfl rfl rfl <| gl_op <| op_rd rfl (rd_pick_f rfl rfl) <| gl_op <| op_rd rfl (rd_move rfl) <| gl_no rfl rfl rfl ?_
      refine gl_no rfl rfl rfl <| gl_op <| op_rd rfl (rd_pick_f rfl rfl) <| gl_op <| op_rd rfl (rd_move rfl) <| gl_no rfl rfl rfl <| gl_no rfl rfl rfl <| gl_op <| op_rd rfl (rd_pick_f rfl rfl) <| gl_op <| op_rd rfl (rd_assign rfl) <| gl_nil <| gx_then <| gc_ret <| gx_ret1 (.inl rfl) Tryz.results8 rfl [] (by decide) ?_
      exact absurd rfl h34
    refine (op_alloc ty_65 rfl rfl (fun b6 => ?_))
    refine ga_only 3 (bm 10 143) rfl rfl (by kernel_rfl) (by kernel_rfl) (.inr ⟨[9, 10, 11, 12, 13, 14, 15, 16, 17, 18, 19, 20, 21, 22, 23, 24, 25, 26, 27, 28, 29, 30, 31, 32], by decide, rfl⟩) (op_call rfl (vf := []) (vc := []) rfl rfl Tryz.call20 (fun w1 ho => Why_ok (ex12 d26 r26 pa26 pb26 pc26 t26 c26 cc26) (exHN (rowA (some b9)) (rowA (some b8)) (rowA (some b10)) (rowA (some b11))).hd ex_le ex_hle 0 72 w1 (ex_in (ho.rowSl 8 rfl) (ho.rowSl 7 rfl) (ho.rowSl 3 rfl) (ho.rowSl 2 rfl) (ho.rowSl 6 rfl) (ho.rowSl 5 rfl) (ho.rowSl 4 rfl)) (exh_in (ho.rowSl 31 rfl) (ho.rowSl 32 rfl) (ho.rowSl 30 rfl) (ho.rowSl 29 rfl)) (hT.at ho (by decide))) ?_)
    rintro _ _ hq
    obtain ⟨b29, r29, c29, rfl, rfl⟩ := ex_WhyR hq
    refine ga_first 4 (bm 10 159) rfl rfl rfl rfl (by kernel_rfl) (by kernel_rfl) ⟨[11, 12, 13, 14, 15, 16, 17, 18, 19, 20, 21, 22, 23, 24, 25, 26, 27, 28, 29, 30, 31, 32, 33, 34], by decide, rfl⟩ (qt_rd (rd_move rfl)) ?_
    refine ga_first 5 (bm 10 191) rfl rfl rfl rfl (by kernel_rfl) (by kernel_rfl) ⟨[11, 12, 13, 14, 15, 16, 17, 18, 19, 20, 21, 22, 23, 24, 25, 26, 27, 28, 29, 30, 31, 32, 33, 34], by decide, rfl⟩ (qt_rd (rd_extract rfl rfl)) ?_
    refine ga_first 6 (bm 10 255) rfl rfl rfl rfl (by kernel_rfl) (by kernel_rfl) ⟨[11, 12, 13, 14, 15, 16, 17, 18, 19, 20, 21, 22, 23, 24, 25, 26, 27, 28, 29, 30, 31, 32, 33, 34], by decide, rfl⟩ (qt_rd (rd_extract rfl rfl)) ?_
    refine ga_only 8 (bm 10 511) rfl rfl (by kernel_rfl) (by kernel_rfl) (.inr ⟨[11, 12, 13, 14, 15, 16, 17, 18, 19, 20, 21, 22, 23, 24, 25, 26, 27, 28, 29, 30, 31, 32, 33, 34], by decide, rfl⟩) (op_storeAgg 2 ty_65 rfl rfl rfl rfl rfl rfl (by rfl) ?_)
    refine ga_only 9 (bm 10 1023) rfl rfl (by kernel_rfl) (by kernel_rfl) (.inr ⟨[11, 12, 13, 14, 15, 16, 17, 18, 19, 20, 21, 22, 23, 24, 25, 26, 27, 28, 29, 30, 31, 32, 33, 34], by decide, rfl⟩) (op_rd rfl (rd_assign rfl) ?_)
    refine ga_end (by kernel_rfl) (.inl (by kernel_rfl)) ?_
    refine gx_then <| gc_seq <| gc_region <| gl_op <| op_rd rfl (rd_move rfl) <| gl_op <| op_rd rfl (rd_lenSlice Tryz.underlying28 rfl) <| gl_op (op_rd rfl (rd_eql rfl rfl) (gk_dec (fun h34 => ?_) (fun h34 => ?_)))
    · refine gl_op <| op_rd rfl (rd_move rfl) <| gl_yes rfl rfl <| op_rd rfl (rd_move rfl) <| gl_yes rfl rfl (op_rd rfl (rd_indexRow1 20 rfl Tryz.underlying28 ty_29 rfl rfl (by omega) (by omega)) ?_)
      refine gl_yes rfl rfl <| op_rd rfl (rd_load Tryz.underlying29 rfl rfl (ld_rowN 20 (off := 0) rfl rfl)) <| gl_yes rfl rfl (op_buildSlice (sz := 1) rfl rfl (fun _ => bs_29_3_0_1_2 _ _ _) rfl rfl (fun b39 => ?_))
      unfold KG.cell
      refine gl_yes rfl rfl (op_call rfl (vf := []) (vc := []) rfl rfl Tryz.call21 (fun w1 ho => sameIntsN_ok g16.ks [36, 48, 60] _ _ _ _ (by rw [hg16]; decide) w1 (ho.rowSl 22 rfl) (ho.rowSl 0 rfl)) ?_)
      rintro _ _ ⟨rfl, rfl⟩
      refine gk_bool (fun h40 => ?_) (fun h40 => ?_)
      · refine gl_op <| op_rd rfl (rd_pick_t rfl rfl) <| gl_op <| op_rd rfl (rd_move rfl) <| gl_yes rfl rfl <| op_rd rfl (rd_move rfl) <| gl_yes rfl rfl (op_buildSlice (sz := 1) rfl rfl (fun _ => bs_29_4_0_1_2_3 _ _ _ _) rfl rfl (fun b44 => ?_))
        refine gl_yes rfl rfl (op_call rfl (vf := []) (vc := []) rfl rfl Tryz.call22 (fun w1 ho => flutes_ok [36, 48, 60, 72] _ _ (by decide) w1 (ho.rowSl 0 rfl)) ?_)
        rintro _ _ ⟨r45, c45, rfl, rfl⟩
        refine gl_yes rfl rfl (op_call rfl (vf := []) (vc := []) rfl rfl Tryz.call13 (fun w1 ho => SamePipes_ok (flutesP [36, 48, 60, 72]) (flutesP [36, 48, 60, 72]) _ _ _ _ (by decide) w1 (ho.rowSl 14 rfl) (ho.rowSl 0 rfl)) ?_)
        rintro _ _ ⟨rfl, rfl⟩
        refine gk_bool (fun h46 => ?_) (fun h46 => ?_)
        · refine gl_op <| op_rd rfl (rd_pick_t rfl rfl) <| gl_op <| op_rd rfl (rd_move rfl) <| gl_yes rfl rfl (op_rd rfl (rd_loadAgg Tryz.underlying65 rfl ty_65 rfl (by exact cs_blk 5 (off := 0) (k := 6) rfl rfl) rfl) ?_)
          refine gl_yes rfl rfl (op_buildSlice (sz := 1) rfl rfl (fun _ => bs_29_2_0_1 _ _) rfl rfl (fun b50 => ?_))
          refine gl_yes rfl rfl (op_rd rfl (rd_build rfl (fun _ => bd_65_1_2_4_5 _ _ _ _ _ _)) ?_)
          refine gl_yes rfl rfl (op_call rfl (vf := []) (vc := []) rfl rfl Tryz.call23 (fun w1 ho => SameReason_ok ⟨0, 36, [0, 3], 0, 60, 1⟩ ⟨0, 36, [0, 3], 0, 60, 1⟩ (rowA r29) (rowA (some b50)) c29 2 (by decide) w1 (ho.rowSl 5 rfl) (ho.rowSl 0 rfl)) ?_)
          rintro _ _ ⟨rfl, rfl⟩
          refine gk_bool (fun h52 => ?_) (fun h52 => ?_)
          · refine gl_op <| op_rd rfl (rd_pick_t rfl rfl) <| gl_op <| op_rd rfl (rd_move rfl) <| gl_yes rfl rfl <| op_rd rfl (rd_move rfl) <| gl_yes rfl rfl (op_rd rfl (rd_eql rfl rfl) (gk_dec (fun h56 => ?_) (fun h56 => ?_)))
            · refine gl_op <| op_rd rfl (rd_pick_t rfl rfl) <| gl_op <| op_rd rfl (rd_move rfl) <| gl_yes rfl rfl <| op_rd rfl (rd_move rfl) <| gl_yes rfl rfl (op_rd rfl (rd_eql rfl rfl) (gk_dec (fun h60 => ?_) (fun h60 => ?_)))
              · refine gl_op <| op_rd rfl (rd_pick_t rfl rfl) <| gl_op <| op_rd rfl (rd_move rfl) <| gl_yes rfl rfl <| op_rd rfl (rd_move rfl) <| gl_yes rfl rfl (op_rd rfl (rd_eql rfl rfl) (gk_dec (fun h64 => ?_) (fun h64 => ?_)))
                · refine gl_op <| op_rd rfl (rd_pick_t rfl rfl) <| gl_op <| op_rd rfl (rd_assign rfl) <| gl_nil <| gx_then <| gc_ret <| gx_ret1 (.inl rfl) Tryz.results8 rfl [] (by decide) ?_
                  exact ⟨rfl, rfl⟩
                refine gl_op <| op_rd rfl (rd_pick_t rfl rfl) <| gl_op <| op_rd rfl (rd_assign rfl) <| gl_nil <| gx_then <| gc_ret <| gx_ret1 (.inl rfl) Tryz.results8 rfl [] (by decide) ?_
                exact absurd rfl h64
              refine gl_op <| op_rd rfl (rd_pick_t rfl rfl) <| gl_op <| op_rd rfl (rd_move rfl) <| gl_no rfl rfl rfl <| gl_no rfl rfl rfl <| gl_op <| op_rd rfl (rd_pick_f rfl rfl) <| gl_op <| op_rd rfl (rd_assign rfl) <| gl_nil <| gx_then <| gc_ret <| gx_ret1 (.inl rfl) Tryz.results8 rfl [] (by decide) ?_
              exact absurd rfl h60
            refine gl_op <| op_rd rfl (rd_pick_t rfl rfl) <| gl_op <| op_rd rfl (rd_move rfl) <| gl_no rfl rfl rfl <| gl_no rfl rfl rfl <| gl_op <| op_rd rfl (rd_pick_f rfl rfl) <| gl_op <| op_rd rfl (rd_move rfl) <| gl_no rfl rfl rfl <| gl_no rfl rfl rfl <| gl_op <| op_rd rfl (rd_pick_f rfl rfl) <| gl_op <| op_rd rfl (rd_assign rfl) <| gl_nil <| gx_then <| gc_ret <| gx_ret1 (.inl rfl) Tryz.results8 rfl [] (by decide) ?_
            exact absurd rfl h56
          refine gl_op <| op_rd rfl (rd_pick_t rfl rfl) <| gl_op <| op_rd rfl (rd_move rfl) <| gl_no rfl rfl rfl <| gl_no rfl rfl rfl <| gl_op <| op_rd rfl (rd_pick_f rfl rfl) <| gl_op <| op_rd rfl (rd_move rfl) <| gl_no rfl rfl rfl <| gl_no rfl rfl rfl <| gl_op <| op_rd rfl (rd_pick_f rfl rfl) <| gl_op <| op_rd rfl (rd_move rfl) <| gl_no rfl rfl rfl <| gl_no rfl rfl rfl <| gl_op <| op_rd rfl (rd_pick_f rfl rfl) <| gl_op <| op_rd rfl (rd_assign rfl) <| gl_nil <| gx_then <| gc_ret <| gx_ret1 (.inl rfl) Tryz.results8 rfl [] (by decide) ?_
          rw [decide_eq_true rfl] at h52; cases h52
        refine gl_op <| op_rd rfl (rd_pick_t rfl rfl) <| gl_op <| op_rd rfl (rd_move rfl) <| gl_no rfl rfl rfl <| gl_no rfl rfl rfl <| gl_no rfl rfl rfl <| gl_no rfl rfl rfl <| gl_op <| op_rd rfl (rd_pick_f rfl rfl) <| gl_op <| op_rd rfl (rd_move rfl) <| gl_no rfl rfl rfl <| gl_no rfl rfl rfl <| gl_op <| op_rd rfl (rd_pick_f rfl rfl) <| gl_op <| op_rd rfl (rd_move rfl) <| gl_no rfl rfl rfl <| gl_no rfl rfl rfl <| gl_op <| op_rd rfl (rd_pick_f rfl rfl) <| gl_op <| op_rd rfl (rd_move rfl) <| gl_no rfl rfl rfl <| gl_no rfl rfl rfl <| gl_op <| op_rd rfl (rd_pick_f rfl rfl) <| gl_op <| op_rd rfl (rd_assign rfl) <| gl_nil <| gx_then <| gc_ret <| gx_ret1 (.inl rfl) Tryz.results8 rfl [] (by decide) ?_
        rw [decide_eq_true rfl] at h46; cases h46
      refine gl_op <| op_rd rfl (rd_pick_t rfl rfl) <| gl_op <| op_rd rfl (rd_move rfl) <| gl_no rfl rfl rfl <| gl_no rfl rfl rfl <| gl_no rfl rfl rfl <| gl_no rfl rfl rfl <| gl_op <| op_rd rfl (rd_pick_f rfl rfl) <| gl_op <| op_rd rfl (rd_move rfl) <| gl_no rfl rfl rfl <| gl_no rfl rfl rfl <| gl_no rfl rfl rfl <| gl_no rfl rfl rfl <| gl_op <| op_rd rfl (rd_pick_f rfl rfl) <| gl_op <| op_rd rfl (rd_move rfl) <| gl_no rfl rfl rfl <| gl_no rfl rfl rfl <| gl_op <| op_rd rfl (rd_pick_f rfl rfl) <| gl_op <| op_rd rfl (rd_move rfl) <| gl_no rfl rfl rfl <| gl_no rfl rfl rfl <| gl_op <| op_rd rfl (rd_pick_f rfl rfl) <| gl_op <| op_rd rfl (rd_move rfl) <| gl_no rfl rfl rfl <| gl_no rfl rfl rfl <| gl_op <| op_rd rfl (rd_pick_f rfl rfl) ?_
      refine gl_op <| op_rd rfl (rd_assign rfl) <| gl_nil <| gx_then <| gc_ret <| gx_ret1 (.inl rfl) Tryz.results8 rfl [] (by decide) ?_
      rw [decide_eq_true hg16] at h40; cases h40
    refine gl_op <| op_rd rfl (rd_move rfl) <| gl_no rfl rfl rfl <| gl_no rfl rfl rfl <| gl_no rfl rfl rfl <| gl_no rfl rfl rfl <| gl_no rfl rfl rfl <| gl_op <| op_rd rfl (rd_pick_f rfl rfl) <| gl_op <| op_rd rfl (rd_move rfl) <| gl_no rfl rfl rfl <| gl_no rfl rfl rfl <| gl_no rfl rfl rfl <| gl_no rfl rfl rfl <| gl_op <| op_rd rfl (rd_pick_f rfl rfl) <| gl_op <| op_rd rfl (rd_move rfl) <| gl_no rfl rfl rfl <| gl_no rfl rfl rfl <| gl_no rfl rfl rfl <| gl_no rfl rfl rfl <| gl_op <| op_rd rfl (rd_pick_f rfl rfl) <| gl_op <| op_rd rfl (rd_move rfl) <| gl_no rfl rfl rfl <| gl_no rfl rfl rfl <| gl_op <| op_rd rfl (rd_pick_f rfl rfl) <| gl_op <| op_rd rfl (rd_move rfl) <| gl_no rfl rfl rfl ?_
    refine gl_no rfl rfl rfl <| gl_op <| op_rd rfl (rd_pick_f rfl rfl) <| gl_op <| op_rd rfl (rd_move rfl) <| gl_no rfl rfl rfl <| gl_no rfl rfl rfl <| gl_op <| op_rd rfl (rd_pick_f rfl rfl) <| gl_op <| op_rd rfl (rd_assign rfl) <| gl_nil <| gx_then <| gc_ret <| gx_ret1 (.inl rfl) Tryz.results8 rfl [] (by decide) ?_
    exact absurd rfl h34
  refine (op_alloc ty_65 rfl rfl (fun b6 => ?_))
  refine ga_only 0 (bm 10 135) rfl rfl (by kernel_rfl) (by kernel_rfl) (.inr ⟨[1, 2, 3, 4, 5, 6, 7, 8, 9, 10, 11, 12, 13, 14, 15, 16, 17, 18, 19, 20, 21, 22, 23, 24], by decide, rfl⟩) (op_call rfl (vf := []) (vc := []) rfl rfl Tryz.call19 (fun w1 ho => ex12_ok w1) ?_)
  rintro _ _ ⟨be26, d26, r26, pa26, pb26, pc26, t26, c26, cc26, rfl, rfl⟩
  refine ga_only 3 (bm 10 143) rfl rfl (by kernel_rfl) (by kernel_rfl) (.inr ⟨[9, 10, 11, 12, 13, 14, 15, 16, 17, 18, 19, 20, 21, 22, 23, 24, 25, 26, 27, 28, 29, 30, 31, 32], by decide, rfl⟩) (op_call rfl (vf := []) (vc := []) rfl rfl Tryz.call20 (fun w1 ho => Why_ok (ex12 d26 r26 pa26 pb26 pc26 t26 c26 cc26) (exHN (rowA (some b9)) (rowA (some b8)) (rowA (some b10)) (rowA (some b11))).hd ex_le ex_hle 0 72 w1 (ex_in (ho.rowSl 7 rfl) (ho.rowSl 6 rfl) (ho.rowSl 2 rfl) (ho.rowSl 1 rfl) (ho.rowSl 5 rfl) (ho.rowSl 4 rfl) (ho.rowSl 3 rfl)) (exh_in (ho.rowSl 31 rfl) (ho.rowSl 32 rfl) (ho.rowSl 30 rfl) (ho.rowSl 29 rfl)) (hT.at ho (by decide))) ?_)
  rintro _ _ hq
  obtain ⟨b29, r29, c29, rfl, rfl⟩ := ex_WhyR hq
  refine ga_first 4 (bm 10 159) rfl rfl rfl rfl (by kernel_rfl) (by kernel_rfl) ⟨[11, 12, 13, 14, 15, 16, 17, 18, 19, 20, 21, 22, 23, 24, 25, 26, 27, 28, 29, 30, 31, 32, 33, 34], by decide, rfl⟩ (qt_rd (rd_move rfl)) ?_
  refine ga_first 5 (bm 10 191) rfl rfl rfl rfl (by kernel_rfl) (by kernel_rfl) ⟨[11, 12, 13, 14, 15, 16, 17, 18, 19, 20, 21, 22, 23, 24, 25, 26, 27, 28, 29, 30, 31, 32, 33, 34], by decide, rfl⟩ (qt_rd (rd_extract rfl rfl)) ?_
  refine ga_first 6 (bm 10 255) rfl rfl rfl rfl (by kernel_rfl) (by kernel_rfl) ⟨[11, 12, 13, 14, 15, 16, 17, 18, 19, 20, 21, 22, 23, 24, 25, 26, 27, 28, 29, 30, 31, 32, 33, 34], by decide, rfl⟩ (qt_rd (rd_extract rfl rfl)) ?_
  refine ga_only 8 (bm 10 511) rfl rfl (by kernel_rfl) (by kernel_rfl) (.inr ⟨[11, 12, 13, 14, 15, 16, 17, 18, 19, 20, 21, 22, 23, 24, 25, 26, 27, 28, 29, 30, 31, 32, 33, 34], by decide, rfl⟩) (op_storeAgg 10 ty_65 rfl rfl rfl rfl rfl rfl (by rfl) ?_)
  refine ga_only 9 (bm 10 1023) rfl rfl (by kernel_rfl) (by kernel_rfl) (.inr ⟨[11, 12, 13, 14, 15, 16, 17, 18, 19, 20, 21, 22, 23, 24, 25, 26, 27, 28, 29, 30, 31, 32, 33, 34], by decide, rfl⟩) (op_rd rfl (rd_assign rfl) ?_)
  refine ga_end (by kernel_rfl) (.inl (by kernel_rfl)) ?_
  refine gx_then <| gc_seq <| gc_region <| gl_op <| op_rd rfl (rd_move rfl) <| gl_op <| op_rd rfl (rd_lenSlice Tryz.underlying28 rfl) <| gl_op (op_rd rfl (rd_eql rfl rfl) (gk_dec (fun h34 => ?_) (fun h34 => ?_)))
  · refine gl_op <| op_rd rfl (rd_move rfl) <| gl_yes rfl rfl <| op_rd rfl (rd_move rfl) <| gl_yes rfl rfl (op_rd rfl (rd_indexRow1 20 rfl Tryz.underlying28 ty_29 rfl rfl (by omega) (by omega)) ?_)
    refine gl_yes rfl rfl <| op_rd rfl (rd_load Tryz.underlying29 rfl rfl (ld_rowN 20 (off := 0) rfl rfl)) <| gl_yes rfl rfl (op_buildSlice (sz := 1) rfl rfl (fun _ => bs_29_3_0_1_2 _ _ _) rfl rfl (fun b39 => ?_))
    unfold KG.cell
    refine gl_yes rfl rfl (op_call rfl (vf := []) (vc := []) rfl rfl Tryz.call21 (fun w1 ho => sameIntsN_ok g16.ks [36, 48, 60] _ _ _ _ (by rw [hg16]; decide) w1 (ho.rowSl 22 rfl) (ho.rowSl 0 rfl)) ?_)
    rintro _ _ ⟨rfl, rfl⟩
    refine gk_bool (fun h40 => ?_) (fun h40 => ?_)
    · refine gl_op <| op_rd rfl (rd_pick_t rfl rfl) <| gl_op <| op_rd rfl (rd_move rfl) <| gl_yes rfl rfl <| op_rd rfl (rd_move rfl) <| gl_yes rfl rfl (op_buildSlice (sz := 1) rfl rfl (fun _ => bs_29_4_0_1_2_3 _ _ _ _) rfl rfl (fun b44 => ?_))
      refine gl_yes rfl rfl (op_call rfl (vf := []) (vc := []) rfl rfl Tryz.call22 (fun w1 ho => flutes_ok [36, 48, 60, 72] _ _ (by decide) w1 (ho.rowSl 0 rfl)) ?_)
      rintro _ _ ⟨r45, c45, rfl, rfl⟩
      refine gl_yes rfl rfl (op_call rfl (vf := []) (vc := []) rfl rfl Tryz.call13 (fun w1 ho => SamePipes_ok (flutesP [36, 48, 60, 72]) (flutesP [36, 48, 60, 72]) _ _ _ _ (by decide) w1 (ho.rowSl 14 rfl) (ho.rowSl 0 rfl)) ?_)
      rintro _ _ ⟨rfl, rfl⟩
      refine gk_bool (fun h46 => ?_) (fun h46 => ?_)
      · refine gl_op <| op_rd rfl (rd_pick_t rfl rfl) <| gl_op <| op_rd rfl (rd_move rfl) <| gl_yes rfl rfl (op_rd rfl (rd_loadAgg Tryz.underlying65 rfl ty_65 rfl (by exact cs_blk 13 (off := 0) (k := 6) rfl rfl) rfl) ?_)
        refine gl_yes rfl rfl (op_buildSlice (sz := 1) rfl rfl (fun _ => bs_29_2_0_1 _ _) rfl rfl (fun b50 => ?_))
        refine gl_yes rfl rfl (op_rd rfl (rd_build rfl (fun _ => bd_65_1_2_4_5 _ _ _ _ _ _)) ?_)
        refine gl_yes rfl rfl (op_call rfl (vf := []) (vc := []) rfl rfl Tryz.call23 (fun w1 ho => SameReason_ok ⟨0, 36, [0, 3], 0, 60, 1⟩ ⟨0, 36, [0, 3], 0, 60, 1⟩ (rowA r29) (rowA (some b50)) c29 2 (by decide) w1 (ho.rowSl 5 rfl) (ho.rowSl 0 rfl)) ?_)
        rintro _ _ ⟨rfl, rfl⟩
        refine gk_bool (fun h52 => ?_) (fun h52 => ?_)
        · refine gl_op <| op_rd rfl (rd_pick_t rfl rfl) <| gl_op <| op_rd rfl (rd_move rfl) <| gl_yes rfl rfl <| op_rd rfl (rd_move rfl) <| gl_yes rfl rfl (op_rd rfl (rd_eql rfl rfl) (gk_dec (fun h56 => ?_) (fun h56 => ?_)))
          · refine gl_op <| op_rd rfl (rd_pick_t rfl rfl) <| gl_op <| op_rd rfl (rd_move rfl) <| gl_yes rfl rfl <| op_rd rfl (rd_move rfl) <| gl_yes rfl rfl (op_rd rfl (rd_eql rfl rfl) (gk_dec (fun h60 => ?_) (fun h60 => ?_)))
            · refine gl_op <| op_rd rfl (rd_pick_t rfl rfl) <| gl_op <| op_rd rfl (rd_move rfl) <| gl_yes rfl rfl <| op_rd rfl (rd_move rfl) <| gl_yes rfl rfl (op_rd rfl (rd_eql rfl rfl) (gk_dec (fun h64 => ?_) (fun h64 => ?_)))
              · refine gl_op <| op_rd rfl (rd_pick_t rfl rfl) <| gl_op <| op_rd rfl (rd_assign rfl) <| gl_nil <| gx_then <| gc_ret <| gx_ret1 (.inl rfl) Tryz.results8 rfl [] (by decide) ?_
                exact ⟨rfl, rfl⟩
              refine gl_op <| op_rd rfl (rd_pick_t rfl rfl) <| gl_op <| op_rd rfl (rd_assign rfl) <| gl_nil <| gx_then <| gc_ret <| gx_ret1 (.inl rfl) Tryz.results8 rfl [] (by decide) ?_
              exact absurd rfl h64
            refine gl_op <| op_rd rfl (rd_pick_t rfl rfl) <| gl_op <| op_rd rfl (rd_move rfl) <| gl_no rfl rfl rfl <| gl_no rfl rfl rfl <| gl_op <| op_rd rfl (rd_pick_f rfl rfl) <| gl_op <| op_rd rfl (rd_assign rfl) <| gl_nil <| gx_then <| gc_ret <| gx_ret1 (.inl rfl) Tryz.results8 rfl [] (by decide) ?_
            exact absurd rfl h60
          refine gl_op <| op_rd rfl (rd_pick_t rfl rfl) <| gl_op <| op_rd rfl (rd_move rfl) <| gl_no rfl rfl rfl <| gl_no rfl rfl rfl <| gl_op <| op_rd rfl (rd_pick_f rfl rfl) <| gl_op <| op_rd rfl (rd_move rfl) <| gl_no rfl rfl rfl <| gl_no rfl rfl rfl <| gl_op <| op_rd rfl (rd_pick_f rfl rfl) <| gl_op <| op_rd rfl (rd_assign rfl) <| gl_nil <| gx_then <| gc_ret <| gx_ret1 (.inl rfl) Tryz.results8 rfl [] (by decide) ?_
          exact absurd rfl h56
        refine gl_op <| op_rd rfl (rd_pick_t rfl rfl) <| gl_op <| op_rd rfl (rd_move rfl) <| gl_no rfl rfl rfl <| gl_no rfl rfl rfl <| gl_op <| op_rd rfl (rd_pick_f rfl rfl) <| gl_op <| op_rd rfl (rd_move rfl) <| gl_no rfl rfl rfl <| gl_no rfl rfl rfl <| gl_op <| op_rd rfl (rd_pick_f rfl rfl) <| gl_op <| op_rd rfl (rd_move rfl) <| gl_no rfl rfl rfl <| gl_no rfl rfl rfl <| gl_op <| op_rd rfl (rd_pick_f rfl rfl) <| gl_op <| op_rd rfl (rd_assign rfl) <| gl_nil <| gx_then <| gc_ret <| gx_ret1 (.inl rfl) Tryz.results8 rfl [] (by decide) ?_
        rw [decide_eq_true rfl] at h52; cases h52
      refine gl_op <| op_rd rfl (rd_pick_t rfl rfl) <| gl_op <| op_rd rfl (rd_move rfl) <| gl_no rfl rfl rfl <| gl_no rfl rfl rfl <| gl_no rfl rfl rfl <| gl_no rfl rfl rfl <| gl_op <| op_rd rfl (rd_pick_f rfl rfl) <| gl_op <| op_rd rfl (rd_move rfl) <| gl_no rfl rfl rfl <| gl_no rfl rfl rfl <| gl_op <| op_rd rfl (rd_pick_f rfl rfl) <| gl_op <| op_rd rfl (rd_move rfl) <| gl_no rfl rfl rfl <| gl_no rfl rfl rfl <| gl_op <| op_rd rfl (rd_pick_f rfl rfl) <| gl_op <| op_rd rfl (rd_move rfl) <| gl_no rfl rfl rfl <| gl_no rfl rfl rfl <| gl_op <| op_rd rfl (rd_pick_f rfl rfl) <| gl_op <| op_rd rfl (rd_assign rfl) <| gl_nil <| gx_then <| gc_ret <| gx_ret1 (.inl rfl) Tryz.results8 rfl [] (by decide) ?_
      rw [decide_eq_true rfl] at h46; cases h46
    refine gl_op <| op_rd rfl (rd_pick_t rfl rfl) <| gl_op <| op_rd rfl (rd_move rfl) <| gl_no rfl rfl rfl <| gl_no rfl rfl rfl <| gl_no rfl rfl rfl <| gl_no rfl rfl rfl <| gl_op <| op_rd rfl (rd_pick_f rfl rfl) <| gl_op <| op_rd rfl (rd_move rfl) <| gl_no rfl rfl rfl <| gl_no rfl rfl rfl <| gl_no rfl rfl rfl <| gl_no rfl rfl rfl <| gl_op <| op_rd rfl (rd_pick_f rfl rfl) <| gl_op <| op_rd rfl (rd_move rfl) <| gl_no rfl rfl rfl <| gl_no rfl rfl rfl <| gl_op <| op_rd rfl (rd_pick_f rfl rfl) <| gl_op <| op_rd rfl (rd_move rfl) <| gl_no rfl rfl rfl <| gl_no rfl rfl rfl <| gl_op <| op_rd rfl (rd_pick_f rfl rfl) <| gl_op <| op_rd rfl (rd_move rfl) <| gl_no rfl rfl rfl <| gl_no rfl rfl rfl <| gl_op <| op_rd rfl (rd_pick_f rfl rfl) ?_
    refine gl_op <| op_rd rfl (rd_assign rfl) <| gl_nil <| gx_then <| gc_ret <| gx_ret1 (.inl rfl) Tryz.results8 rfl [] (by decide) ?_
    rw [decide_eq_true hg16] at h40; cases h40
  refine gl_op <| op_rd rfl (rd_move rfl) <| gl_no rfl rfl rfl <| gl_no rfl rfl rfl <| gl_no rfl rfl rfl <| gl_no rfl rfl rfl <| gl_no rfl rfl rfl <| gl_op <| op_rd rfl (rd_pick_f rfl rfl) <| gl_op <| op_rd rfl (rd_move rfl) <| gl_no rfl rfl rfl <| gl_no rfl rfl rfl <| gl_no rfl rfl rfl <| gl_no rfl rfl rfl <| gl_op <| op_rd rfl (rd_pick_f rfl rfl) <| gl_op <| op_rd rfl (rd_move rfl) <| gl_no rfl rfl rfl <| gl_no rfl rfl rfl <| gl_no rfl rfl rfl <| gl_no rfl rfl rfl <| gl_op <| op_rd rfl (rd_pick_f rfl rfl) <| gl_op <| op_rd rfl (rd_move rfl) <| gl_no rfl rfl rfl <| gl_no rfl rfl rfl <| gl_op <| op_rd rfl (rd_pick_f rfl rfl) <| gl_op <| op_rd rfl (rd_move rfl) <| gl_no rfl rfl rfl ?_
  refine gl_no rfl rfl rfl <| gl_op <| op_rd rfl (rd_pick_f rfl rfl) <| gl_op <| op_rd rfl (rd_move rfl) <| gl_no rfl rfl rfl <| gl_no rfl rfl rfl <| gl_op <| op_rd rfl (rd_pick_f rfl rfl) <| gl_op <| op_rd rfl (rd_assign rfl) <| gl_nil <| gx_then <| gc_ret <| gx_ret1 (.inl rfl) Tryz.results8 rfl [] (by decide) ?_
  exact absurd rfl h34
end Go.Proofs.YtbjijbbkfgcleaaGreatDoor
