import Derived.Test.YteiopfefmphhaaaVh
import Derived.Test.YteiopfefmphhaaaVf
import Derived.Test.YteiopfefmphhaaaVd
/- This text proves InventoryShortSaid: for all pipes and wishes InventoryShort returns true, and its arguments read as before. -/
set_option linter.unusedSimpArgs false
set_option linter.unusedVariables false
set_option linter.unnecessarySimpa false
set_option autoImplicit false
set_option linter.unusedVariables false
namespace Go.Proofs.Yteiopfefmphhaaa
open Go.Gv
open Go.RowKit
open Iv
set_option maxRecDepth 100000 in
set_option maxHeartbeats 4000000 in
theorem rShort_ok (l : List Pipe) (w : List Wish) (a b : Option Addr) (ca cb : Nat) (w0 : World) (hl : OldSl w0 [] a l.length 3 (l.flatMap Pipe.cells)) (hw : OldSl w0 [] b w.length 5 (w.flatMap Wish.cells)) (hlb : l.length ≤ 140737488355328) (hwb : w.length ≤ 140737488355328) (hcb : w.length ≤ cb) (ru rf : List Nat) (hres : rshortF l w = (ru, rf)) : Sp Try.prog 18 [.slice a l.length ca, .slice b w.length cb] w0 [] (fun v L => ∃ (r : Option Nat) (cp : Nat) (r2 : Option Nat) (cp2 : Nat), v = .tuple #[.slice (rowA r) ru.length cp, .slice (rowA r2) rf.length cp2, .int .i64 (checkP l w)] ∧ L = [.row 3 1 r ru.length cp (ru.map natV), .row 3 1 r2 rf.length cp2 (rf.map natV)]) := by
  refine spec_enter Try.func18 rfl Try.ntmps18 rfl (Own.refl _) ?_
  simp only [argEnv]
  refine gc_seq ?_
  refine gc_region ?_
  refine gl_op (op_rd rfl (rd_assign rfl) ?_)
  refine gl_op (op_rd rfl (rd_assign rfl) ?_)
  refine gl_op (op_rd rfl (rd_assign rfl) ?_)
  refine gl_nil ?_
  refine gx_then ?_
  refine gc_seq ?_
  refine gc_region ?_
  refine gl_op (op_rd rfl (rd_move rfl) ?_)
  refine gl_op (op_rd rfl (rd_move rfl) ?_)
  refine gl_op (op_call rfl (vf := []) (vc := []) rfl rfl Try.call12 (fun w1 ho => rCheck_ok l w a b ca cb w1 (hl.at ho) (hw.at ho) hlb hwb) ?_)
  rintro _ _ ⟨rfl, rfl⟩
  refine gl_op (op_rd rfl (rd_assign rfl) ?_)
  refine gl_nil ?_
  refine gx_then ?_
  refine gc_seq ?_
  refine gc_seq ?_
  refine gc_region ?_
  refine gl_op (op_rd rfl (rd_move rfl) ?_)
  refine gl_op (op_rd rfl (rd_neq rfl rfl) (gk_dec (fun h19 => ?_) (fun h19 => ?_)))
  · skip
    have hck : checkP l w ≠ 0 := by omega
    refine gl_nil ?_
    refine gx_then ?_
    refine gc_cond_t rfl ?_
    refine gc_seq ?_
    refine gk_nil 3 1 ?_
    refine gk_nil 3 1 ?_
    refine gc_region ?_
    refine gl_op (op_rd rfl (rd_move rfl) ?_)
    refine gl_op (op_rd rfl (rd_assign rfl) ?_)
    refine gl_op (op_rd rfl (rd_assign rfl) ?_)
    refine gl_op (op_rd rfl (rd_assign rfl) ?_)
    refine gl_nil ?_
    refine gx_then ?_
    refine gc_ret ?_
    refine gx_then_ret ?_
    refine gx_ret3 (.inl rfl) Try.results18 rfl rfl rfl [1, 0] (by decide) ?_
    rw [rshortF, if_neg hck] at hres
    cases hres
    exact ⟨none, 0, none, 0, rfl, rfl⟩
  · skip
    have hck : checkP l w = 0 := by omega
    have hd := checkP_ok hck
    have hln := hd.ln
    have hwn := hd.wn
    rw [rshortF, if_pos hck] at hres
    obtain ⟨hres1, hres2⟩ := Prod.mk.inj hres
    rw [hck]
    refine gl_nil ?_
    refine gx_then ?_
    refine gc_cond_f rfl ?_
    refine gc_skip ?_
    refine gx_then ?_
    refine gc_seq ?_
    refine gc_region ?_
    refine gl_op (op_rd rfl (rd_move rfl) ?_)
    refine gl_op (op_rd rfl (rd_move rfl) ?_)
    refine gl_op (op_call rfl (vf := []) (vc := []) rfl rfl Try.call33 (fun w1 ho => begin_ok l w a b ca cb w1 hlb (by omega)) ?_)
    rintro _ _ ⟨bb, rk, ck, T0, rfl, hT0, hc0, rfl⟩
    refine gk_sub (sub_nil _) ?_
    refine gl_op (op_callT [_, _] (T0.map Ca.hl) rfl rfl (vf := []) (vc := []) rfl rfl Try.call34 (Sc := (T0.map Ca.hl).filterMap HL.block) rfl (fun wz ho hcc => sbest_all hd (T0.map Ca.b) ⟨bb, 0, none⟩ a b (rowA rk) ca cb ck (0) 0 T0 wz (by omega) rfl hc0 hcc (by decide) (ho.blkCells 0 rfl) (ho.blkOutT 0 rfl) (hl.atTail ho (by decide)) (hw.atTail ho (by decide)) (ho.rowSlT 1 rfl)) ?_)
    rintro _ _ ⟨rfl, T1, rfl, hb1, hc1⟩
    rw [Nat.sub_zero]
    refine gk_heap [] (by decide) ?_
    change GK _ _ _ _ _ []
    refine gl_op (op_rd rfl (rd_field rfl (fd_71_0 _ _)) ?_)
    refine gl_op (op_rd rfl (rd_assign rfl) ?_)
    refine gl_nil ?_
    refine gx_then ?_
    refine gc_seq ?_
    refine gc_region ?_
    refine gl_op (op_rd rfl (rd_assign rfl) ?_)
    refine gl_op (op_rd rfl (rd_assign rfl) ?_)
    refine gl_nil ?_
    refine gx_then ?_
    refine gc_seq ?_
    refine gc_seq ?_
    refine gc_region ?_
    refine gl_op (op_rd rfl (rd_assign rfl) ?_)
    refine gl_nil ?_
    refine gx_then ?_
    refine gc_block ?_
    refine gk_nil 3 1 ?_
    refine gc_loopF (ι := Nat × List Nat × Option Nat × Nat) [(0, _), (1, _), (8, _), (10, _)] [] (fun j => j.1 ≤ w.length ∧ j.2.1 = (List.range j.1).filter (shortB l w)) (fun j Fr0 => ((11, natV j.1) :: (9, .slice (rowA j.2.2.1) j.2.1.length j.2.2.2) :: Fr0)) (fun j Fr0 => (.row 3 1 j.2.2.1 j.2.1.length j.2.2.2 (j.2.1.map natV) :: Fr0)) (fun j => w.length - j.1) (0, [], none, 0) (⟨Nat.zero_le _, rfl⟩) ⟨rfl, rfl, rfl, rfl, rfl, rfl, trivial⟩ ⟨[0], by decide, rfl⟩ ?_
    rintro ⟨i, rs, r9, c9⟩ ⟨hi, hrs⟩
    simp only at hi hrs ⊢
    have hrsl : rs.length ≤ i := by rw [hrs]; exact filt_len _ _
    refine gc_seq ?_
    refine gc_seq ?_
    refine gc_region ?_
    refine gl_op (op_rd rfl (rd_move rfl) ?_)
    refine gl_op (op_rd rfl (rd_move rfl) ?_)
    refine gl_op (op_rd rfl (rd_lenSlice Try.underlying23 rfl) ?_)
    refine gl_op (op_rd rfl (rd_lss rfl rfl) (gk_dec (fun hlt => ?_) (fun hlt => ?_)))
    · skip
      have hil : i < w.length := by omega
      have hol := others_len hil
      refine gl_nil ?_
      refine gx_then ?_
      refine gc_cond_t rfl ?_
      refine gc_skip ?_
      refine gx_then ?_
      refine gc_seq ?_
      refine gc_block ?_
      refine gc_seq ?_
      refine gc_drawP [0] false 10 rfl ?_
      refine ga_first 1 #[false, true, false, false, false, false, false, false, false, false, false] rfl rfl rfl rfl (by kernel_rfl) rfl ⟨[0], by decide, rfl⟩ (qt_rd (rd_move rfl)) ?_
      refine ga_first 2 #[false, true, true, false, false, false, false, false, false, false, false] rfl rfl rfl rfl (by kernel_rfl) rfl ⟨[0], by decide, rfl⟩ (qt_rd (rd_move rfl)) ?_
      refine ga_first 3 #[false, true, true, true, false, false, false, false, false, false, false] rfl rfl rfl rfl (by kernel_rfl) rfl ⟨[0], by decide, rfl⟩ (qt_rd (rd_sliceHi Try.underlying23 ty_29 rfl rfl (by omega) (by omega))) ?_
      refine ga_first 5 #[false, true, true, true, false, true, false, false, false, false, false] rfl rfl rfl rfl (by kernel_rfl) rfl ⟨[0], by decide, rfl⟩ (qt_rd (rd_move rfl)) ?_
      refine ga_first 6 #[false, true, true, true, false, true, true, false, false, false, false] rfl rfl rfl rfl (by kernel_rfl) rfl ⟨[0], by decide, rfl⟩ (qt_rd (rd_move rfl)) ?_
      refine ga_first 7 #[false, true, true, true, false, true, true, true, false, false, false] rfl rfl rfl rfl (by kernel_rfl) rfl ⟨[0], by decide, rfl⟩ (qt_rd (by first | exact rd_addN (b := 1) rfl rfl (by omega) | exact rd_add rfl rfl (by omega) (by omega))) ?_
      refine ga_first 8 #[false, true, true, true, false, true, true, true, true, false, false] rfl rfl rfl rfl (by kernel_rfl) rfl ⟨[0], by decide, rfl⟩ (qt_rd (rd_sliceLo Try.underlying23 ty_29 rfl rfl (by omega) (by omega))) ?_
      refine ga_only 0 #[true, true, true, true, false, true, true, true, true, false, false] rfl rfl (by kernel_rfl) rfl (.inr ⟨[0], by decide, rfl⟩) (op_buildSlice (sz := 5) rfl rfl (fun _ => bs_23_0_) rfl rfl (fun b32 => ?_))
      refine ga_only 4 #[true, true, true, true, true, true, true, true, true, false, false] rfl rfl (by kernel_rfl) rfl (.inr ⟨[1], by decide, rfl⟩) (op_appendSl 0 (hw.take i (by omega)) Try.underlying23 ty_29 rfl (by decide) rfl rfl rfl rfl (fun u hu => wish_one w u (List.mem_of_mem_take hu)) (by omega) (by omega) (fun _ => (by first | rfl | (simp only [List.set_cons_succ, List.set_cons_zero]; exact rfl))) (fun r36 c36 => ?_))
      refine ga_only 9 #[true, true, true, true, true, true, true, true, true, true, false] rfl rfl (by kernel_rfl) rfl (.inr ⟨[1], by decide, rfl⟩) (op_appendSl 0 (hw.drop (cap := cb) (i + 1) (by omega) hcb) Try.underlying23 ty_29 rfl (by decide) rfl rfl rfl rfl (fun u hu => wish_one w u (List.mem_of_mem_drop hu)) (by omega) (by omega) (fun _ => (by first | rfl | (simp only [List.set_cons_succ, List.set_cons_zero]; exact rfl))) (fun r41 c41 => ?_))
      refine ga_only 10 #[true, true, true, true, true, true, true, true, true, true, true] rfl rfl (by kernel_rfl) rfl (.inr ⟨[1], by decide, rfl⟩) (op_rd rfl (rd_assign rfl) ?_)
      refine ga_end (by kernel_rfl) (.inl (by kernel_rfl)) ?_
      refine gx_then ?_
      refine gc_seq ?_
      rw [others_cells, show 0 + i + (w.length - (i + 1)) = (others w i).length by omega]
      refine gc_region ?_
      refine gl_op (op_rd rfl (rd_move rfl) ?_)
      refine gl_op (op_rd rfl (rd_move rfl) ?_)
      refine gl_op (op_call rfl (vf := []) (vc := []) rfl rfl Try.call33 (fun w1 ho => begin_ok l (others w i) a (rowA r41) ca c41 w1 hlb (by omega)) ?_)
      rintro _ _ ⟨bb, rk, ck, T0, rfl, hT0, hc0, rfl⟩
      refine gk_sub (sub_rot (.blk bb [.slice a l.length ca, .slice (rowA r41) (others w i).length c41, .slice (rowA rk) (others w i).length ck] 85 :: .row 86 1 rk (others w i).length ck ((T0.map Ca.b).map mapV) :: T0.map Ca.hl) [_, _]) ?_
      refine gl_op (op_callT [_, _, _, _] (T0.map Ca.hl) rfl rfl (vf := []) (vc := []) rfl rfl Try.call34 (Sc := (T0.map Ca.hl).filterMap HL.block) rfl (fun wz ho hcc => sbest_all (others_dat hd i (by omega)) (T0.map Ca.b) ⟨bb, 0, none⟩ a (rowA r41) (rowA rk) ca c41 ck 0 0 T0 wz (Nat.zero_le _) rfl hc0 hcc (by decide) (ho.blkCells 2 rfl) (ho.blkOutT 2 rfl) (hl.atTail ho (by decide)) (ho.rowSlT 0 rfl) (ho.rowSlT 3 rfl)) ?_)
      rintro _ _ ⟨rfl, T1, rfl, hb1, hc1⟩
      rw [Nat.sub_zero]
      refine gl_op (op_rd rfl (rd_field rfl (fd_71_0 _ _)) ?_)
      refine gl_op (op_rd rfl (rd_move rfl) ?_)
      refine gl_op (op_rd rfl (rd_eql rfl rfl) (gk_dec (fun h48 => ?_) (fun h48 => ?_)))
      · skip
        have hsh : shortB l w i = true := decide_eq_true h48
        refine gl_nil ?_
        refine gx_then ?_
        refine gc_cond_t rfl ?_
        refine gc_region ?_
        refine gl_op (op_rd rfl (rd_move rfl) ?_)
        refine gl_op (op_rd rfl (rd_move rfl) ?_)
        refine gl_op (op_buildSlice (sz := 1) rfl rfl (fun _ => bs_39_1_0 _) rfl rfl (fun b51 => ?_))
        refine gl_op (op_appendRow 2 0 Try.underlying39 ty_3 rfl (by decide) rfl rfl rfl rfl rfl (by simp [Value.oneCell']) (by omega) (by omega) (fun _ => (by first | rfl | (simp only [List.set_cons_succ, List.set_cons_zero]; exact rfl))) (fun r52 c52 => ?_))
        refine gl_op (op_rd rfl (rd_assign rfl) ?_)
        refine gl_nil ?_
        refine gx_block ?_
        refine gx_then ?_
        rw [snocN, snoc_len rs i]
        refine gc_region ?_
        refine gl_op (op_rd rfl (rd_move rfl) ?_)
        refine gl_op (op_rd rfl (by first | exact rd_addN (b := 1) rfl rfl (by omega) | exact rd_add rfl rfl (by omega) (by omega)) ?_)
        refine gl_op (op_rd rfl (rd_assign rfl) ?_)
        refine gl_nil ?_
        refine gx_then ?_
        exact gx_cut ((i + 1, rs ++ [i], r52, c52)) ⟨⟨by simp only; omega, by simp only; rw [filt_succ, ← hrs, if_pos hsh]⟩, by simp only; omega⟩ ⟨rfl, rfl, rfl, rfl, rfl, rfl, trivial⟩ ⟨[2], by decide, rfl⟩
      · skip
        have hsh : shortB l w i = false := decide_eq_false h48
        refine gl_nil ?_
        refine gx_then ?_
        refine gc_cond_f rfl ?_
        refine gc_skip ?_
        refine gx_block ?_
        refine gx_then ?_
        refine gc_region ?_
        refine gl_op (op_rd rfl (rd_move rfl) ?_)
        refine gl_op (op_rd rfl (by first | exact rd_addN (b := 1) rfl rfl (by omega) | exact rd_add rfl rfl (by omega) (by omega)) ?_)
        refine gl_op (op_rd rfl (rd_assign rfl) ?_)
        refine gl_nil ?_
        refine gx_then ?_
        exact gx_cut ((i + 1, rs, r9, c9)) ⟨⟨by simp only; omega, by simp only; rw [filt_succ, ← hrs, if_neg (by rw [hsh]; decide)]⟩, by simp only; omega⟩ ⟨rfl, rfl, rfl, rfl, rfl, rfl, trivial⟩ ⟨[1], by decide, rfl⟩
    · skip
      refine gl_nil ?_
      refine gx_then ?_
      refine gc_cond_f rfl ?_
      refine gc_exit ?_
      refine gx_then_exit ?_
      refine gx_then_exit ?_
      refine gx_block_exit ?_
      refine gx_then ?_
      refine gc_seq ?_
      refine gc_seq ?_
      have hus : rs = ru := by rw [hrs, ← hres1, rUs, show i = w.length by omega]
      have hrm : ∀ q ∈ rs, q < w.length := fun q hq => by rw [hrs] at hq; have := List.mem_range.1 (List.mem_filter.1 hq).1; omega
      refine gc_region ?_
      refine gl_op (op_rd rfl (rd_assign rfl) ?_)
      refine gl_nil ?_
      refine gx_then ?_
      refine gc_block ?_
      refine gk_nil 3 1 ?_
      refine gc_loopF (ι := Nat × List Nat × Option Nat × Nat) [(0, _), (1, _), (9, _)] [_] (fun j => j.1 ≤ l.length ∧ j.2.1 = (List.range j.1).filter (fun k => rs.any fun q => fits (l.getD k default) (w.getD q default))) (fun j Fr0 => ((13, natV j.1) :: (10, .slice (rowA j.2.2.1) j.2.1.length j.2.2.2) :: Fr0)) (fun j Fr0 => (.row 3 1 j.2.2.1 j.2.1.length j.2.2.2 (j.2.1.map natV) :: Fr0)) (fun j => l.length - j.1) (0, [], none, 0) (⟨Nat.zero_le _, rfl⟩) ⟨rfl, rfl, rfl, rfl, rfl, trivial⟩ ⟨[0, 1], by decide, rfl⟩ ?_
      rintro ⟨k, fs, r10, c10⟩ ⟨hk, hfs⟩
      simp only at hk hfs ⊢
      have hfsl : fs.length ≤ k := by rw [hfs]; exact filt_len _ _
      refine gc_seq ?_
      refine gc_seq ?_
      refine gc_region ?_
      refine gl_op (op_rd rfl (rd_move rfl) ?_)
      refine gl_op (op_rd rfl (rd_move rfl) ?_)
      refine gl_op (op_rd rfl (rd_lenSlice Try.underlying22 rfl) ?_)
      refine gl_op (op_rd rfl (rd_lss rfl rfl) (gk_dec (fun hlt1 => ?_) (fun hlt1 => ?_)))
      · skip
        obtain ⟨p, hp⟩ := get_some (show k < l.length by omega)
        have hpd : l.getD k default = p := getD_some hp
        have hpo := hd.p p (List.mem_of_getElem? hp)
        refine gl_nil ?_
        refine gx_then ?_
        refine gc_cond_t rfl ?_
        refine gc_skip ?_
        refine gx_then ?_
        refine gc_seq ?_
        refine gc_block ?_
        refine gc_seq ?_
        refine gc_region ?_
        refine gl_op (op_rd rfl (rd_assign rfl) ?_)
        refine gl_nil ?_
        refine gx_then ?_
        refine gc_block ?_
        refine gc_loopF (ι := Nat) [(0, _), (1, _), (9, _), (13, _)] [_, _] (fun j => j ≤ rs.length ∧ ∀ q, q < j → fits p (w.getD (rs.getD q 0) default) = false) (fun j Fr0 => ((14, natV j) :: (10, .slice (rowA r10) fs.length c10) :: Fr0)) (fun j Fr0 => Fr0) (fun j => rs.length - j) 0 (⟨Nat.zero_le _, fun q h => absurd h (Nat.not_lt_zero q)⟩) ⟨rfl, rfl, rfl, rfl, rfl, rfl, trivial⟩ ⟨[0, 1], by decide, rfl⟩ ?_
        rintro q ⟨hq, hno⟩
        refine gc_seq ?_
        refine gc_seq ?_
        refine gc_region ?_
        refine gl_op (op_rd rfl (rd_move rfl) ?_)
        refine gl_op (op_rd rfl (rd_move rfl) ?_)
        refine gl_op (op_rd rfl (rd_lenSlice Try.underlying39 rfl) ?_)
        refine gl_op (op_rd rfl (rd_lss rfl rfl) (gk_dec (fun hlt2 => ?_) (fun hlt2 => ?_)))
        · skip
          obtain ⟨u, hu⟩ := get_some (show q < rs.length by omega)
          have huu : rs.getD q 0 = u := getD_some hu
          have hul := hrm u (List.mem_of_getElem? hu)
          obtain ⟨x, hx⟩ := get_some hul
          have hxd : w.getD u default = x := getD_some hx
          have hxo := hd.w x (List.mem_of_getElem? hx)
          refine gl_nil ?_
          refine gx_then ?_
          refine gc_cond_t rfl ?_
          refine gc_skip ?_
          refine gx_then ?_
          refine gc_seq ?_
          refine gc_block ?_
          refine gc_seq ?_
          refine gc_drawP [0, 1] true 12 rfl ?_
          refine ga_first 0 #[true, false, false, false, false, false, false, false, false, false, false, false, false] rfl rfl rfl rfl (by kernel_rfl) rfl ⟨[0, 1], by decide, rfl⟩ (qt_rd (rd_move rfl)) ?_
          refine ga_first 1 #[true, true, false, false, false, false, false, false, false, false, false, false, false] rfl rfl rfl rfl (by kernel_rfl) rfl ⟨[0, 1], by decide, rfl⟩ (qt_rd (rd_move rfl)) ?_
          refine ga_first 2 #[true, true, true, false, false, false, false, false, false, false, false, false, false] rfl rfl rfl rfl (by kernel_rfl) rfl ⟨[0, 1], by decide, rfl⟩ (qt_rd (rd_indexOld hl Try.underlying22 ty_25 rfl rfl (by omega) (by omega))) ?_
          refine ga_first 3 #[true, true, true, true, false, false, false, false, false, false, false, false, false] rfl rfl rfl rfl (by kernel_rfl) rfl ⟨[0, 1], by decide, rfl⟩ (qt_rd (rd_loadAgg Try.underlying25 rfl ty_25 rfl (cs_slN hl (flat_drop_get Pipe.cells 3 (fun _ => rfl) hp)) rfl)) ?_
          refine ga_first 4 #[true, true, true, true, true, false, false, false, false, false, false, false, false] rfl rfl rfl rfl (by kernel_rfl) rfl ⟨[0, 1], by decide, rfl⟩ (qt_rd (rd_move rfl)) ?_
          refine ga_first 5 #[true, true, true, true, true, true, false, false, false, false, false, false, false] rfl rfl rfl rfl (by kernel_rfl) rfl ⟨[0, 1], by decide, rfl⟩ (qt_rd (rd_move rfl)) ?_
          refine ga_first 6 #[true, true, true, true, true, true, true, false, false, false, false, false, false] rfl rfl rfl rfl (by kernel_rfl) rfl ⟨[0, 1], by decide, rfl⟩ (qt_rd (rd_move rfl)) ?_
          refine ga_first 7 #[true, true, true, true, true, true, true, true, false, false, false, false, false] rfl rfl rfl rfl (by kernel_rfl) rfl ⟨[0, 1], by decide, rfl⟩ (qt_rd (rd_indexRow1 1 rfl Try.underlying39 ty_3 rfl rfl (by omega) (by omega))) ?_
          refine ga_first 8 #[true, true, true, true, true, true, true, true, true, false, false, false, false] rfl rfl rfl rfl (by kernel_rfl) rfl ⟨[0, 1], by decide, rfl⟩ (qt_rd (rd_load Try.underlying3 rfl rfl (ld_rowN 1 rfl (show (rs.map natV)[q]? = some (natV u) by rw [List.getElem?_map, hu]; rfl)))) ?_
          refine ga_first 9 #[true, true, true, true, true, true, true, true, true, true, false, false, false] rfl rfl rfl rfl (by kernel_rfl) rfl ⟨[0, 1], by decide, rfl⟩ (qt_rd (rd_indexOld hw Try.underlying23 ty_29 rfl rfl (by omega) (by omega))) ?_
          refine ga_first 10 #[true, true, true, true, true, true, true, true, true, true, true, false, false] rfl rfl rfl rfl (by kernel_rfl) rfl ⟨[0, 1], by decide, rfl⟩ (qt_rd (rd_loadAgg Try.underlying29 rfl ty_29 rfl (cs_slN hw (flat_drop_get Wish.cells 5 (fun _ => rfl) hx)) rfl)) ?_
          refine ga_first 11 #[true, true, true, true, true, true, true, true, true, true, true, true, false] rfl rfl rfl rfl (by kernel_rfl) rfl ⟨[0, 1], by decide, rfl⟩ (qt_call (vf := []) (vc := []) rfl rfl Try.call26 (fun w1 ho => rfit_ok p x hpo hxo w1) (by rintro _ _ ⟨h, _⟩; exact h)) ?_
          refine ga_first 12 #[true, true, true, true, true, true, true, true, true, true, true, true, true] rfl rfl rfl rfl (by kernel_rfl) rfl ⟨[0, 1], by decide, rfl⟩ (qt_rd (rd_geq rfl rfl)) (gk_dec (fun h77 => ?_) (fun h77 => ?_))
          · skip
            have hany : (rs.any fun q => fits (l.getD k default) (w.getD q default)) = true := List.any_eq_true.2 ⟨u, List.mem_of_getElem? hu, by rw [hpd, hxd]; exact rfit_pos (by omega)⟩
            refine ga_end (by kernel_rfl) (.inr ⟨[0, 1], by decide, rfl⟩) ?_
            refine gx_then ?_
            refine gc_cond_t rfl ?_
            refine gc_seq ?_
            refine gc_region ?_
            refine gl_op (op_rd rfl (rd_move rfl) ?_)
            refine gl_op (op_rd rfl (rd_move rfl) ?_)
            refine gl_op (op_buildSlice (sz := 1) rfl rfl (fun _ => bs_39_1_0 _) rfl rfl (fun b80 => ?_))
            refine gl_op (op_appendRow 1 0 Try.underlying39 ty_3 rfl (by decide) rfl rfl rfl rfl rfl (by simp [Value.oneCell']) (by omega) (by omega) (fun _ => (by first | rfl | (simp only [List.set_cons_succ, List.set_cons_zero]; exact rfl))) (fun r81 c81 => ?_))
            refine gl_op (op_rd rfl (rd_assign rfl) ?_)
            refine gl_nil ?_
            refine gx_then ?_
            refine gc_exit ?_
            refine gx_block_pass rfl ?_
            refine gx_then_exit ?_
            refine gx_then_exit ?_
            refine gx_block_exit ?_
            refine gx_block ?_
            refine gx_then ?_
            rw [snocN, snoc_len fs k]
            refine gc_region ?_
            refine gl_op (op_rd rfl (rd_move rfl) ?_)
            refine gl_op (op_rd rfl (by first | exact rd_addN (b := 1) rfl rfl (by omega) | exact rd_add rfl rfl (by omega) (by omega)) ?_)
            refine gl_op (op_rd rfl (rd_assign rfl) ?_)
            refine gl_nil ?_
            refine gx_then ?_
            exact gx_cut ((k + 1, fs ++ [k], r81, c81)) ⟨⟨by simp only; omega, by simp only; rw [filt_succ, ← hfs, if_pos hany]⟩, by simp only; omega⟩ ⟨rfl, rfl, rfl, rfl, rfl, trivial⟩ ⟨[1, 2], by decide, rfl⟩
          · skip
            have hnf : fits p x = false := rfit_neg (by omega)
            refine ga_end (by kernel_rfl) (.inr ⟨[0, 1], by decide, rfl⟩) ?_
            refine gx_then ?_
            refine gc_cond_f rfl ?_
            refine gc_skip ?_
            refine gx_block ?_
            refine gx_then ?_
            refine gc_region ?_
            refine gl_op (op_rd rfl (rd_move rfl) ?_)
            refine gl_op (op_rd rfl (by first | exact rd_addN (b := 1) rfl rfl (by omega) | exact rd_add rfl rfl (by omega) (by omega)) ?_)
            refine gl_op (op_rd rfl (rd_assign rfl) ?_)
            refine gl_nil ?_
            refine gx_then ?_
            exact gx_cut (q + 1) ⟨⟨by omega, fun z hz => by rcases Nat.lt_succ_iff_lt_or_eq.1 hz with h | rfl; exact hno z h; rw [huu, hxd]; exact hnf⟩, by omega⟩ ⟨rfl, rfl, rfl, rfl, rfl, rfl, trivial⟩ ⟨[0, 1], by decide, rfl⟩
        · skip
          have hany : (rs.any fun q => fits (l.getD k default) (w.getD q default)) = false := by
            rw [List.any_eq_false]
            intro u hu
            obtain ⟨z, hz⟩ := List.getElem?_of_mem hu
            have h1 := hno z (by have := (List.getElem?_eq_some_iff.1 hz).1; omega)
            rw [getD_some hz] at h1
            rw [hpd, h1]; decide
          refine gl_nil ?_
          refine gx_then ?_
          refine gc_cond_f rfl ?_
          refine gc_exit ?_
          refine gx_then_exit ?_
          refine gx_then_exit ?_
          refine gx_block_exit ?_
          refine gx_block ?_
          refine gx_then ?_
          refine gc_region ?_
          refine gl_op (op_rd rfl (rd_move rfl) ?_)
          refine gl_op (op_rd rfl (by first | exact rd_addN (b := 1) rfl rfl (by omega) | exact rd_add rfl rfl (by omega) (by omega)) ?_)
          refine gl_op (op_rd rfl (rd_assign rfl) ?_)
          refine gl_nil ?_
          refine gx_then ?_
          exact gx_cut ((k + 1, fs, r10, c10)) ⟨⟨by simp only; omega, by simp only; rw [filt_succ, ← hfs, if_neg (by rw [hany]; decide)]⟩, by simp only; omega⟩ ⟨rfl, rfl, rfl, rfl, rfl, trivial⟩ ⟨[0, 1], by decide, rfl⟩
      · skip
        refine gl_nil ?_
        refine gx_then ?_
        refine gc_cond_f rfl ?_
        refine gc_exit ?_
        refine gx_then_exit ?_
        refine gx_then_exit ?_
        refine gx_block_exit ?_
        refine gx_then ?_
        refine gc_seq ?_
        refine gc_region ?_
        refine gl_op (op_rd rfl (rd_move rfl) ?_)
        refine gl_op (op_rd rfl (rd_move rfl) ?_)
        refine gl_op (op_rd rfl (rd_assign rfl) ?_)
        refine gl_op (op_rd rfl (rd_assign rfl) ?_)
        refine gl_op (op_rd rfl (rd_assign rfl) ?_)
        refine gl_nil ?_
        refine gx_then ?_
        refine gc_ret ?_
        refine gx_ret3 (.inl rfl) Try.results18 rfl rfl rfl [1, 0] (by decide) ?_
        have hfe : fs = rf := by rw [hfs, show k = l.length by omega, ← hres2, hres1, ← hus]; rfl
        exact ⟨r9, c9, r10, c10, by rw [← hus, ← hfe], by rw [← hus, ← hfe]; rfl⟩

end Go.Proofs.Yteiopfefmphhaaa

set_option autoImplicit false
set_option linter.unusedVariables false
namespace Go.Proofs.Yteiopfefmphhaaa
open Go.Gv
open Go.RowKit
open Iv
namespace Iv
theorem rshortF_len (l : List Pipe) (w : List Wish) : (rshortF l w).1.length ≤ w.length ∧ (rshortF l w).2.length ≤ l.length := by
  unfold rshortF
  split
  · exact ⟨filt_len _ _, filt_len _ _⟩
  · exact ⟨Nat.zero_le _, Nat.zero_le _⟩
open Go.Deep in
theorem open_cap {H : Type} {enc : TypeId × Value → H} {W : World} {base : Nat} {sp : Nat → Bool} {held : Bool} {T E : TypeId} (hu : Try.prog.underlying T = some (.slice E)) {n : Nat} {cs : List Value} {x : DataW H × List MemPlace} (h : DataW.trod enc Try.prog W base sp held n T cs = some x) {a : Option Addr} {m c : Nat} (hz : cs = [.slice a m c]) : m ≤ c := by
  rcases open_slice hu h with ⟨rfl, rfl⟩ | ⟨a', len, cap, m', k, D, Pl, rfl, hb, hl, _⟩
  · cases hz; exact Nat.le_refl _
  · cases hz; exact hl
end Iv
theorem sameN_ok (xs : List Nat) (a b : Option Addr) (ca cb : Nat) (w0 : World) (hx : OldSl w0 [] a xs.length 1 (xs.map natV)) (hy : OldSl w0 [] b xs.length 1 (xs.map natV)) (hb : xs.length ≤ 140737488355328) : Sp Try.prog 16 [.slice a xs.length ca, .slice b xs.length cb] w0 [] (RV (.bool true)) := by
  have h := same_ok (xs.map fun n : Nat => (n : Int)) (xs.map fun n : Nat => (n : Int)) a b ca cb w0 (by rw [natInt, List.length_map]; exact hx) (by rw [natInt, List.length_map]; exact hy) (by rw [List.length_map]; exact hb) (by rw [List.length_map]; exact hb)
  rw [decide_eq_true rfl, List.length_map] at h
  exact h

set_option maxRecDepth 100000 in
set_option maxHeartbeats 2000000 in
theorem InventoryShort_ok (l : List Pipe) (w : List Wish) (a b : Option Addr) (ca cb : Nat) (w0 : World) (hl : OldSl w0 [] a l.length 3 (l.flatMap Pipe.cells)) (hw : OldSl w0 [] b w.length 5 (w.flatMap Wish.cells)) (hlb : l.length ≤ 140737488355328) (hwb : w.length ≤ 140737488355328) (hcb : w.length ≤ cb) : Sp Try.prog 5 [.slice a l.length ca, .slice b w.length cb] w0 [] (RV (.bool true)) := by
  refine spec_enter Try.func5 rfl Try.ntmps5 rfl (Own.refl _) ?_
  simp only [argEnv]
  refine gc_seq ?_
  refine gc_region ?_
  refine gl_op (op_rd rfl (rd_assign rfl) ?_)
  refine gl_nil ?_
  refine gx_then ?_
  refine gc_seq ?_
  refine gc_seq ?_
  refine gc_region ?_
  refine gl_op (op_rd rfl (rd_move rfl) ?_)
  refine gl_op (op_rd rfl (rd_move rfl) ?_)
  obtain ⟨us, fs, hres⟩ : ∃ us fs, rshortF l w = (us, fs) := ⟨_, _, rfl⟩
  have hsh : shortF l w = some (us, fs) := by rw [short_same, hres]
  obtain ⟨hul, hfl⟩ : us.length ≤ w.length ∧ fs.length ≤ l.length := by have := rshortF_len l w; rw [hres] at this; exact this
  refine gl_op (op_call rfl (vf := []) (vc := []) rfl rfl Try.call13 (fun w1 ho => few_ok l w a b ca cb w1 hlb hwb) ?_)
  rintro _ _ ⟨rfl, rfl⟩
  refine gk_bool (fun hfew => ?_) (fun hfew => ?_)
  · skip
    refine gl_op (op_rd rfl (rd_not rfl) ?_)
    refine gl_op (op_rd rfl (rd_move rfl) ?_)
    refine gl_yes rfl rfl (op_rd rfl (rd_move rfl) ?_)
    refine gl_yes rfl rfl (op_rd rfl (rd_lenSlice Try.underlying22 rfl) ?_)
    refine gl_yes rfl rfl (op_rd rfl (rd_move rfl) ?_)
    refine gl_yes rfl rfl (op_rd rfl (rd_lenSlice Try.underlying23 rfl) ?_)
    refine gl_yes rfl rfl (op_rd rfl (by first | exact rd_addN rfl rfl (by omega) | exact rd_add rfl rfl (by omega) (by omega)) ?_)
    refine gl_yes rfl rfl (op_rd rfl (rd_gtr rfl rfl) (gk_dec (fun h21 => ?_) (fun h21 => ?_)))
    · skip
      refine gl_op (op_rd rfl (rd_pick_f rfl rfl) ?_)
      refine gl_nil ?_
      refine gx_then ?_
      refine gc_cond_t rfl ?_
      refine gc_seq ?_
      refine gc_region ?_
      refine gl_op (op_call rfl (vf := []) (vc := []) rfl rfl Try.call8 (fun w1 ho => shown_ok w1) ?_)
      rintro _ _ ⟨rfl, rfl⟩
      refine gl_op (op_rd rfl (rd_assign rfl) ?_)
      refine gl_nil ?_
      refine gx_then ?_
      refine gc_ret ?_
      refine gx_then_ret ?_
      refine gx_ret1 (.inl rfl) Try.results5 rfl [] (by decide) ?_
      exact ⟨rfl, rfl⟩
    · skip
      refine gl_op (op_rd rfl (rd_pick_f rfl rfl) ?_)
      refine gl_nil ?_
      refine gx_then ?_
      refine gc_cond_f rfl ?_
      refine gc_skip ?_
      refine gx_then ?_
      refine gc_seq ?_
      refine gc_region ?_
      refine gl_op (op_rd rfl (rd_move rfl) ?_)
      refine gl_op (op_rd rfl (rd_move rfl) ?_)
      refine gl_op (op_call rfl (vf := []) (vc := []) rfl rfl Try.call17 (fun w2 ho => Short_ok l w a b ca cb w2 (hl.at ho) (hw.at ho) hlb hwb us fs hsh) ?_)
      rintro _ _ ⟨ra, ka, rb, kb, rfl, rfl⟩
      refine gl_op (op_rd rfl (rd_move rfl) ?_)
      refine gl_op (op_rd rfl (rd_extract rfl rfl) ?_)
      refine gl_op (op_rd rfl (rd_extract rfl rfl) ?_)
      refine gl_op (op_rd rfl (rd_extract rfl rfl) ?_)
      refine gl_op (op_rd rfl (rd_assign rfl) ?_)
      refine gl_op (op_rd rfl (rd_assign rfl) ?_)
      refine gl_op (op_rd rfl (rd_assign rfl) ?_)
      refine gl_nil ?_
      refine gx_then ?_
      refine gc_seq ?_
      refine gc_region ?_
      refine gl_op (op_rd rfl (rd_move rfl) ?_)
      refine gl_op (op_rd rfl (rd_move rfl) ?_)
      refine gl_op (op_call rfl (vf := []) (vc := []) rfl rfl Try.call18 (fun w2 ho => rShort_ok l w a b ca cb w2 (hl.at ho) (hw.at ho) hlb hwb hcb us fs hres) ?_)
      rintro _ _ ⟨rc, kc, rd, kd, rfl, rfl⟩
      refine gl_op (op_rd rfl (rd_move rfl) ?_)
      refine gl_op (op_rd rfl (rd_extract rfl rfl) ?_)
      refine gl_op (op_rd rfl (rd_extract rfl rfl) ?_)
      refine gl_op (op_rd rfl (rd_extract rfl rfl) ?_)
      refine gl_op (op_rd rfl (rd_assign rfl) ?_)
      refine gl_op (op_rd rfl (rd_assign rfl) ?_)
      refine gl_op (op_rd rfl (rd_assign rfl) ?_)
      refine gl_nil ?_
      refine gx_then ?_
      refine gc_seq ?_
      refine gc_region ?_
      refine gl_op (op_rd rfl (rd_move rfl) ?_)
      refine gl_op (op_rd rfl (rd_move rfl) ?_)
      refine gl_op (op_call rfl (vf := []) (vc := []) rfl rfl Try.call16 (fun w2 ho => sameN_ok us (rowA ra) (rowA rc) ka kc w2 (ho.rowSl 2 rfl) (ho.rowSl 0 rfl) (by omega)) ?_)
      rintro _ _ ⟨rfl, rfl⟩
      refine gl_op (op_rd rfl (rd_move rfl) ?_)
      refine gl_yes rfl rfl (op_rd rfl (rd_move rfl) ?_)
      refine gl_yes rfl rfl (op_rd rfl (rd_move rfl) ?_)
      refine gl_yes rfl rfl (op_call rfl (vf := []) (vc := []) rfl rfl Try.call16 (fun w2 ho => sameN_ok fs (rowA rb) (rowA rd) kb kd w2 (ho.rowSl 3 rfl) (ho.rowSl 1 rfl) (by omega)) ?_)
      rintro _ _ ⟨rfl, rfl⟩
      refine gl_op (op_rd rfl (rd_pick_t rfl rfl) ?_)
      refine gl_op (op_rd rfl (rd_move rfl) ?_)
      refine gl_yes rfl rfl (op_rd rfl (rd_move rfl) ?_)
      refine gl_yes rfl rfl (op_rd rfl (rd_move rfl) ?_)
      refine gl_yes rfl rfl (op_rd rfl (rd_eql rfl rfl) (gk_dec (fun hd1 => ?_) (fun hd1 => ?_)))
      · skip
        refine gl_op (op_rd rfl (rd_pick_t rfl rfl) ?_)
        refine gl_op (op_rd rfl (rd_move rfl) ?_)
        refine gl_yes rfl rfl (op_call rfl (vf := []) (vc := []) rfl rfl Try.call8 (fun w1 ho => shown_ok w1) ?_)
        rintro _ _ ⟨rfl, rfl⟩
        refine gl_op (op_rd rfl (rd_pick_t rfl rfl) ?_)
        refine gl_op (op_rd rfl (rd_assign rfl) ?_)
        refine gl_nil ?_
        refine gx_then ?_
        refine gc_ret ?_
        refine gx_ret1 (.inl rfl) Try.results5 rfl [] (by decide) ?_
        exact ⟨rfl, rfl⟩
      · skip
        exact absurd rfl (by assumption)
  · skip
    refine gl_op (op_rd rfl (rd_not rfl) ?_)
    refine gl_op (op_rd rfl (rd_move rfl) ?_)
    refine gl_no rfl rfl rfl ?_
    refine gl_no rfl rfl rfl ?_
    refine gl_no rfl rfl rfl ?_
    refine gl_no rfl rfl rfl ?_
    refine gl_no rfl rfl rfl ?_
    refine gl_no rfl rfl rfl ?_
    refine gl_op (op_rd rfl (rd_pick_t rfl rfl) ?_)
    refine gl_nil ?_
    refine gx_then ?_
    refine gc_cond_t rfl ?_
    refine gc_seq ?_
    refine gc_region ?_
    refine gl_op (op_call rfl (vf := []) (vc := []) rfl rfl Try.call8 (fun w1 ho => shown_ok w1) ?_)
    rintro _ _ ⟨rfl, rfl⟩
    refine gl_op (op_rd rfl (rd_assign rfl) ?_)
    refine gl_nil ?_
    refine gx_then ?_
    refine gc_ret ?_
    refine gx_then_ret ?_
    refine gx_ret1 (.inl rfl) Try.results5 rfl [] (by decide) ?_
    exact ⟨rfl, rfl⟩

end Go.Proofs.Yteiopfefmphhaaa

set_option autoImplicit false
set_option linter.unusedVariables false
namespace Go.Proofs.Yteiopfefmphhaaa
open Go.Gv
open Go.RowKit Go.ChangeShapes Go.WideShapes
open Iv
set_option maxHeartbeats 1000000 in
set_option maxRecDepth 100000 in
theorem inventoryShort_lifted (os : Os) (started : os.Started) (H : Type) (enc : TypeId × Value → H) :
    ReturnsInHanded {} Try.checked os 5 .any (Rows.inventoryShortSpec.pre6 enc Try.prog Try.f5 Rows.inventoryShortRow.domain false) (Rows.inventoryShortSpec.post enc Try.prog Try.f5 false true false false) := by
  refine returnsInHanded_of_change_sized (C := Try.checked) tryOwn started (by kernel_rfl) Try.func5
    (ChangeSpec.witness6 (enc := enc) (C := Try.checked) false ⟨#[], #[.slice none 0 0, .slice none 0 0], []⟩ 8 (by kernel_rfl) (by kernel_rfl) (by kernel_rfl) (by kernel_rfl)) ?_
  intro W base args ds gs before hval0 hW _ hwt _
  have hval : ∀ (j : Nat) t v, Try.f5.params[j]? = some t → args[j]? = some v → Value.okWide Try.prog W .any base t v := hval0
  have hW' := hW
  obtain ⟨p, q, hA0, hV, rfl, hfz, hnd⟩ := hW
  have hA : DataW.TrodAll enc Try.prog W 0 (fun _ => true) true Try.f5.params.toList args.toList ds p := hA0
  rw [Try.params5] at hA hval
  obtain ⟨v0, vs0, d0, ds0, p0, q0, hargs, rfl, rfl, h0, r0⟩ := trodAll_cons hA
  obtain ⟨v1, vs1, d1, ds1, p1, q1, rfl, rfl, rfl, h1, r1⟩ := trodAll_cons r0
  obtain ⟨rfl, rfl, rfl⟩ := trodAll_nil r1
  obtain rfl : args = #[v0, v1] := Array.toList_inj.1 hargs
  obtain ⟨rfl, rfl⟩ := trodVars_none hV
  obtain ⟨sa0, sn0, sc0, rfl⟩ := okWide_slice Try.underlying22 (hval 0 22 v0 rfl rfl)
  obtain ⟨fuel0, hf0⟩ := h0
  obtain ⟨pa0, zs0, cp0, hz0, hsl0, hlen0⟩ := openPipes hf0 (fun b hb => by
    have := List.all_eq_true.1 hwt b (DataW.weights_mem_each (j := 0) (t := 22) rfl rfl b hb)
    simpa using this)
  have e0 : Value.slice sa0 sn0 sc0 = .slice pa0 zs0.length cp0 := by
    simpa [Value.cells] using hz0
  obtain ⟨sa1, sn1, sc1, rfl⟩ := okWide_slice Try.underlying23 (hval 1 23 v1 rfl rfl)
  obtain ⟨fuel1, hf1⟩ := h1
  obtain ⟨pa1, zs1, cp1, hz1, hsl1, hlen1⟩ := openWishes hf1 (fun b hb => by
    have := List.all_eq_true.1 hwt b (DataW.weights_mem_each (j := 1) (t := 23) rfl rfl b hb)
    simpa using this)
  have e1 : Value.slice sa1 sn1 sc1 = .slice pa1 zs1.length cp1 := by
    simpa [Value.cells] using hz1
  have hcall := InventoryShort_ok zs0 zs1 pa0 pa1 cp0 cp1 W hsl0 hsl1 hlen0 hlen1 (open_cap Try.underlying23 hf1 hz1)
  rw [e0]
  rw [e0] at hW'
  rw [e1]
  rw [e1] at hW'
  unfold Sp at hcall
  refine Calls.mono hcall fun e W' ⟨v, l, he, hR, ho⟩ => ⟨v, he, ?_⟩
  obtain ⟨rfl, rfl⟩ := hR
  exact law_post hW' rfl ho.below rfl rfl rfl rfl (by rw [Try.params5]; intro t ht; simp at ht; rcases ht with rfl | rfl <;> exact ⟨by kernel_rfl, of_decide_eq_true (by kernel_rfl)⟩)
theorem inventoryShort_over : Rows.inventoryShortRow.holds Try.pinned (OpenSpec.ofChange Rows.inventoryShortSpec) :=
  OpenClaim.holds_of_wide 5 Try.f5 rfl rfl rfl rfl rfl rfl rfl ⟨rfl, rfl, rfl, rfl, rfl⟩ rfl rfl rfl rfl rfl (by kernel_rfl) Try.func5 (by kernel_rfl)
    (of_decide_eq_true (by kernel_rfl)) (by unfold Func.isWrapper; first | (rw [if_pos (by decide +kernel)]; kernel_rfl) | (rw [if_neg (by decide +kernel)]; exact ⟨rfl, rfl⟩))
    (fun os started H enc _ => inventoryShort_lifted os started H enc)
theorem inventoryShort_proved : Rows.InventoryShortSaid := inventoryShort_over
end Go.Proofs.Yteiopfefmphhaaa
