import Derived.Test.YthcbcdjkfefnlaaSg
import Derived.Test.YthcbcdjkfefnlaaSr
/- This text proves StorePlaysSaid: for every number of blocks and list of acts StorePlays returns true, and its arguments read as before. -/
set_option linter.unusedSimpArgs false
set_option linter.unusedVariables false
set_option linter.unnecessarySimpa false
set_option autoImplicit false
set_option linter.unusedVariables false
namespace Go.Proofs.Ythcbcdjkfefnlaa
open Go.Gv
open Go.RowKit
open Iv
namespace Iv
/-- the state of the law's loop -/
structure PlS where
  j : Nat
  bf : Nat
  rb : Option Nat
  cb : Nat
  rp : Option Nat
  cp : Nat
  bs : Nat
  bm : Nat
  id : Nat
  num : Nat
  fb : Nat
  f : Fl
  m : List (ME He)
  nb : Nat
  T : List HL
  V : Vals
  L : List Rv
  rL : Option Nat
  cL : Nat
structure PlS.Ok (s : PlS) (n : Nat) : Prop where
  st : StOk s.f s.id s.m s.nb s.T s.num s.fb s.V
  rf : RfOk s.L s.T s.V
  left : s.f.left = -1
  len : s.f.b.length = 256 * n
  er : s.f.er ≤ 2 * s.j + 1
  pr : s.f.pr ≤ 100000 * s.j
  hst : s.f.st ≤ s.j + 1
  num : s.num ≤ s.j
end Iv

theorem great_no {l : List Sact} {k : Nat} (h : greatP l k = false) : l.length ≤ k ∧ ∀ x ∈ l, x.v.length ≤ 100 := by
  unfold greatP at h
  rw [Bool.or_eq_false_iff, decide_eq_false_iff_not, List.any_eq_false] at h
  exact ⟨by omega, fun x hx => by have := h.2 x hx; simp at this; omega⟩

set_option maxRecDepth 100000 in
set_option maxHeartbeats 4000000 in
theorem StorePlays_ok (b : Nat) (hb256 : b < 256) (l : List Sact) (a : Option Addr) (ca : Nat) (w0 : World) (hsl : OldSl w0 [] a l.length 3 (l.flatMap Sact.cells)) (hlen : l.length ≤ 140737488355328) (hin : ∀ g ∈ l, g.In w0 []) : Sp Try.prog 3 [.int .u8 (b : Int), .slice a l.length ca] w0 [] (RV (.bool true)) := by
  refine spec_enter Try.func3 rfl Try.ntmps3 rfl (Own.refl _) ?_
  simp only [argEnv]
  refine gc_seq ?_
  refine gc_region ?_
  refine gl_op (op_rd rfl (rd_assign rfl) ?_)
  refine gl_nil ?_
  refine gx_then ?_
  refine gc_seq ?_
  refine gc_seq ?_
  refine gc_region ?_
  refine gl_op (op_rd rfl (rd_move rfl) ?_)
  refine gl_op (op_call rfl (vf := []) (vc := []) rfl rfl Try.call8 (fun w1 ho => great_q l a ca w1 (hsl.at ho) hlen 150) ?_)
  rintro _ _ ⟨rfl, rfl⟩
  refine gk_bool (fun hgr => ?_) (fun hgr => ?_)
  · skip
    refine gl_nil ?_
    refine gx_then ?_
    refine gc_cond_t rfl ?_
    refine gc_seq ?_
    refine gc_region ?_
    refine gl_op (op_call rfl (vf := []) (vc := []) rfl rfl Try.call9 (fun w1 ho => shown_ok w1) ?_)
    rintro _ _ ⟨rfl, rfl⟩
    refine gl_op (op_rd rfl (rd_assign rfl) ?_)
    refine gl_nil ?_
    refine gx_then ?_
    refine gc_ret ?_
    refine gx_then_ret ?_
    refine gx_ret1 (.inl rfl) Try.results3 rfl [] (by decide) ?_
    exact ⟨rfl, rfl⟩
  · skip
    obtain ⟨h150, hsmall⟩ := great_no hgr
    obtain ⟨n, hn⟩ : ∃ n, 4 + b % 16 = n := ⟨_, rfl⟩
    refine gl_nil ?_
    refine gx_then ?_
    refine gc_cond_f rfl ?_
    refine gc_skip ?_
    refine gx_then ?_
    refine gc_seq ?_
    refine gc_region ?_
    refine gl_op (op_rd rfl (rd_move rfl) ?_)
    refine gl_op (op_rd rfl (rd_conv Try.runUnderlying5 Try.runUnderlying3 rfl (wrap_i64_nat (by omega))) ?_)
    refine gl_op (op_rd rfl (by first | exact rd_remN (b := 16) rfl rfl (by omega) | exact rd_rem rfl rfl (by omega) (by omega)) ?_)
    refine gl_op (op_rd rfl (by first | exact rd_addN (a := 4) rfl rfl (by omega) | exact rd_add rfl rfl (by omega) (by omega)) ?_)
    refine gl_op (op_rd rfl (rd_assign rfl) ?_)
    refine gl_nil ?_
    refine gx_then ?_
    refine gc_seq ?_
    rw [hn]
    refine gc_region ?_
    refine gl_op (op_rd rfl (rd_move rfl) ?_)
    refine gl_op (op_call rfl (vf := []) (vc := []) rfl rfl Try.call10 (fun w1 ho => New_ok n (by omega) (by omega) w1) ?_)
    rintro _ _ ⟨bf, rb, cb, rfl, rfl⟩
    have hfr := new_fresh (n := n) (by omega) (by omega)
    obtain ⟨f0, hf0⟩ : ∃ f, flNew (List.replicate (256 * n) 255) = f := ⟨_, rfl⟩
    have hst0 : f0.st = 0 := by rw [← hf0]; rfl
    have hall : ∀ z ∈ f0.b, z = 255 := fun z hz => by rw [← hf0] at hz; exact List.eq_of_mem_replicate hz
    rw [hf0] at hfr
    rw [show flNew (List.replicate (256 * n) 255) = f0 from hf0]
    have hfl := hfr.len
    have hfer := hfr.er
    have hfpr := hfr.pr
    have hfi0 := fi_new hall hfr.ok.len (by omega)
    refine gl_op (op_rd rfl (rd_move rfl) ?_)
    refine gl_op (op_rd rfl (rd_extract rfl rfl) ?_)
    refine gl_op (op_rd rfl (rd_extract rfl rfl) ?_)
    refine gl_op (op_rd rfl (rd_assign rfl) ?_)
    refine gl_op (op_rd rfl (rd_assign rfl) ?_)
    refine gl_nil ?_
    refine gx_then ?_
    refine gc_seq ?_
    refine gc_region ?_
    refine gl_op (op_rd rfl (rd_move rfl) ?_)
    refine gl_op (op_callM [0, 1, 2] [] rfl (vf := []) (vc := []) rfl rfl Try.call11 (by decide) rfl (fun w how hc => OpenG_ok f0 hfr.ok bf rb cb none 0 0 _ hfi0 ⟨0, by omega, em_spare hfi0.lt (fun i hi => hall _ (gB_mem (by omega)))⟩ (capV_none _) _ w hc (by omega) (by omega) hfr.dn) ?_)
    rintro _ _ (⟨bs, bm, m, nb, T, num, f1, fb, rfl, hG, rfl⟩ | ⟨f2, rfl, hT, rfl⟩)
    · skip
      refine gk_mid [_, _, _, _, _] T [] ?_
      have hG1 := hG.er
      have hG2 := hG.pr
      have hG3 := hG.hst
      have hG4 := hG.num
      have hG5 := hG.len
      refine gl_op (op_rd rfl (rd_move rfl) ?_)
      refine gl_op (op_rd rfl (rd_extract rfl rfl) ?_)
      refine gl_op (op_rd rfl (rd_extract rfl rfl) ?_)
      refine gl_op (op_rd rfl (rd_assign rfl) ?_)
      refine gl_op (op_rd rfl (rd_assign rfl) ?_)
      refine gl_nil ?_
      refine gx_then ?_
      refine gc_seq ?_
      refine gc_seq ?_
      refine gc_region ?_
      refine gl_op (op_rd rfl (rd_move rfl) ?_)
      refine gl_op (op_rd rfl (rd_neq rfl rfl) (gk_dec (fun h41 => ?_) (fun h41 => ?_)))
      · skip
        exact absurd rfl h41
      · skip
        refine gl_op (op_rd rfl (rd_move rfl) ?_)
        refine gl_yes rfl rfl (op_rd rfl (rd_move rfl) ?_)
        refine gl_yes rfl rfl (op_rd rfl (rd_neq rfl rfl) (gk_dec (fun h44 => ?_) (fun h44 => ?_)))
        · skip
          exact absurd rfl h44
        · skip
          refine gl_op (op_rd rfl (rd_pick_f rfl rfl) ?_)
          refine gl_nil ?_
          refine gx_then ?_
          refine gc_cond_f rfl ?_
          refine gc_skip ?_
          refine gx_then ?_
          refine gc_seq ?_
          refine gc_region ?_
          refine gl_op (op_rd rfl (rd_move rfl) ?_)
          refine gl_op (op_rd rfl (rd_build rfl (fun _ => bd_35_0 _)) ?_)
          refine gl_op (op_box rfl rfl rfl (fun br => ?_))
          refine gl_op (op_rd rfl (rd_assign rfl) ?_)
          refine gl_nil ?_
          refine gx_then ?_
          refine gc_seq ?_
          refine gc_seq ?_
          refine gk_nil 99 2 ?_
          have hnn : n = f1.b.length / 256 := by omega
          rw [show (Value.int .i64 (n : Int)) = natV (f1.b.length / 256) by rw [← hnn]]
          refine gc_region ?_
          refine gl_op (op_rd rfl (rd_assign rfl) ?_)
          refine gl_nil ?_
          refine gx_then ?_
          refine gc_block ?_
          refine gc_loopF (ι := PlS) [(1, _), (10, _)] [] (fun s => s.j ≤ l.length ∧ s.Ok n) (fun s Fr0 => ((6, .pointer (some ⟨s.bf, 0, none⟩)) :: (8, .pointer (some ⟨s.bs, 0, none⟩)) :: (11, natV s.j) :: Fr0)) (fun s Fr0 => (.blk s.bs [.bool true, .pointer (some ⟨s.bf, 0, none⟩), natV s.id, .map (some s.bm), .int .u32 ((s.num : Nat) : Int), .int .i64 ((s.fb : Nat) : Int)] 81 :: .obj s.bm (mapO HV s.m s.nb) :: .blk s.bf (s.f.cells s.rb s.cb s.rp s.cp) 72 :: .row 5 1 s.rb s.f.b.length s.cb (s.f.b.map u8V) :: .row 5 1 s.rp s.f.picks.length s.cp (s.f.picks.map u8V) :: .blk br (RsC (s.f.b.length / 256) s.rL s.cL s.L) 35 :: .row 99 2 s.rL s.L.length s.cL (s.L.flatMap Rv.cells) :: (Fr0 ++ s.T))) (fun s => l.length - s.j) ⟨0, bf, rb, cb, none, 0, bs, bm, (f0.st + 1), num, fb, f1, m, nb, T, (fun _ => none), [], none, 0⟩ (⟨Nat.zero_le _, hG.st, rf_nil T, hG.no hfr.left, by simp only; omega, by simp only; omega, by simp only; omega, by simp only; omega, by simp only; omega⟩) ⟨rfl, rfl, rfl, rfl, rfl, trivial⟩ (sub_tail (A := [_, _, _, _, _, _, _]) (B := [_, _, _, _, _, _, _]) (T := T) [2, 3, 4, 5, 6, 1, 0] 7 (by decide) (by decide) rfl rfl) ?_
          rintro ⟨j, bf, rb, cb, rp, cp, bs, bm, id, num, fb, f, m, nb, T, V, L, rL, cL⟩ ⟨hj, hok⟩
          simp only at hj hok ⊢
          have hst : StOk f id m nb T num fb V := hok.st
          have hrf : RfOk L T V := hok.rf
          have hleft : f.left = -1 := hok.left
          have hfo := hst.ok
          have hbl := hfo.hi
          have hbl0 := hfo.lo
          have k1 : f.er ≤ 2 * j + 1 := hok.er
          have k2 : f.pr ≤ 100000 * j := hok.pr
          have k3 : f.st ≤ j + 1 := hok.hst
          have k4 : num ≤ j := hok.num
          have k5 : f.b.length = 256 * n := hok.len
          have hsk := same_keys hst hrf
          have hsl2 := hsk.2
          have hcap := hst.cap
          have hLb : L.length ≤ 100000 := by omega
          clear hok
          refine gc_seq ?_
          refine gc_seq ?_
          refine gc_region ?_
          refine gl_op (op_rd rfl (rd_move rfl) ?_)
          refine gl_op (op_rd rfl (rd_move rfl) ?_)
          refine gl_op (op_rd rfl (rd_lenSlice Try.underlying22 rfl) ?_)
          refine gl_op (op_rd rfl (rd_lss rfl rfl) (gk_dec (fun h52 => ?_) (fun h52 => ?_)))
          · skip
            obtain ⟨⟨wh, key, xa, xc, xv⟩, hx⟩ := get_some (show j < l.length by omega)
            have hxm := List.mem_of_getElem? hx
            have hxin := hin _ hxm
            have hxwh : wh < 256 := hxin.wh
            have hxl : xv.length ≤ 140737488355328 := hxin.len
            have hxk0 : -9223372036854775808 ≤ key := hxin.k0
            have hxk1 : key ≤ 9223372036854775807 := hxin.k1
            have hxv : ∀ z ∈ xv, z < 256 := hxin.v
            have hxsl : OldSl w0 [] xa xv.length 1 (xv.map u8V) := hxin.sl
            have hx100 : xv.length ≤ 100 := hsmall _ hxm
            clear hxin
            refine gl_nil ?_
            refine gx_then ?_
            refine gc_cond_t rfl ?_
            refine gc_skip ?_
            refine gx_then ?_
            refine gc_seq ?_
            refine gc_block ?_
            refine gc_seq ?_
            refine gc_region ?_
            refine gl_op (op_rd rfl (rd_move rfl) ?_)
            refine gl_op (op_rd rfl (rd_move rfl) ?_)
            refine gl_op (op_rd rfl (rd_indexOld hsl Try.underlying22 ty_38 rfl rfl (by omega) (by omega)) ?_)
            refine gl_op (op_rd rfl (rd_loadAgg Try.underlying38 rfl ty_38 rfl (cs_slN hsl (flat_drop_get Sact.cells 3 (fun _ => rfl) hx)) rfl) ?_)
            refine gl_op (op_alloc ty_38 rfl rfl (fun b12 => ?_))
            first | refine gl_op (op_storeAgg 0 ty_38 rfl rfl rfl rfl rfl rfl (by first | rfl | (simp only [List.set_cons_succ, List.set_cons_zero]; exact rfl)) ?_) | refine gl_op (op_storeAgg 1 ty_38 rfl rfl rfl rfl rfl rfl (by first | rfl | (simp only [List.set_cons_succ, List.set_cons_zero]; exact rfl)) ?_) | refine gl_op (op_storeAgg 3 ty_38 rfl rfl rfl rfl rfl rfl (by first | rfl | (simp only [List.set_cons_succ, List.set_cons_zero]; exact rfl)) ?_) | refine gl_op (op_storeAgg 6 ty_38 rfl rfl rfl rfl rfl rfl (by first | rfl | (simp only [List.set_cons_succ, List.set_cons_zero]; exact rfl)) ?_) | refine gl_op (op_storeRowAgg 4 ty_38 rfl rfl rfl rfl rfl (by simp; omega) (by first | rfl | (simp only [List.set_cons_succ, List.set_cons_zero]; exact rfl)) ?_) | refine gl_op (op_storeRowAgg 5 ty_38 rfl rfl rfl rfl rfl (by simp; omega) (by first | rfl | (simp only [List.set_cons_succ, List.set_cons_zero]; exact rfl)) ?_) | refine gl_op (op_storeRowAgg 7 ty_38 rfl rfl rfl rfl rfl (by simp; omega) (by first | rfl | (simp only [List.set_cons_succ, List.set_cons_zero]; exact rfl)) ?_)
            refine gl_nil ?_
            refine gx_then ?_
            refine gc_seq ?_
            refine gc_region ?_
            refine gl_op (op_rd rfl (rd_fieldAddr rfl (fa_38_0 _)) ?_)
            refine gl_op (op_rd rfl (rd_load Try.underlying5 rfl rfl (by first | exact ld_blk 0 rfl rfl | exact ld_blk 1 rfl rfl | exact ld_blk 3 rfl rfl | exact ld_blk 6 rfl rfl | exact ld_rowN 4 rfl (get_u8 (by omega)) | exact ld_rowN 5 rfl (get_u8 (by omega)) | exact ld_rowN 7 rfl (get_u8 (by omega)) | exact ld_slN (by assumption) (get_u8 (by omega)) | exact ld_old (by assumption) (by simp) | exact ld_cells (by assumption) (by simp) rfl)) ?_)
            refine gl_op (op_rd rfl (rd_remN (a := wh) (b := 10) rfl rfl (by omega)) ?_)
            refine gl_nil ?_
            refine gx_then ?_
            refine gc_block ?_
            refine gc_seq ?_
            refine gc_region ?_
            refine gl_op (op_rd rfl (rd_eql rfl rfl) (gk_dec (fun h102 => ?_) (fun h102 => ?_)))
            · skip
              refine gl_op (op_rd rfl (rd_assign rfl) ?_)
              refine gl_nil ?_
              refine gx_then ?_
              refine gc_cond_t rfl ?_
              refine gc_seq ?_
              refine gc_region ?_
              refine gl_op (op_rd rfl (rd_move rfl) ?_)
              refine gl_op (op_rd rfl (rd_fieldAddr rfl (fa_38_1 _)) ?_)
              refine gl_op (op_rd rfl (rd_load Try.underlying3 rfl rfl (by first | exact ld_blk 0 rfl rfl | exact ld_blk 1 rfl rfl | exact ld_blk 3 rfl rfl | exact ld_blk 6 rfl rfl | exact ld_rowN 4 rfl (get_nats (by omega)) | exact ld_rowN 5 rfl (get_nats (by omega)) | exact ld_rowN 7 rfl (get_nats (by omega)) | exact ld_slN (by assumption) (get_nats (by omega)) | exact ld_rowN 4 rfl (get_ints (by omega)) | exact ld_rowN 5 rfl (get_ints (by omega)) | exact ld_rowN 7 rfl (get_ints (by omega)) | exact ld_slN (by assumption) (get_ints (by omega)) | exact ld_old (by assumption) (by simp) | exact ld_cells (by assumption) (by simp) rfl)) ?_)
              refine gl_op (op_callMW [_, _, _, _, _, _, _, _] T [1, 2, 3, 4, 5] [0, 6, 7] 8 rfl rfl rfl (vf := []) (vc := []) rfl rfl Try.call12 (by decide) (by decide) rfl (fun w how hc => GetM_ok f bs bf rb cb rp cp id bm num fb m nb T V hst _ w hc key) ?_)
              rintro _ _ ⟨rg, cg, rfl, rfl⟩
              refine gk_mid [_, _, _, _, _, _] T [_, _, _] ?_
              refine gl_op (op_rd rfl (rd_move rfl) ?_)
              refine gl_op (op_rd rfl (rd_extract rfl rfl) ?_)
              refine gl_op (op_rd rfl (rd_extract rfl rfl) ?_)
              refine gl_op (op_rd rfl (rd_assign rfl) ?_)
              refine gl_op (op_rd rfl (rd_assign rfl) ?_)
              refine gl_nil ?_
              refine gx_then ?_
              refine gc_seq ?_
              refine gc_region ?_
              refine gl_op (op_rd rfl (rd_move rfl) ?_)
              refine gl_op (op_rd rfl (rd_fieldAddr rfl (fa_38_1 _)) ?_)
              refine gl_op (op_rd rfl (rd_load Try.underlying3 rfl rfl (by first | exact ld_blk 1 rfl rfl | exact ld_blk 3 rfl rfl | exact ld_blk 6 rfl rfl | exact ld_blk 7 rfl rfl | exact ld_rowN 0 rfl (get_nats (by omega)) | exact ld_rowN 4 rfl (get_nats (by omega)) | exact ld_rowN 5 rfl (get_nats (by omega)) | exact ld_rowN 8 rfl (get_nats (by omega)) | exact ld_slN (by assumption) (get_nats (by omega)) | exact ld_rowN 0 rfl (get_ints (by omega)) | exact ld_rowN 4 rfl (get_ints (by omega)) | exact ld_rowN 5 rfl (get_ints (by omega)) | exact ld_rowN 8 rfl (get_ints (by omega)) | exact ld_slN (by assumption) (get_ints (by omega)) | exact ld_old (by assumption) (by simp) | exact ld_cells (by assumption) (by simp) rfl)) ?_)
              refine gl_op (op_call rfl (vf := []) (vc := []) rfl rfl Try.call13 (fun w1 ho => rGet_q L br (f.b.length / 256) rL cL hLb w1 (ho.blkCells 7 rfl) (ho.rowSl 8 rfl) (fun x hx => ho.memSl (show x.row ∈ _ from by simp [hrf.row x hx])) hrf.len key) ?_)
              rintro _ _ ⟨rh, ch, rfl, rfl⟩
              rw [rget_sget hrf key]
              refine gl_op (op_rd rfl (rd_move rfl) ?_)
              refine gl_op (op_rd rfl (rd_extract rfl rfl) ?_)
              refine gl_op (op_rd rfl (rd_extract rfl rfl) ?_)
              refine gl_op (op_rd rfl (rd_assign rfl) ?_)
              refine gl_op (op_rd rfl (rd_assign rfl) ?_)
              refine gl_nil ?_
              refine gx_then ?_
              refine gc_seq ?_
              refine gc_region ?_
              refine gl_op (op_rd rfl (rd_move rfl) ?_)
              refine gl_op (op_rd rfl (rd_toStr (zs := (sgetP key V).1) Try.underlying36 Try.underlying5 Try.underlying9 rfl (fun w ho => ho.rowSl 1 rfl)) ?_)
              refine gl_op (op_rd rfl (rd_move rfl) ?_)
              refine gl_op (op_rd rfl (rd_toStr (zs := (sgetP key V).1) Try.underlying36 Try.underlying5 Try.underlying9 rfl (fun w ho => ho.rowSl 0 rfl)) ?_)
              refine gl_op (op_rd rfl (rd_neqStr Try.underlying9 eg_9 rfl rfl) ?_)
              rw [show (!((strN (sgetP key V).1).toList == (strN (sgetP key V).1).toList)) = false by simp]
              refine gl_op (op_rd rfl (rd_move rfl) ?_)
              refine gl_yes rfl rfl (op_rd rfl (rd_move rfl) ?_)
              refine gl_yes rfl rfl (op_rd rfl (rd_move rfl) ?_)
              refine gl_yes rfl rfl (op_rd rfl (rd_neq rfl rfl) (gk_dec (fun h125 => ?_) (fun h125 => ?_)))
              · skip
                exact absurd rfl h125
              · skip
                refine gl_op (op_rd rfl (rd_pick_f rfl rfl) ?_)
                refine gl_nil ?_
                refine gx_then ?_
                refine gc_cond_f rfl ?_
                refine gc_skip ?_
                refine gx_block ?_
                refine gx_block ?_
                refine gx_then ?_
                refine gc_region ?_
                refine gl_op (op_rd rfl (rd_move rfl) ?_)
                refine gl_op (op_rd rfl (by first | exact rd_addN (b := 1) rfl rfl (by omega) | exact rd_add rfl rfl (by omega) (by omega)) ?_)
                refine gl_op (op_rd rfl (rd_assign rfl) ?_)
                refine gl_nil ?_
                refine gx_then ?_
                have q1 : f.er ≤ 2 * (j + 1) + 1 := by omega
                have q2 : f.pr ≤ 100000 * (j + 1) := by rw [Nat.mul_succ]; omega
                have q3 : f.st ≤ j + 1 + 1 := by omega
                have q4 : num ≤ j + 1 := by omega
                have q5 : j + 1 ≤ l.length := by omega
                have q6 : l.length - (j + 1) < l.length - j := by omega
                have q7 : f.b.length = 256 * n := by omega
                exact gx_cut (⟨j + 1, bf, rb, cb, rp, cp, bs, bm, id, num, fb, f, m, nb, T, V, L, rL, cL⟩) ⟨⟨q5, hst, hrf, hleft, q7, q1, q2, q3, q4⟩, q6⟩ ⟨rfl, rfl, rfl, rfl, rfl, trivial⟩ (sub_tail (A := [_, _, _, _, _, _, _]) (B := [_, _, _, _, _, _, _, _, _, _]) (T := T) [2, 3, 4, 5, 6, 8, 9] 10 (by decide) (by decide) rfl rfl)
            · skip
              refine gl_op (op_rd rfl (rd_assign rfl) ?_)
              refine gl_nil ?_
              refine gx_then ?_
              refine gc_cond_f rfl ?_
              refine gc_seq ?_
              refine gc_region ?_
              refine gl_op (op_rd rfl (rd_eql rfl rfl) (gk_dec (fun h128 => ?_) (fun h128 => ?_)))
              · skip
                refine gl_op (op_rd rfl (rd_assign rfl) ?_)
                refine gl_nil ?_
                refine gx_then ?_
                refine gc_cond_t rfl ?_
                refine gc_seq ?_
                refine gc_region ?_
                refine gl_op (op_rd rfl (rd_move rfl) ?_)
                refine gl_op (op_rd rfl (rd_move rfl) ?_)
                refine gl_op (op_callMW [_, _, _, _, _, _, _, _] T [1, 2, 3, 4, 5, 6, 7] [0] 8 rfl rfl rfl (vf := []) (vc := []) rfl rfl Try.call14 (by decide) (by decide) rfl (fun w how hc => all_ok f bs bf rb cb rp cp id bm num fb m nb T V hst L br rL cL hrf _ w hc) ?_)
                rintro _ _ ⟨rfl, rfl⟩
                refine gk_mid [_, _, _, _, _, _, _] T [_] ?_
                refine gl_op (op_rd rfl (rd_not rfl) ?_)
                refine gl_nil ?_
                refine gx_then ?_
                refine gc_cond_f rfl ?_
                refine gc_skip ?_
                refine gx_block ?_
                refine gx_block ?_
                refine gx_then ?_
                refine gc_region ?_
                refine gl_op (op_rd rfl (rd_move rfl) ?_)
                refine gl_op (op_rd rfl (by first | exact rd_addN (b := 1) rfl rfl (by omega) | exact rd_add rfl rfl (by omega) (by omega)) ?_)
                refine gl_op (op_rd rfl (rd_assign rfl) ?_)
                refine gl_nil ?_
                refine gx_then ?_
                have q1 : f.er ≤ 2 * (j + 1) + 1 := by omega
                have q2 : f.pr ≤ 100000 * (j + 1) := by rw [Nat.mul_succ]; omega
                have q3 : f.st ≤ j + 1 + 1 := by omega
                have q4 : num ≤ j + 1 := by omega
                have q5 : j + 1 ≤ l.length := by omega
                have q6 : l.length - (j + 1) < l.length - j := by omega
                have q7 : f.b.length = 256 * n := by omega
                exact gx_cut (⟨j + 1, bf, rb, cb, rp, cp, bs, bm, id, num, fb, f, m, nb, T, V, L, rL, cL⟩) ⟨⟨q5, hst, hrf, hleft, q7, q1, q2, q3, q4⟩, q6⟩ ⟨rfl, rfl, rfl, rfl, rfl, trivial⟩ (sub_tail (A := [_, _, _, _, _, _, _]) (B := [_, _, _, _, _, _, _, _]) (T := T) [0, 1, 2, 3, 4, 5, 6] 8 (by decide) (by decide) rfl rfl)
              · skip
                refine gl_op (op_rd rfl (rd_assign rfl) ?_)
                refine gl_nil ?_
                refine gx_then ?_
                refine gc_cond_f rfl ?_
                refine gc_seq ?_
                refine gc_region ?_
                refine gl_op (op_rd rfl (rd_eql rfl rfl) (gk_dec (fun h134 => ?_) (fun h134 => ?_)))
                · skip
                  refine gl_op (op_rd rfl (rd_assign rfl) ?_)
                  refine gl_nil ?_
                  refine gx_then ?_
                  refine gc_cond_t rfl ?_
                  refine gc_seq ?_
                  refine gc_region ?_
                  refine gl_op (op_rd rfl (rd_move rfl) ?_)
                  refine gl_op (op_rd rfl (rd_move rfl) ?_)
                  refine gl_op (op_rd rfl (rd_fieldAddr rfl (fa_38_1 _)) ?_)
                  refine gl_op (op_rd rfl (rd_load Try.underlying3 rfl rfl (by first | exact ld_blk 0 rfl rfl | exact ld_blk 1 rfl rfl | exact ld_blk 3 rfl rfl | exact ld_blk 6 rfl rfl | exact ld_rowN 4 rfl (get_nats (by omega)) | exact ld_rowN 5 rfl (get_nats (by omega)) | exact ld_rowN 7 rfl (get_nats (by omega)) | exact ld_slN (by assumption) (get_nats (by omega)) | exact ld_rowN 4 rfl (get_ints (by omega)) | exact ld_rowN 5 rfl (get_ints (by omega)) | exact ld_rowN 7 rfl (get_ints (by omega)) | exact ld_slN (by assumption) (get_ints (by omega)) | exact ld_old (by assumption) (by simp) | exact ld_cells (by assumption) (by simp) rfl)) ?_)
                  refine gl_op (op_rd rfl (rd_remt rfl rfl (by decide)) ?_)
                  refine gl_op (op_rd rfl (rd_neq rfl rfl) ?_)
                  refine gk_bool (fun h141 => ?_) (fun h141 => ?_)
                  · skip
                    refine gl_op (op_callMW [_, _, _, _, _, _, _, _] T [1, 2, 3, 4, 5] [0, 6, 7] 8 rfl rfl rfl (vf := []) (vc := []) rfl rfl Try.call15 (by decide) (by decide) rfl (fun w how hc => reopened_new f bs bf rb cb rp cp id bm num fb m nb T V hst hleft (by omega) (by omega) _ w hc) ?_)
                    rintro _ _ ⟨bf2, bs2, rb2, cb2, rp2, cp2, bm2, f2, m2, nb2, T2, num2, fb2, id2, rfl, hR, rfl⟩
                    refine gk_mid [_, _, _, _, _] T2 [_, _, _] ?_
                    have hR1 := hR.er
                    have hR2 := hR.pr
                    have hR3 := hR.hst
                    have hR4 := hR.num
                    have hR5 := hR.len
                    rw [show f.b.length / 256 = f2.b.length / 256 by rw [hR5]]
                    refine gl_op (op_rd rfl (rd_move rfl) ?_)
                    refine gl_op (op_rd rfl (rd_extract rfl rfl) ?_)
                    refine gl_op (op_rd rfl (rd_extract rfl rfl) ?_)
                    refine gl_op (op_rd rfl (rd_assign rfl) ?_)
                    refine gl_op (op_rd rfl (rd_assign rfl) ?_)
                    refine gl_nil ?_
                    refine gx_then ?_
                    refine gc_seq ?_
                    refine gc_region ?_
                    refine gl_op (op_rd rfl (rd_move rfl) ?_)
                    refine gl_op (op_rd rfl (rd_eqlNilPt eg_29 Try.underlying29 rfl rfl) ?_)
                    refine gl_nil ?_
                    refine gx_then ?_
                    refine gc_cond_f rfl ?_
                    refine gc_skip ?_
                    refine gx_block ?_
                    refine gx_block ?_
                    refine gx_then ?_
                    refine gc_region ?_
                    refine gl_op (op_rd rfl (rd_move rfl) ?_)
                    refine gl_op (op_rd rfl (by first | exact rd_addN (b := 1) rfl rfl (by omega) | exact rd_add rfl rfl (by omega) (by omega)) ?_)
                    refine gl_op (op_rd rfl (rd_assign rfl) ?_)
                    refine gl_nil ?_
                    refine gx_then ?_
                    have q1 : f2.er ≤ 2 * (j + 1) + 1 := by omega
                    have q2 : f2.pr ≤ 100000 * (j + 1) := by rw [Nat.mul_succ]; omega
                    have q3 : f2.st ≤ j + 1 + 1 := by omega
                    have q4 : num2 ≤ j + 1 := by omega
                    have q5 : j + 1 ≤ l.length := by omega
                    have q6 : l.length - (j + 1) < l.length - j := by omega
                    have q7 : f2.b.length = 256 * n := by omega
                    exact gx_cut (⟨j + 1, bf2, rb2, cb2, rp2, cp2, bs2, bm2, id2, num2, fb2, f2, m2, nb2, T2, V, L, rL, cL⟩) ⟨⟨q5, hR.st, hrf.mono hR.tl, hR.left, q7, q1, q2, q3, q4⟩, q6⟩ ⟨rfl, rfl, rfl, rfl, rfl, trivial⟩ (sub_tail (A := [_, _, _, _, _, _, _]) (B := [_, _, _, _, _, _, _, _]) (T := T2) [0, 1, 2, 3, 4, 6, 7] 8 (by decide) (by decide) rfl rfl)
                  · skip
                    refine gl_op (op_callMW [_, _, _, _, _, _, _, _] T [1, 2, 3, 4, 5] [0, 6, 7] 8 rfl rfl rfl (vf := []) (vc := []) rfl rfl Try.call15 (by decide) (by decide) rfl (fun w how hc => reopened_old f bs bf rb cb rp cp id bm num fb m nb T V hst hleft (by omega) (by omega) _ w hc) ?_)
                    rintro _ _ ⟨bf2, bs2, rb2, cb2, rp2, cp2, bm2, f2, m2, nb2, T2, num2, fb2, id2, rfl, hR, rfl⟩
                    refine gk_mid [_, _, _, _, _] T2 [_, _, _] ?_
                    have hR1 := hR.er
                    have hR2 := hR.pr
                    have hR3 := hR.hst
                    have hR4 := hR.num
                    have hR5 := hR.len
                    rw [show f.b.length / 256 = f2.b.length / 256 by rw [hR5]]
                    refine gl_op (op_rd rfl (rd_move rfl) ?_)
                    refine gl_op (op_rd rfl (rd_extract rfl rfl) ?_)
                    refine gl_op (op_rd rfl (rd_extract rfl rfl) ?_)
                    refine gl_op (op_rd rfl (rd_assign rfl) ?_)
                    refine gl_op (op_rd rfl (rd_assign rfl) ?_)
                    refine gl_nil ?_
                    refine gx_then ?_
                    refine gc_seq ?_
                    refine gc_region ?_
                    refine gl_op (op_rd rfl (rd_move rfl) ?_)
                    refine gl_op (op_rd rfl (rd_eqlNilPt eg_29 Try.underlying29 rfl rfl) ?_)
                    refine gl_nil ?_
                    refine gx_then ?_
                    refine gc_cond_f rfl ?_
                    refine gc_skip ?_
                    refine gx_block ?_
                    refine gx_block ?_
                    refine gx_then ?_
                    refine gc_region ?_
                    refine gl_op (op_rd rfl (rd_move rfl) ?_)
                    refine gl_op (op_rd rfl (by first | exact rd_addN (b := 1) rfl rfl (by omega) | exact rd_add rfl rfl (by omega) (by omega)) ?_)
                    refine gl_op (op_rd rfl (rd_assign rfl) ?_)
                    refine gl_nil ?_
                    refine gx_then ?_
                    have q1 : f2.er ≤ 2 * (j + 1) + 1 := by omega
                    have q2 : f2.pr ≤ 100000 * (j + 1) := by rw [Nat.mul_succ]; omega
                    have q3 : f2.st ≤ j + 1 + 1 := by omega
                    have q4 : num2 ≤ j + 1 := by omega
                    have q5 : j + 1 ≤ l.length := by omega
                    have q6 : l.length - (j + 1) < l.length - j := by omega
                    have q7 : f2.b.length = 256 * n := by omega
                    exact gx_cut (⟨j + 1, bf2, rb2, cb2, rp2, cp2, bs2, bm2, id2, num2, fb2, f2, m2, nb2, T2, V, L, rL, cL⟩) ⟨⟨q5, hR.st, hrf.mono hR.tl, hR.left, q7, q1, q2, q3, q4⟩, q6⟩ ⟨rfl, rfl, rfl, rfl, rfl, trivial⟩ (sub_tail (A := [_, _, _, _, _, _, _]) (B := [_, _, _, _, _, _, _, _]) (T := T2) [0, 1, 2, 3, 4, 6, 7] 8 (by decide) (by decide) rfl rfl)
                · skip
                  refine gl_op (op_rd rfl (rd_assign rfl) ?_)
                  refine gl_nil ?_
                  refine gx_then ?_
                  refine gc_cond_f rfl ?_
                  refine gc_seq ?_
                  refine gc_region ?_
                  refine gl_op (op_rd rfl (rd_move rfl) ?_)
                  refine gl_op (op_callMT [_, _, _, _, _, _, _, _] T [3, 4, 5] [0, 1, 2, 6, 7] 8 rfl rfl rfl (vf := []) (vc := []) rfl rfl Try.call16 (by decide) (by decide) rfl (fun w how hc => Counts_ok f hst.ok bf rb cb rp cp _ w hc) ?_)
                  rintro _ _ ⟨rfl, rfl⟩
                  refine gl_op (op_rd rfl (rd_move rfl) ?_)
                  refine gl_op (op_rd rfl (rd_extract rfl rfl) ?_)
                  refine gl_op (op_rd rfl (rd_extract rfl rfl) ?_)
                  refine gl_op (op_rd rfl (rd_assign rfl) ?_)
                  refine gl_op (op_rd rfl (rd_assign rfl) ?_)
                  refine gl_nil ?_
                  refine gx_then ?_
                  refine gc_seq ?_
                  refine gc_region ?_
                  refine gl_op (op_buildSlice (sz := 1) rfl rfl (fun _ => bs_36_0_) rfl rfl (fun b67 => ?_))
                  refine gl_op (op_rd rfl (rd_fieldAddr rfl (fa_38_2 _)) ?_)
                  refine gl_op (op_rd rfl (rd_load Try.underlying36 rfl rfl (by first | exact ld_blk 1 rfl rfl | exact ld_blk 4 rfl rfl | exact ld_blk 5 rfl rfl | exact ld_blk 7 rfl rfl | exact ld_old (by assumption) (by simp) | exact ld_cells (by assumption) (by simp) rfl)) ?_)
                  refine gl_op (op_appendSl 0 hxsl Try.underlying36 ty_5 rfl (by decide) rfl rfl rfl rfl (u8_one xv) (by omega) (by omega) (fun _ => (by first | rfl | (simp only [List.set_cons_succ, List.set_cons_zero]; exact rfl))) (fun r70 c70 => ?_))
                  rw [Nat.zero_add, List.nil_append]
                  refine gl_op (op_rd rfl (rd_assign rfl) ?_)
                  refine gl_nil ?_
                  refine gx_then ?_
                  refine gc_seq ?_
                  refine gc_seq ?_
                  by_cases hbad : key < 0 ∨ 999 < key ∨ 16 < xv.length
                  · skip
                    refine gc_drawP [0, 4] true 11 rfl ?_
                    refine ga_first 0 #[true, false, false, false, false, false, false, false, false, false, false, false] rfl rfl rfl rfl (by kernel_rfl) rfl ⟨[0, 4], by decide, rfl⟩ (qt_rd (rd_move rfl)) ?_
                    refine ga_first 1 #[true, true, false, false, false, false, false, false, false, false, false, false] rfl rfl rfl rfl (by kernel_rfl) rfl ⟨[0, 4], by decide, rfl⟩ (qt_rd (rd_fieldAddr rfl (fa_38_1 _))) ?_
                    refine ga_first 2 #[true, true, true, false, false, false, false, false, false, false, false, false] rfl rfl rfl rfl (by kernel_rfl) rfl ⟨[0, 4], by decide, rfl⟩ (qt_rd (rd_load Try.underlying3 rfl rfl (by first | exact ld_blk 1 rfl rfl | exact ld_rowN 0 rfl (get_nats (by omega)) | exact ld_slN (by assumption) (get_nats (by omega)) | exact ld_rowN 0 rfl (get_ints (by omega)) | exact ld_slN (by assumption) (get_ints (by omega)) | exact ld_old (by assumption) (by simp) | exact ld_cells (by assumption) (by simp) rfl))) ?_
                    refine ga_first 3 #[true, true, true, true, false, false, false, false, false, false, false, false] rfl rfl rfl rfl (by kernel_rfl) rfl ⟨[0, 4], by decide, rfl⟩ (qt_rd (rd_move rfl)) ?_
                    refine ga_first 5 #[true, true, true, true, false, true, false, false, false, false, false, false] rfl rfl rfl rfl (by kernel_rfl) rfl ⟨[0, 4], by decide, rfl⟩ (qt_rd (rd_move rfl)) ?_
                    refine ga_first 6 #[true, true, true, true, false, true, true, false, false, false, false, false] rfl rfl rfl rfl (by kernel_rfl) rfl ⟨[0, 4], by decide, rfl⟩ (qt_rd (rd_fieldAddr rfl (fa_38_1 _))) ?_
                    refine ga_first 7 #[true, true, true, true, false, true, true, true, false, false, false, false] rfl rfl rfl rfl (by kernel_rfl) rfl ⟨[0, 4], by decide, rfl⟩ (qt_rd (rd_load Try.underlying3 rfl rfl (by first | exact ld_blk 1 rfl rfl | exact ld_rowN 0 rfl (get_nats (by omega)) | exact ld_slN (by assumption) (get_nats (by omega)) | exact ld_rowN 0 rfl (get_ints (by omega)) | exact ld_slN (by assumption) (get_ints (by omega)) | exact ld_old (by assumption) (by simp) | exact ld_cells (by assumption) (by simp) rfl))) ?_
                    refine ga_first 8 #[true, true, true, true, false, true, true, true, true, false, false, false] rfl rfl rfl rfl (by kernel_rfl) rfl ⟨[0, 4], by decide, rfl⟩ (qt_rd (rd_fieldAddr rfl (fa_38_2 _))) ?_
                    refine ga_first 9 #[true, true, true, true, false, true, true, true, true, true, false, false] rfl rfl rfl rfl (by kernel_rfl) rfl ⟨[0, 4], by decide, rfl⟩ (qt_rd (rd_load Try.underlying36 rfl rfl (by first | exact ld_blk 1 rfl rfl | exact ld_old (by assumption) (by simp) | exact ld_cells (by assumption) (by simp) rfl))) ?_
                    refine ga_only 4 #[true, true, true, true, true, true, true, true, true, true, false, false] rfl rfl (by kernel_rfl) rfl (.inr ⟨[0, 4], by decide, rfl⟩) (op_call rfl (vf := []) (vc := []) rfl rfl Try.call17 (fun w1 ho => Put_arg bs _ w1 (ho.blkCells 5 rfl) key (rowA r70) xv.length c70 hbad) ?_)
                    rintro _ _ ⟨rfl, rfl⟩
                    refine ga_only 10 #[true, true, true, true, true, true, true, true, true, true, true, false] rfl rfl (by kernel_rfl) rfl (.inr ⟨[0, 4], by decide, rfl⟩) (op_call rfl (vf := []) (vc := []) rfl rfl Try.call18 (fun w1 ho => rPut_arg br key xa xv.length xc hbad w1) ?_)
                    rintro _ _ ⟨rfl, rfl⟩
                    refine ga_first 11 #[true, true, true, true, true, true, true, true, true, true, true, true] rfl rfl rfl rfl (by kernel_rfl) rfl ⟨[0, 4], by decide, rfl⟩ (qt_rd (rd_neq rfl rfl)) (gk_dec (fun h82 => ?_) (fun h82 => ?_))
                    · skip
                      exact absurd rfl h82
                    · skip
                      refine ga_end (by kernel_rfl) (.inr ⟨[0, 4], by decide, rfl⟩) ?_
                      refine gx_then ?_
                      refine gc_cond_f rfl ?_
                      refine gc_skip ?_
                      refine gx_then ?_
                      refine gc_seq ?_
                      refine gc_seq ?_
                      refine gc_region ?_
                      refine gl_op (op_rd rfl (rd_assign rfl) ?_)
                      refine gl_nil ?_
                      refine gx_then ?_
                      refine gc_block ?_
                      refine gc_loopF (ι := Nat × List Nat) [(1, _), (6, _), (8, _), (10, _), (11, _), (18, _), (19, _)] (_ :: _ :: _ :: _ :: _ :: _ :: _ :: _ :: T) (fun k => k.1 ≤ xv.length ∧ k.2.length = xv.length) (fun k Fr0 => ((20, natV k.1) :: Fr0)) (fun k Fr0 => (.row 5 1 r70 xv.length c70 (k.2.map u8V) :: Fr0)) (fun k => xv.length - k.1) (0, xv) (⟨Nat.zero_le _, rfl⟩) ⟨rfl, rfl, rfl, rfl, rfl, rfl, rfl, rfl, trivial⟩ (sub_tail (A := [_, _, _, _, _, _, _, _, _]) (B := [_, _, _, _, _, _, _, _, _]) (T := T) [0, 1, 2, 3, 4, 5, 6, 7, 8] 9 (by decide) (by decide) rfl rfl) ?_
                      rintro ⟨q, ys⟩ ⟨hq, hys⟩
                      simp only at hq hys ⊢
                      refine gc_seq ?_
                      refine gc_seq ?_
                      refine gc_region ?_
                      refine gl_op (op_rd rfl (rd_move rfl) ?_)
                      refine gl_op (op_rd rfl (rd_move rfl) ?_)
                      refine gl_op (op_rd rfl (rd_lenSlice Try.underlying36 rfl) ?_)
                      refine gl_op (op_rd rfl (rd_lss rfl rfl) (gk_dec (fun h86 => ?_) (fun h86 => ?_)))
                      · skip
                        refine gl_nil ?_
                        refine gx_then ?_
                        refine gc_cond_t rfl ?_
                        refine gc_skip ?_
                        refine gx_then ?_
                        refine gc_seq ?_
                        refine gc_block ?_
                        refine gc_region ?_
                        refine gl_op (op_rd rfl (rd_move rfl) ?_)
                        refine gl_op (op_rd rfl (rd_move rfl) ?_)
                        refine gl_op (op_rd rfl (rd_indexRow1 0 rfl Try.underlying36 ty_5 rfl rfl (by omega) (by omega)) ?_)
                        refine gl_op (op_storeRowE 0 ty_5 rfl rfl rfl rfl (by simp; omega) (setU8 ys q 7) (by first | rfl | (simp only [List.set_cons_succ, List.set_cons_zero]; exact rfl)) ?_)
                        refine gl_nil ?_
                        refine gx_block ?_
                        refine gx_then ?_
                        refine gc_region ?_
                        refine gl_op (op_rd rfl (rd_move rfl) ?_)
                        refine gl_op (op_rd rfl (by first | exact rd_addN (b := 1) rfl rfl (by omega) | exact rd_add rfl rfl (by omega) (by omega)) ?_)
                        refine gl_op (op_rd rfl (rd_assign rfl) ?_)
                        refine gl_nil ?_
                        refine gx_then ?_
                        exact gx_cut ((q + 1, ys.set q 7)) ⟨⟨by simp only; omega, by simp [hys]⟩, by simp only; omega⟩ ⟨rfl, rfl, rfl, rfl, rfl, rfl, rfl, rfl, trivial⟩ (sub_tail (A := [_, _, _, _, _, _, _, _, _]) (B := [_, _, _, _, _, _, _, _, _]) (T := T) [0, 1, 2, 3, 4, 5, 6, 7, 8] 9 (by decide) (by decide) rfl rfl)
                      · skip
                        refine gl_nil ?_
                        refine gx_then ?_
                        refine gc_cond_f rfl ?_
                        refine gc_exit ?_
                        refine gx_then_exit ?_
                        refine gx_then_exit ?_
                        refine gx_block_exit ?_
                        refine gx_then ?_
                        refine gc_seq ?_
                        refine gc_region ?_
                        refine gl_op (op_rd rfl (rd_move rfl) ?_)
                        refine gl_op (op_callMT [_, _, _, _, _, _, _, _, _] T [1, 2, 3] [0, 4, 5, 6, 7, 8] 9 rfl rfl rfl (vf := []) (vc := []) rfl rfl Try.call16 (by decide) (by decide) rfl (fun w how hc => Counts_ok f hst.ok bf rb cb rp cp _ w hc) ?_)
                        rintro _ _ ⟨rfl, rfl⟩
                        refine gl_op (op_rd rfl (rd_move rfl) ?_)
                        refine gl_op (op_rd rfl (rd_extract rfl rfl) ?_)
                        refine gl_op (op_rd rfl (rd_extract rfl rfl) ?_)
                        refine gl_op (op_rd rfl (rd_assign rfl) ?_)
                        refine gl_op (op_rd rfl (rd_assign rfl) ?_)
                        refine gl_nil ?_
                        refine gx_then ?_
                        refine gc_seq ?_
                        refine gc_region ?_
                        refine gl_op (op_rd rfl (rd_move rfl) ?_)
                        refine gl_op (op_rd rfl (rd_move rfl) ?_)
                        refine gl_op (op_rd rfl (by first | exact rd_addN (b := 1) rfl rfl (by omega) | exact rd_add rfl rfl (by omega) (by omega)) ?_)
                        refine gl_op (op_rd rfl (rd_gtr rfl rfl) (gk_dec (fun h100 => ?_) (fun h100 => ?_)))
                        · skip
                          exfalso; omega
                        · skip
                          refine gl_nil ?_
                          refine gx_then ?_
                          refine gc_cond_f rfl ?_
                          refine gc_skip ?_
                          refine gx_block ?_
                          refine gx_block ?_
                          refine gx_then ?_
                          refine gc_region ?_
                          refine gl_op (op_rd rfl (rd_move rfl) ?_)
                          refine gl_op (op_rd rfl (by first | exact rd_addN (b := 1) rfl rfl (by omega) | exact rd_add rfl rfl (by omega) (by omega)) ?_)
                          refine gl_op (op_rd rfl (rd_assign rfl) ?_)
                          refine gl_nil ?_
                          refine gx_then ?_
                          have q1 : f.er ≤ 2 * (j + 1) + 1 := by omega
                          have q2 : f.pr ≤ 100000 * (j + 1) := by rw [Nat.mul_succ]; omega
                          have q3 : f.st ≤ j + 1 + 1 := by omega
                          have q4 : num ≤ j + 1 := by omega
                          have q5 : j + 1 ≤ l.length := by omega
                          have q6 : l.length - (j + 1) < l.length - j := by omega
                          have q7 : f.b.length = 256 * n := by omega
                          exact gx_cut (⟨j + 1, bf, rb, cb, rp, cp, bs, bm, id, num, fb, f, m, nb, T, V, L, rL, cL⟩) ⟨⟨q5, hst, hrf, hleft, q7, q1, q2, q3, q4⟩, q6⟩ ⟨rfl, rfl, rfl, rfl, rfl, trivial⟩ (sub_tail (A := [_, _, _, _, _, _, _]) (B := [_, _, _, _, _, _, _, _, _]) (T := T) [5, 6, 0, 1, 2, 7, 8] 9 (by decide) (by decide) rfl rfl)
                  · skip
                    refine gc_drawP [0, 4] true 11 rfl ?_
                    obtain ⟨k, rfl⟩ : ∃ k : Nat, key = k := ⟨key.toNat, by omega⟩
                    refine ga_first 0 #[true, false, false, false, false, false, false, false, false, false, false, false] rfl rfl rfl rfl (by kernel_rfl) rfl ⟨[0, 4], by decide, rfl⟩ (qt_rd (rd_move rfl)) ?_
                    refine ga_first 1 #[true, true, false, false, false, false, false, false, false, false, false, false] rfl rfl rfl rfl (by kernel_rfl) rfl ⟨[0, 4], by decide, rfl⟩ (qt_rd (rd_fieldAddr rfl (fa_38_1 _))) ?_
                    refine ga_first 2 #[true, true, true, false, false, false, false, false, false, false, false, false] rfl rfl rfl rfl (by kernel_rfl) rfl ⟨[0, 4], by decide, rfl⟩ (qt_rd (rd_load Try.underlying3 rfl rfl (by first | exact ld_blk 1 rfl rfl | exact ld_rowN 0 rfl (get_nats (by omega)) | exact ld_slN (by assumption) (get_nats (by omega)) | exact ld_rowN 0 rfl (get_ints (by omega)) | exact ld_slN (by assumption) (get_ints (by omega)) | exact ld_old (by assumption) (by simp) | exact ld_cells (by assumption) (by simp) rfl))) ?_
                    refine ga_first 3 #[true, true, true, true, false, false, false, false, false, false, false, false] rfl rfl rfl rfl (by kernel_rfl) rfl ⟨[0, 4], by decide, rfl⟩ (qt_rd (rd_move rfl)) ?_
                    refine ga_first 5 #[true, true, true, true, false, true, false, false, false, false, false, false] rfl rfl rfl rfl (by kernel_rfl) rfl ⟨[0, 4], by decide, rfl⟩ (qt_rd (rd_move rfl)) ?_
                    refine ga_first 6 #[true, true, true, true, false, true, true, false, false, false, false, false] rfl rfl rfl rfl (by kernel_rfl) rfl ⟨[0, 4], by decide, rfl⟩ (qt_rd (rd_fieldAddr rfl (fa_38_1 _))) ?_
                    refine ga_first 7 #[true, true, true, true, false, true, true, true, false, false, false, false] rfl rfl rfl rfl (by kernel_rfl) rfl ⟨[0, 4], by decide, rfl⟩ (qt_rd (rd_load Try.underlying3 rfl rfl (by first | exact ld_blk 1 rfl rfl | exact ld_rowN 0 rfl (get_nats (by omega)) | exact ld_slN (by assumption) (get_nats (by omega)) | exact ld_rowN 0 rfl (get_ints (by omega)) | exact ld_slN (by assumption) (get_ints (by omega)) | exact ld_old (by assumption) (by simp) | exact ld_cells (by assumption) (by simp) rfl))) ?_
                    refine ga_first 8 #[true, true, true, true, false, true, true, true, true, false, false, false] rfl rfl rfl rfl (by kernel_rfl) rfl ⟨[0, 4], by decide, rfl⟩ (qt_rd (rd_fieldAddr rfl (fa_38_2 _))) ?_
                    refine ga_first 9 #[true, true, true, true, false, true, true, true, true, true, false, false] rfl rfl rfl rfl (by kernel_rfl) rfl ⟨[0, 4], by decide, rfl⟩ (qt_rd (rd_load Try.underlying36 rfl rfl (by first | exact ld_blk 1 rfl rfl | exact ld_old (by assumption) (by simp) | exact ld_cells (by assumption) (by simp) rfl))) ?_
                    refine ga_only 4 #[true, true, true, true, true, true, true, true, true, true, false, false] rfl rfl (by kernel_rfl) rfl (.inr ⟨[0, 4], by decide, rfl⟩) (op_callMW [_, _, _, _, _, _, _, _, _] T [5, 6, 1, 2, 3] [0, 4, 7, 8] 9 rfl rfl rfl (vf := []) (vc := []) rfl rfl Try.call17 (by decide) (by decide) rfl (fun w how hc => PutG_ok f bs bf rb cb rp cp id bm num fb m nb T V hst _ w hc (by omega) (by omega) (by omega) k (by omega) xv hxv (by omega) (rowA r70) c70 (rowOutW (B := [_, _, _, _, _, _, _, _, _]) (T := T) how 0 [5, 6, 1, 2, 3] 9 rfl (by decide) rfl (by decide))) ?_)
                    rintro _ _ (⟨hfull, rfl, rfl⟩ | ⟨hnf, f2, m2, nb2, fb2, T2, rfl, hPF, hst2, hTT, rfl⟩ | ⟨hnf, f2, m2, nb2, fb2, num2, id2, T2, rfl, hPF, hPT, hTT, rfl⟩)
                    · skip
                      refine gk_mid [_, _, _, _, _] T [_, _, _, _] ?_
                      refine ga_only 10 #[true, true, true, true, true, true, true, true, true, true, true, false] rfl rfl (by kernel_rfl) rfl (.inr ⟨[5, 6], by decide, rfl⟩) (op_callMT [_, _, _, _, _, _, _, _, _] T [7, 8] [0, 1, 2, 3, 4, 5, 6] 9 rfl rfl rfl (vf := []) (vc := []) rfl rfl Try.call18 (by decide) (by decide) rfl (fun w how hc => rPut_full L br (f.b.length / 256) rL cL hLb _ w hc (by omega) (by omega) k xv xa xc (slOutT (B := [_, _, _, _, _, _, _, _, _]) (T := T) how hxsl (by decide) [7, 8]) hxl (rput_full hrf (by omega) (by omega) (by rw [← hsk.2]; exact hfull))) ?_)
                      rintro _ _ ⟨rfl, rfl⟩
                      refine ga_first 11 #[true, true, true, true, true, true, true, true, true, true, true, true] rfl rfl rfl rfl (by kernel_rfl) rfl ⟨[7, 8], by decide, rfl⟩ (qt_rd (rd_neq rfl rfl)) (gk_dec (fun h82 => ?_) (fun h82 => ?_))
                      · skip
                        exact absurd rfl h82
                      · skip
                        refine ga_end (by kernel_rfl) (.inr ⟨[7, 8], by decide, rfl⟩) ?_
                        refine gx_then ?_
                        refine gc_cond_f rfl ?_
                        refine gc_skip ?_
                        refine gx_then ?_
                        refine gc_seq ?_
                        refine gc_seq ?_
                        refine gc_region ?_
                        refine gl_op (op_rd rfl (rd_assign rfl) ?_)
                        refine gl_nil ?_
                        refine gx_then ?_
                        refine gc_block ?_
                        refine gc_loopF (ι := Nat × List Nat) [(1, _), (6, _), (8, _), (10, _), (11, _), (18, _), (19, _)] (_ :: _ :: _ :: _ :: _ :: _ :: _ :: _ :: T) (fun k => k.1 ≤ xv.length ∧ k.2.length = xv.length) (fun k Fr0 => ((20, natV k.1) :: Fr0)) (fun k Fr0 => (.row 5 1 r70 xv.length c70 (k.2.map u8V) :: Fr0)) (fun k => xv.length - k.1) (0, xv) (⟨Nat.zero_le _, rfl⟩) ⟨rfl, rfl, rfl, rfl, rfl, rfl, rfl, rfl, trivial⟩ (sub_tail (A := [_, _, _, _, _, _, _, _, _]) (B := [_, _, _, _, _, _, _, _, _]) (T := T) [7, 0, 1, 2, 3, 4, 5, 6, 8] 9 (by decide) (by decide) rfl rfl) ?_
                        rintro ⟨q, ys⟩ ⟨hq, hys⟩
                        simp only at hq hys ⊢
                        refine gc_seq ?_
                        refine gc_seq ?_
                        refine gc_region ?_
                        refine gl_op (op_rd rfl (rd_move rfl) ?_)
                        refine gl_op (op_rd rfl (rd_move rfl) ?_)
                        refine gl_op (op_rd rfl (rd_lenSlice Try.underlying36 rfl) ?_)
                        refine gl_op (op_rd rfl (rd_lss rfl rfl) (gk_dec (fun h86 => ?_) (fun h86 => ?_)))
                        · skip
                          refine gl_nil ?_
                          refine gx_then ?_
                          refine gc_cond_t rfl ?_
                          refine gc_skip ?_
                          refine gx_then ?_
                          refine gc_seq ?_
                          refine gc_block ?_
                          refine gc_region ?_
                          refine gl_op (op_rd rfl (rd_move rfl) ?_)
                          refine gl_op (op_rd rfl (rd_move rfl) ?_)
                          refine gl_op (op_rd rfl (rd_indexRow1 0 rfl Try.underlying36 ty_5 rfl rfl (by omega) (by omega)) ?_)
                          refine gl_op (op_storeRowE 0 ty_5 rfl rfl rfl rfl (by simp; omega) (setU8 ys q 7) (by first | rfl | (simp only [List.set_cons_succ, List.set_cons_zero]; exact rfl)) ?_)
                          refine gl_nil ?_
                          refine gx_block ?_
                          refine gx_then ?_
                          refine gc_region ?_
                          refine gl_op (op_rd rfl (rd_move rfl) ?_)
                          refine gl_op (op_rd rfl (by first | exact rd_addN (b := 1) rfl rfl (by omega) | exact rd_add rfl rfl (by omega) (by omega)) ?_)
                          refine gl_op (op_rd rfl (rd_assign rfl) ?_)
                          refine gl_nil ?_
                          refine gx_then ?_
                          exact gx_cut ((q + 1, ys.set q 7)) ⟨⟨by simp only; omega, by simp [hys]⟩, by simp only; omega⟩ ⟨rfl, rfl, rfl, rfl, rfl, rfl, rfl, rfl, trivial⟩ (sub_tail (A := [_, _, _, _, _, _, _, _, _]) (B := [_, _, _, _, _, _, _, _, _]) (T := T) [0, 1, 2, 3, 4, 5, 6, 7, 8] 9 (by decide) (by decide) rfl rfl)
                        · skip
                          refine gl_nil ?_
                          refine gx_then ?_
                          refine gc_cond_f rfl ?_
                          refine gc_exit ?_
                          refine gx_then_exit ?_
                          refine gx_then_exit ?_
                          refine gx_block_exit ?_
                          refine gx_then ?_
                          refine gc_seq ?_
                          refine gc_region ?_
                          refine gl_op (op_rd rfl (rd_move rfl) ?_)
                          refine gl_op (op_callMT [_, _, _, _, _, _, _, _, _] T [5, 6, 7] [0, 1, 2, 3, 4, 8] 9 rfl rfl rfl (vf := []) (vc := []) rfl rfl Try.call16 (by decide) (by decide) rfl (fun w how hc => Counts_ok f hst.ok bf rb cb rp cp _ w hc) ?_)
                          rintro _ _ ⟨rfl, rfl⟩
                          refine gl_op (op_rd rfl (rd_move rfl) ?_)
                          refine gl_op (op_rd rfl (rd_extract rfl rfl) ?_)
                          refine gl_op (op_rd rfl (rd_extract rfl rfl) ?_)
                          refine gl_op (op_rd rfl (rd_assign rfl) ?_)
                          refine gl_op (op_rd rfl (rd_assign rfl) ?_)
                          refine gl_nil ?_
                          refine gx_then ?_
                          refine gc_seq ?_
                          refine gc_region ?_
                          refine gl_op (op_rd rfl (rd_move rfl) ?_)
                          refine gl_op (op_rd rfl (rd_move rfl) ?_)
                          refine gl_op (op_rd rfl (by first | exact rd_addN (b := 1) rfl rfl (by omega) | exact rd_add rfl rfl (by omega) (by omega)) ?_)
                          refine gl_op (op_rd rfl (rd_gtr rfl rfl) (gk_dec (fun h100 => ?_) (fun h100 => ?_)))
                          · skip
                            exfalso; omega
                          · skip
                            refine gl_nil ?_
                            refine gx_then ?_
                            refine gc_cond_f rfl ?_
                            refine gc_skip ?_
                            refine gx_block ?_
                            refine gx_block ?_
                            refine gx_then ?_
                            refine gc_region ?_
                            refine gl_op (op_rd rfl (rd_move rfl) ?_)
                            refine gl_op (op_rd rfl (by first | exact rd_addN (b := 1) rfl rfl (by omega) | exact rd_add rfl rfl (by omega) (by omega)) ?_)
                            refine gl_op (op_rd rfl (rd_assign rfl) ?_)
                            refine gl_nil ?_
                            refine gx_then ?_
                            have q1 : f.er ≤ 2 * (j + 1) + 1 := by omega
                            have q2 : f.pr ≤ 100000 * (j + 1) := by rw [Nat.mul_succ]; omega
                            have q3 : f.st ≤ j + 1 + 1 := by omega
                            have q4 : num ≤ j + 1 := by omega
                            have q5 : j + 1 ≤ l.length := by omega
                            have q6 : l.length - (j + 1) < l.length - j := by omega
                            have q7 : f.b.length = 256 * n := by omega
                            exact gx_cut (⟨j + 1, bf, rb, cb, rp, cp, bs, bm, id, num, fb, f, m, nb, T, V, L, rL, cL⟩) ⟨⟨q5, hst, hrf, hleft, q7, q1, q2, q3, q4⟩, q6⟩ ⟨rfl, rfl, rfl, rfl, rfl, trivial⟩ (sub_tail (A := [_, _, _, _, _, _, _]) (B := [_, _, _, _, _, _, _, _, _]) (T := T) [6, 7, 0, 1, 2, 4, 5] 9 (by decide) (by decide) rfl rfl)
                    · skip
                      refine gk_mid [_, _, _, _, _] T2 [_, _, _, _] ?_
                      have hF1 := hPF.er
                      have hF2 := hPF.pr
                      have hF3 := hPF.st
                      have hF4 := hPF.len
                      rw [show f.b.length / 256 = f2.b.length / 256 by rw [hF4]]
                      refine ga_only 10 #[true, true, true, true, true, true, true, true, true, true, true, false] rfl rfl (by kernel_rfl) rfl (.inr ⟨[5, 6], by decide, rfl⟩) (op_callMT [_, _, _, _, _, _, _, _, _] T2 [7, 8] [0, 1, 2, 3, 4, 5, 6] 9 rfl rfl rfl (vf := []) (vc := []) rfl rfl Try.call18 (by decide) (by decide) rfl (fun w how hc => rPut_go L br (f2.b.length / 256) rL cL hLb _ w hc (by omega) (by omega) k xv xa xc (slOutT (B := [_, _, _, _, _, _, _, _, _]) (T := T2) how hxsl (by decide) [7, 8]) hxl (rput_go hrf (by omega) (by omega) (by rw [hF4, ← hsk.2]; exact hnf))) ?_)
                      rintro _ _ ⟨rw, cw, rL2, cL2, L2, rfl, hins, rfl⟩
                      refine ga_first 11 #[true, true, true, true, true, true, true, true, true, true, true, true] rfl rfl rfl rfl (by kernel_rfl) rfl ⟨[8, 9], by decide, rfl⟩ (qt_rd (rd_neq rfl rfl)) (gk_dec (fun h82 => ?_) (fun h82 => ?_))
                      · skip
                        exact absurd rfl h82
                      · skip
                        refine ga_end (by kernel_rfl) (.inr ⟨[8, 9], by decide, rfl⟩) ?_
                        refine gx_then ?_
                        refine gc_cond_f rfl ?_
                        refine gc_skip ?_
                        refine gx_then ?_
                        refine gc_seq ?_
                        refine gc_seq ?_
                        refine gc_region ?_
                        refine gl_op (op_rd rfl (rd_assign rfl) ?_)
                        refine gl_nil ?_
                        refine gx_then ?_
                        refine gc_block ?_
                        refine gc_loopF (ι := Nat × List Nat) [(1, _), (6, _), (8, _), (10, _), (11, _), (18, _), (19, _)] (_ :: _ :: _ :: _ :: _ :: _ :: _ :: _ :: _ :: T2) (fun k => k.1 ≤ xv.length ∧ k.2.length = xv.length) (fun k Fr0 => ((20, natV k.1) :: Fr0)) (fun k Fr0 => (.row 5 1 r70 xv.length c70 (k.2.map u8V) :: Fr0)) (fun k => xv.length - k.1) (0, xv) (⟨Nat.zero_le _, rfl⟩) ⟨rfl, rfl, rfl, rfl, rfl, rfl, rfl, rfl, trivial⟩ (sub_tail (A := [_, _, _, _, _, _, _, _, _, _]) (B := [_, _, _, _, _, _, _, _, _, _]) (T := T2) [8, 0, 1, 2, 3, 4, 5, 6, 7, 9] 10 (by decide) (by decide) rfl rfl) ?_
                        rintro ⟨q, ys⟩ ⟨hq, hys⟩
                        simp only at hq hys ⊢
                        refine gc_seq ?_
                        refine gc_seq ?_
                        refine gc_region ?_
                        refine gl_op (op_rd rfl (rd_move rfl) ?_)
                        refine gl_op (op_rd rfl (rd_move rfl) ?_)
                        refine gl_op (op_rd rfl (rd_lenSlice Try.underlying36 rfl) ?_)
                        refine gl_op (op_rd rfl (rd_lss rfl rfl) (gk_dec (fun h86 => ?_) (fun h86 => ?_)))
                        · skip
                          refine gl_nil ?_
                          refine gx_then ?_
                          refine gc_cond_t rfl ?_
                          refine gc_skip ?_
                          refine gx_then ?_
                          refine gc_seq ?_
                          refine gc_block ?_
                          refine gc_region ?_
                          refine gl_op (op_rd rfl (rd_move rfl) ?_)
                          refine gl_op (op_rd rfl (rd_move rfl) ?_)
                          refine gl_op (op_rd rfl (rd_indexRow1 0 rfl Try.underlying36 ty_5 rfl rfl (by omega) (by omega)) ?_)
                          refine gl_op (op_storeRowE 0 ty_5 rfl rfl rfl rfl (by simp; omega) (setU8 ys q 7) (by first | rfl | (simp only [List.set_cons_succ, List.set_cons_zero]; exact rfl)) ?_)
                          refine gl_nil ?_
                          refine gx_block ?_
                          refine gx_then ?_
                          refine gc_region ?_
                          refine gl_op (op_rd rfl (rd_move rfl) ?_)
                          refine gl_op (op_rd rfl (by first | exact rd_addN (b := 1) rfl rfl (by omega) | exact rd_add rfl rfl (by omega) (by omega)) ?_)
                          refine gl_op (op_rd rfl (rd_assign rfl) ?_)
                          refine gl_nil ?_
                          refine gx_then ?_
                          exact gx_cut ((q + 1, ys.set q 7)) ⟨⟨by simp only; omega, by simp [hys]⟩, by simp only; omega⟩ ⟨rfl, rfl, rfl, rfl, rfl, rfl, rfl, rfl, trivial⟩ (sub_tail (A := [_, _, _, _, _, _, _, _, _, _]) (B := [_, _, _, _, _, _, _, _, _, _]) (T := T2) [0, 1, 2, 3, 4, 5, 6, 7, 8, 9] 10 (by decide) (by decide) rfl rfl)
                        · skip
                          refine gl_nil ?_
                          refine gx_then ?_
                          refine gc_cond_f rfl ?_
                          refine gc_exit ?_
                          refine gx_then_exit ?_
                          refine gx_then_exit ?_
                          refine gx_block_exit ?_
                          refine gx_then ?_
                          refine gc_seq ?_
                          refine gc_region ?_
                          refine gl_op (op_rd rfl (rd_move rfl) ?_)
                          refine gl_op (op_callMT [_, _, _, _, _, _, _, _, _, _] T2 [6, 7, 8] [0, 1, 2, 3, 4, 5, 9] 10 rfl rfl rfl (vf := []) (vc := []) rfl rfl Try.call16 (by decide) (by decide) rfl (fun w how hc => Counts_ok f2 hst2.ok bf rb cb rp cp _ w hc) ?_)
                          rintro _ _ ⟨rfl, rfl⟩
                          refine gl_op (op_rd rfl (rd_move rfl) ?_)
                          refine gl_op (op_rd rfl (rd_extract rfl rfl) ?_)
                          refine gl_op (op_rd rfl (rd_extract rfl rfl) ?_)
                          refine gl_op (op_rd rfl (rd_assign rfl) ?_)
                          refine gl_op (op_rd rfl (rd_assign rfl) ?_)
                          refine gl_nil ?_
                          refine gx_then ?_
                          refine gc_seq ?_
                          refine gc_region ?_
                          refine gl_op (op_rd rfl (rd_move rfl) ?_)
                          refine gl_op (op_rd rfl (rd_move rfl) ?_)
                          refine gl_op (op_rd rfl (by first | exact rd_addN (b := 1) rfl rfl (by omega) | exact rd_add rfl rfl (by omega) (by omega)) ?_)
                          refine gl_op (op_rd rfl (rd_gtr rfl rfl) (gk_dec (fun h100 => ?_) (fun h100 => ?_)))
                          · skip
                            exfalso; omega
                          · skip
                            refine gl_nil ?_
                            refine gx_then ?_
                            refine gc_cond_f rfl ?_
                            refine gc_skip ?_
                            refine gx_block ?_
                            refine gx_block ?_
                            refine gx_then ?_
                            refine gc_region ?_
                            refine gl_op (op_rd rfl (rd_move rfl) ?_)
                            refine gl_op (op_rd rfl (by first | exact rd_addN (b := 1) rfl rfl (by omega) | exact rd_add rfl rfl (by omega) (by omega)) ?_)
                            refine gl_op (op_rd rfl (rd_assign rfl) ?_)
                            refine gl_nil ?_
                            refine gx_then ?_
                            have q1 : f2.er ≤ 2 * (j + 1) + 1 := by omega
                            have q2 : f2.pr ≤ 100000 * (j + 1) := by rw [Nat.mul_succ]; omega
                            have q3 : f2.st ≤ j + 1 + 1 := by omega
                            have q4 : (num + 1) ≤ j + 1 := by omega
                            have q5 : j + 1 ≤ l.length := by omega
                            have q6 : l.length - (j + 1) < l.length - j := by omega
                            have q7 : f2.b.length = 256 * n := by omega
                            exact gx_cut (⟨j + 1, bf, rb, cb, rp, cp, bs, bm, id, num + 1, fb2, f2, m2, nb2, (HL.row 5 1 rw xv.length cw (xv.map u8V) :: T2), (updV V k (num + 1) xv), L2, rL2, cL2⟩) ⟨⟨q5, hst2.mono (fun y hy => List.mem_cons_of_mem _ hy), rs_put (x := ⟨k, xv, rw, cw⟩) hrf hins rfl (by omega) (by simp only; omega) hxv (fun y hy => List.mem_cons_of_mem _ (hTT y hy)) List.mem_cons_self, hPF.no hleft, q7, q1, q2, q3, q4⟩, q6⟩ ⟨rfl, rfl, rfl, rfl, rfl, trivial⟩ (sub_tail (A := [_, _, _, _, _, _, _, _]) (B := [_, _, _, _, _, _, _, _, _, _]) (T := T2) [7, 8, 0, 1, 2, 4, 5, 6] 10 (by decide) (by decide) rfl rfl)
                    · skip
                      exact absurd hleft hPT.no
          · skip
            refine gl_nil ?_
            refine gx_then ?_
            refine gc_cond_f rfl ?_
            refine gc_exit ?_
            refine gx_then_exit ?_
            refine gx_then_exit ?_
            refine gx_block_exit ?_
            refine gx_then ?_
            refine gc_seq ?_
            refine gc_region ?_
            refine gl_op (op_rd rfl (rd_move rfl) ?_)
            refine gl_op (op_rd rfl (rd_move rfl) ?_)
            refine gl_op (op_callMW [_, _, _, _, _, _, _] T [0, 1, 2, 3, 4, 5, 6] [] 7 rfl rfl rfl (vf := []) (vc := []) rfl rfl Try.call14 (by decide) (by decide) rfl (fun w how hc => all_ok f bs bf rb cb rp cp id bm num fb m nb T V hst L br rL cL hrf _ w hc) ?_)
            rintro _ _ ⟨rfl, rfl⟩
            refine gk_mid [_, _, _, _, _, _, _] T [] ?_
            refine gl_op (op_rd rfl (rd_move rfl) ?_)
            refine gl_yes rfl rfl (op_call rfl (vf := []) (vc := []) rfl rfl Try.call9 (fun w1 ho => shown_ok w1) ?_)
            rintro _ _ ⟨rfl, rfl⟩
            refine gl_op (op_rd rfl (rd_pick_t rfl rfl) ?_)
            refine gl_op (op_rd rfl (rd_assign rfl) ?_)
            refine gl_nil ?_
            refine gx_then ?_
            refine gc_ret ?_
            refine gx_ret1S (.inl rfl) Try.results3 rfl (sub_drop (A := []) (B := [_, _, _, _, _, _, _]) (T := T) [] 7 (by decide) (by decide) rfl rfl) ?_
            exact ⟨rfl, rfl⟩
    · skip
      exact absurd hfr.left hT.no

theorem StorePlays_okI (b : Int) (hb : 0 ≤ b ∧ b < 256) (l : List Sact) (a : Option Addr) (ca : Nat) (w0 : World) (hsl : OldSl w0 [] a l.length 3 (l.flatMap Sact.cells)) (hlen : l.length ≤ 140737488355328) (hin : ∀ g ∈ l, g.In w0 []) : Sp Try.prog 3 [.int .u8 b, .slice a l.length ca] w0 [] (RV (.bool true)) := by
  have h := StorePlays_ok b.toNat (by omega) l a ca w0 hsl hlen hin
  rwa [Int.toNat_of_nonneg hb.1] at h

end Go.Proofs.Ythcbcdjkfefnlaa

set_option autoImplicit false
set_option linter.unusedVariables false
namespace Go.Proofs.Ythcbcdjkfefnlaa
open Go.Gv
open Go.RowKit Go.ChangeShapes Go.WideShapes
open Iv
set_option maxHeartbeats 1000000 in
set_option maxRecDepth 100000 in
theorem storePlays_lifted (os : Os) (started : os.Started) (H : Type) (enc : TypeId × Value → H) :
    ReturnsInHanded {} Try.checked os 3 .any (Rows.storePlaysSpec.pre6 enc Try.prog Try.f3 Rows.storePlaysRow.domain false) (Rows.storePlaysSpec.post enc Try.prog Try.f3 false true false false) := by
  refine returnsInHanded_of_change_sized (C := Try.checked) tryOwn started (by kernel_rfl) Try.func3
    (ChangeSpec.witness6 (enc := enc) (C := Try.checked) false ⟨#[], #[.int .u8 0, .slice none 0 0], []⟩ 8 (by kernel_rfl) (by kernel_rfl) (by kernel_rfl) (by kernel_rfl)) ?_
  intro W base args ds gs before hval0 hW _ hwt _
  have hval : ∀ (j : Nat) t v, Try.f3.params[j]? = some t → args[j]? = some v → Value.okWide Try.prog W .any base t v := hval0
  have hW' := hW
  obtain ⟨p, q, hA0, hV, rfl, hfz, hnd⟩ := hW
  have hA : DataW.TrodAll enc Try.prog W 0 (fun _ => true) true Try.f3.params.toList args.toList ds p := hA0
  rw [Try.params3] at hA hval
  obtain ⟨v0, vs0, d0, ds0, p0, q0, hargs, rfl, rfl, h0, r0⟩ := trodAll_cons hA
  obtain ⟨v1, vs1, d1, ds1, p1, q1, rfl, rfl, rfl, h1, r1⟩ := trodAll_cons r0
  obtain ⟨rfl, rfl, rfl⟩ := trodAll_nil r1
  obtain rfl : args = #[v0, v1] := Array.toList_inj.1 hargs
  obtain ⟨rfl, rfl⟩ := trodVars_none hV
  obtain ⟨a0, rfl, rfl, rfl, w0⟩ := open_int Try.underlying5 (hval 0 5 v0 rfl rfl) h0
  have b0 := bounds_u8 w0
  obtain ⟨sa1, sn1, sc1, rfl⟩ := okWide_slice Try.underlying22 (hval 1 22 v1 rfl rfl)
  obtain ⟨fuel1, hf1⟩ := h1
  obtain ⟨pa1, zs1, cp1, hz1, hsl1, hlen1, hin1⟩ := openSacts hf1 (fun b hb => by
    have := List.all_eq_true.1 hwt b (DataW.weights_mem_each (j := 1) (t := 22) rfl rfl b hb)
    simpa using this)
  have e1 : Value.slice sa1 sn1 sc1 = .slice pa1 zs1.length cp1 := by
    simpa [Value.cells] using hz1
  have hcall := StorePlays_okI a0 ⟨by omega, by omega⟩ zs1 pa1 cp1 W hsl1 hlen1 hin1
  rw [e1]
  rw [e1] at hW'
  unfold Sp at hcall
  refine Calls.mono hcall fun e W' ⟨v, l, he, hR, ho⟩ => ⟨v, he, ?_⟩
  obtain ⟨rfl, rfl⟩ := hR
  exact law_post hW' rfl ho.below rfl rfl rfl rfl (by rw [Try.params3]; intro t ht; simp at ht; rcases ht with rfl | rfl <;> exact ⟨by kernel_rfl, of_decide_eq_true (by kernel_rfl)⟩)
theorem storePlays_over : Rows.storePlaysRow.holds Try.pinned (OpenSpec.ofChange Rows.storePlaysSpec) :=
  OpenClaim.holds_of_wide 3 Try.f3 rfl rfl rfl rfl rfl rfl rfl ⟨rfl, rfl, rfl, rfl, rfl⟩ rfl rfl rfl rfl rfl (by kernel_rfl) Try.func3 (by kernel_rfl)
    (of_decide_eq_true (by kernel_rfl)) (by unfold Func.isWrapper; first | (rw [if_pos (by decide +kernel)]; kernel_rfl) | (rw [if_neg (by decide +kernel)]; exact ⟨rfl, rfl⟩))
    (fun os started H enc _ => storePlays_lifted os started H enc)
theorem storePlays_proved : Rows.StorePlaysSaid := storePlays_over
end Go.Proofs.Ythcbcdjkfefnlaa
