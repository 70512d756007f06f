import Derived.Test.YteocjpnckciboaaRf
/- The walks of the reference: back, race, settle; Accept, twice. -/
set_option linter.unusedSimpArgs false
set_option linter.unusedVariables false
set_option linter.unnecessarySimpa false
set_option autoImplicit false
set_option linter.unusedVariables false
namespace Go.Proofs.Yteocjpnckciboaa
open Go.Gv
open Go.RowKit
open Ry
set_option maxRecDepth 100000 in
set_option maxHeartbeats 1000000 in
theorem rback_ok (c : Circ) (inn s : Nat) (ms : List Nd) (w0 : World) (hc : c.In w0 []) (hgd : c.Good) (hin : inn < 2 ^ c.inputs.toNat) (hs : s < 2 ^ c.gates.length) (hre : reachP c inn [s] = some ms) (hwf : Wf ms) (hst : ∀ y ∈ ms, y.state < 2 ^ c.gates.length) (hlen : ms.length ≤ 1000) : Sp Try.prog 82 [c.val, natV s, natV inn] w0 [] (fun v l => ∃ r cp, v = .tuple #[.slice (rowA r) (backP c inn s).length cp, .bool (decide (backP c inn s ≠ []))] ∧ l = [.row 3 1 r (backP c inn s).length cp ((backP c inn s).map natV)]) := by
  have hg12 := hgd.g12
  have hpow : 2 ^ c.gates.length ≤ 2 ^ 12 := Nat.pow_le_pow_right (by decide) hg12
  have hN : 1 <<< c.gates.length ≤ 4096 := by rw [one_shl]; omega
  have hbk : backP c inn s = backAt c inn s ms 0 ms := by unfold backP; rw [hre]
  refine spec_enter Try.func82 rfl Try.ntmps82 rfl (Own.refl _) ?_
  simp only [argEnv]
  refine gc_seq ?_
  refine gc_region ?_
  refine gl_op (op_box rfl rfl rfl (fun b3 => ?_))
  refine gl_op (op_rd rfl (rd_assign rfl) ?_)
  refine gl_op (op_rd rfl (rd_assign rfl) ?_)
  refine gl_nil ?_
  refine gx_then ?_
  refine gc_seq ?_
  refine gc_region ?_
  refine gl_op (op_rd rfl (rd_loadAgg Try.underlying25 rfl ty_25 rfl (by first | exact cs_blk 0 (off := 0) (k := 3) rfl rfl | exact cs_old (by assumption) (by simp)) rfl) ?_)
  refine gl_op (op_rd rfl (rd_move rfl) ?_)
  refine gl_op (op_buildSlice (sz := 1) rfl rfl (fun _ => bs_23_1_0 _) rfl rfl (fun b14 => ?_))
  refine gl_op (op_rd rfl (rd_move rfl) ?_)
  refine gl_op (op_call rfl (vf := []) (vc := []) rfl rfl Try.call67 (fun w ho => rreachS_ok c [s] (some ⟨b14, 0, none⟩) 1 inn ms w (hc.at ho) hgd hin (ho.rowSl 0 (r := some b14) rfl) (by simpa using hs) (by simp) hre) ?_)
  rintro _ _ ⟨rs, cs, rf, cf, rg, cg, bp, rfl, rfl⟩
  refine gl_op (op_alloc ty_91 rfl rfl (fun b8 => ?_))
  first | refine gl_op (op_storeAgg 0 ty_91 rfl rfl rfl rfl rfl rfl (by first | rfl | (simp only [List.set_cons_succ, List.set_cons_zero]; exact rfl)) ?_) | refine gl_op (op_storeAgg 6 ty_91 rfl rfl rfl rfl rfl rfl (by first | rfl | (simp only [List.set_cons_succ, List.set_cons_zero]; exact rfl)) ?_)
  refine gl_nil ?_
  refine gx_then ?_
  refine gc_seq ?_
  refine gc_seq ?_
  refine gc_region ?_
  refine gl_op (op_rd rfl (rd_assign rfl) ?_)
  refine gl_nil ?_
  refine gx_then ?_
  refine gc_block ?_
  refine gc_loopF (ι := Nat) [(1, _), (2, _), (3, _), (8, _)] [_, _, _, _, _, _, _] (fun j => j ≤ ms.length ∧ backAt c inn s ms j (ms.drop j) = backP c inn s) (fun j Fr0 => ((9, natV j) :: Fr0)) (fun j Fr0 => Fr0) (fun j => ms.length - j) 0 (⟨Nat.zero_le _, by rw [hbk]; rfl⟩) ⟨rfl, rfl, rfl, rfl, rfl, trivial⟩ ⟨[0, 1, 2, 3, 4, 5, 6], by decide, rfl⟩ ?_
  rintro i ⟨hi, hb⟩
  refine gc_seq ?_
  refine gc_seq ?_
  refine gc_region ?_
  refine gl_op (op_rd rfl (rd_move rfl) ?_)
  refine gl_op (op_rd rfl (rd_fieldAddr rfl (fa_91_0 _)) ?_)
  refine gl_op (op_rd rfl (rd_load Try.underlying23 rfl rfl (by first | exact ld_blk 0 rfl rfl | exact ld_blk 6 rfl rfl | exact ld_old (by assumption) (by simp) | exact ld_cells (by assumption) (by simp) rfl)) ?_)
  refine gl_op (op_rd rfl (rd_lenSlice Try.underlying23 rfl) ?_)
  refine gl_op (op_rd rfl (rd_lss rfl rfl) (gk_dec (fun hlt => ?_) (fun hlt => ?_)))
  · skip
    obtain ⟨x, hx⟩ : ∃ y, ms[i]? = some y := ⟨ms[i]'(by omega), List.getElem?_eq_getElem (by omega)⟩
    have hxs : x.state < 2 ^ c.gates.length := hst x (List.mem_of_getElem? hx)
    have hxs2 := st_lt hgd hxs
    refine gl_nil ?_
    refine gx_then ?_
    refine gc_cond_t rfl ?_
    refine gc_skip ?_
    refine gx_then ?_
    refine gc_seq ?_
    refine gc_block ?_
    refine gc_seq ?_
    refine gc_drawP [0, 1, 2, 3, 4, 5, 6] true 8 rfl ?_
    refine ga_first 0 #[true, false, false, false, false, false, false, false, false] rfl rfl rfl rfl (by kernel_rfl) rfl ⟨[0, 1, 2, 3, 4, 5, 6], by decide, rfl⟩ (qt_rd (rd_loadAgg Try.underlying25 rfl ty_25 rfl (by first | exact cs_blk 0 (off := 0) (k := 3) rfl rfl | exact cs_blk 6 (off := 0) (k := 3) rfl rfl | exact cs_old (by assumption) (by simp)) rfl)) ?_
    refine ga_first 1 #[true, true, false, false, false, false, false, false, false] rfl rfl rfl rfl (by kernel_rfl) rfl ⟨[0, 1, 2, 3, 4, 5, 6], by decide, rfl⟩ (qt_rd (rd_fieldAddr rfl (fa_91_0 _))) ?_
    refine ga_first 2 #[true, true, true, false, false, false, false, false, false] rfl rfl rfl rfl (by kernel_rfl) rfl ⟨[0, 1, 2, 3, 4, 5, 6], by decide, rfl⟩ (qt_rd (rd_load Try.underlying23 rfl rfl (by first | exact ld_blk 0 rfl rfl | exact ld_blk 6 rfl rfl | exact ld_old (by assumption) (by simp) | exact ld_cells (by assumption) (by simp) rfl))) ?_
    refine ga_first 3 #[true, true, true, true, false, false, false, false, false] rfl rfl rfl rfl (by kernel_rfl) rfl ⟨[0, 1, 2, 3, 4, 5, 6], by decide, rfl⟩ (qt_rd (rd_move rfl)) ?_
    refine ga_first 4 #[true, true, true, true, true, false, false, false, false] rfl rfl rfl rfl (by kernel_rfl) rfl ⟨[0, 1, 2, 3, 4, 5, 6], by decide, rfl⟩ (qt_rd (by first | exact rd_indexRow1 1 rfl Try.underlying23 ty_3 rfl rfl (by omega) (by omega) | exact rd_indexRow1 2 rfl Try.underlying23 ty_3 rfl rfl (by omega) (by omega) | exact rd_indexRow1 3 rfl Try.underlying23 ty_3 rfl rfl (by omega) (by omega) | exact rd_indexRow1 4 rfl Try.underlying23 ty_3 rfl rfl (by omega) (by omega) | exact rd_indexRow1 5 rfl Try.underlying23 ty_3 rfl rfl (by omega) (by omega) | exact rd_indexOld1 (by assumption) Try.underlying23 ty_3 rfl rfl (by omega) (by omega) | exact rd_index1 Try.underlying23 ty_3 rfl rfl (by omega) (by omega))) ?_
    refine ga_first 5 #[true, true, true, true, true, true, false, false, false] rfl rfl rfl rfl (by kernel_rfl) rfl ⟨[0, 1, 2, 3, 4, 5, 6], by decide, rfl⟩ (qt_rd (rd_load Try.underlying3 rfl rfl (by first | exact ld_rowN 0 rfl (get_sV hx) | exact ld_rowN 1 rfl (get_sV hx) | exact ld_rowN 2 rfl (get_sV hx) | exact ld_rowN 3 rfl (get_sV hx) | exact ld_rowN 4 rfl (get_sV hx) | exact ld_rowN 5 rfl (get_sV hx) | exact ld_rowN 6 rfl (get_sV hx) | exact ld_rowN 7 rfl (get_sV hx)))) ?_
    refine ga_first 6 #[true, true, true, true, true, true, true, false, false] rfl rfl rfl rfl (by kernel_rfl) rfl ⟨[0, 1, 2, 3, 4, 5, 6], by decide, rfl⟩ (qt_rd (rd_move rfl)) ?_
    refine ga_only 7 #[true, true, true, true, true, true, true, true, false] rfl rfl (by kernel_rfl) rfl (.inr ⟨[0, 1, 2, 3, 4, 5, 6], by decide, rfl⟩) (op_call rfl (vf := []) (vc := []) rfl rfl Try.call49 (fun w ho => rnext_ok c x.state inn w (hc.at ho) hgd hxs hin) ?_)
    rintro _ _ ⟨rk, ck, rfl, rfl⟩
    have hkl := nextL_len c x.state inn
    obtain ⟨ks, hks⟩ : ∃ ks, nextL c x.state inn = ks := ⟨_, rfl⟩
    rw [hks] at hkl ⊢
    refine ga_first 8 #[true, true, true, true, true, true, true, true, true] rfl rfl rfl rfl (by kernel_rfl) rfl ⟨[1, 2, 3, 4, 5, 6, 7], by decide, rfl⟩ (qt_rd (rd_assign rfl)) ?_
    refine ga_end (by kernel_rfl) (.inr ⟨[1, 2, 3, 4, 5, 6, 7], by decide, rfl⟩) ?_
    refine gx_then ?_
    refine gc_seq ?_
    refine gc_region ?_
    refine gl_op (op_rd rfl (rd_assign rfl) ?_)
    refine gl_nil ?_
    refine gx_then ?_
    refine gc_block ?_
    refine gc_loopF (ι := Nat) [(1, _), (2, _), (3, _), (8, _), (9, _), (10, _)] [_, _, _, _, _, _, _, _] (fun j => j ≤ ks.length ∧ ∀ q, q < j → (flip x.state (ks.getD q 0) == s) = false) (fun j Fr0 => ((11, natV j) :: Fr0)) (fun j Fr0 => Fr0) (fun j => ks.length - j) 0 (⟨Nat.zero_le _, fun q h => absurd h (Nat.not_lt_zero q)⟩) ⟨rfl, rfl, rfl, rfl, rfl, rfl, rfl, trivial⟩ ⟨[0, 1, 2, 3, 4, 5, 6, 7], by decide, rfl⟩ ?_
    rintro jk ⟨hjk0, hno⟩
    refine gc_seq ?_
    refine gc_seq ?_
    refine gc_region ?_
    refine gl_op (op_rd rfl (rd_move rfl) ?_)
    refine gl_op (op_rd rfl (rd_move rfl) ?_)
    refine gl_op (op_rd rfl (rd_lenSlice Try.underlying23 rfl) ?_)
    refine gl_op (op_rd rfl (rd_lss rfl rfl) (gk_dec (fun hlt2 => ?_) (fun hlt2 => ?_)))
    · skip
      have hjl : jk < ks.length := by omega
      have hkm : ks.getD jk 0 ∈ nextL c x.state inn := by rw [hks]; exact mem_getD (d := 0) hjl
      have hkk := nextL_lt hkm
      have hwl := wayP_len hwf i
      refine gl_nil ?_
      refine gx_then ?_
      refine gc_cond_t rfl ?_
      refine gc_skip ?_
      refine gx_then ?_
      refine gc_seq ?_
      refine gc_block ?_
      refine gc_seq ?_
      refine gc_drawP [0, 1, 2, 3, 4, 5, 6, 7] true 11 rfl ?_
      refine ga_first 0 #[true, false, false, false, false, false, false, false, false, false, false, false] rfl rfl rfl rfl (by kernel_rfl) rfl ⟨[0, 1, 2, 3, 4, 5, 6, 7], by decide, rfl⟩ (qt_rd (rd_fieldAddr rfl (fa_91_0 _))) ?_
      refine ga_first 1 #[true, true, false, false, false, false, false, false, false, false, false, false] rfl rfl rfl rfl (by kernel_rfl) rfl ⟨[0, 1, 2, 3, 4, 5, 6, 7], by decide, rfl⟩ (qt_rd (rd_load Try.underlying23 rfl rfl (by first | exact ld_blk 1 rfl rfl | exact ld_blk 7 rfl rfl | exact ld_old (by assumption) (by simp) | exact ld_cells (by assumption) (by simp) rfl))) ?_
      refine ga_first 2 #[true, true, true, false, false, false, false, false, false, false, false, false] rfl rfl rfl rfl (by kernel_rfl) rfl ⟨[0, 1, 2, 3, 4, 5, 6, 7], by decide, rfl⟩ (qt_rd (rd_move rfl)) ?_
      refine ga_first 3 #[true, true, true, true, false, false, false, false, false, false, false, false] rfl rfl rfl rfl (by kernel_rfl) rfl ⟨[0, 1, 2, 3, 4, 5, 6, 7], by decide, rfl⟩ (qt_rd (by first | exact rd_indexRow1 0 rfl Try.underlying23 ty_3 rfl rfl (by omega) (by omega) | exact rd_indexRow1 2 rfl Try.underlying23 ty_3 rfl rfl (by omega) (by omega) | exact rd_indexRow1 3 rfl Try.underlying23 ty_3 rfl rfl (by omega) (by omega) | exact rd_indexRow1 4 rfl Try.underlying23 ty_3 rfl rfl (by omega) (by omega) | exact rd_indexRow1 5 rfl Try.underlying23 ty_3 rfl rfl (by omega) (by omega) | exact rd_indexRow1 6 rfl Try.underlying23 ty_3 rfl rfl (by omega) (by omega) | exact rd_indexOld1 (by assumption) Try.underlying23 ty_3 rfl rfl (by omega) (by omega) | exact rd_index1 Try.underlying23 ty_3 rfl rfl (by omega) (by omega))) ?_
      refine ga_first 4 #[true, true, true, true, true, false, false, false, false, false, false, false] rfl rfl rfl rfl (by kernel_rfl) rfl ⟨[0, 1, 2, 3, 4, 5, 6, 7], by decide, rfl⟩ (qt_rd (rd_load Try.underlying3 rfl rfl (by first | exact ld_rowN 0 rfl (get_sV hx) | exact ld_rowN 1 rfl (get_sV hx) | exact ld_rowN 2 rfl (get_sV hx) | exact ld_rowN 3 rfl (get_sV hx) | exact ld_rowN 4 rfl (get_sV hx) | exact ld_rowN 5 rfl (get_sV hx) | exact ld_rowN 6 rfl (get_sV hx) | exact ld_rowN 7 rfl (get_sV hx)))) ?_
      refine ga_first 5 #[true, true, true, true, true, true, false, false, false, false, false, false] rfl rfl rfl rfl (by kernel_rfl) rfl ⟨[0, 1, 2, 3, 4, 5, 6, 7], by decide, rfl⟩ (qt_rd (rd_move rfl)) ?_
      refine ga_first 6 #[true, true, true, true, true, true, true, false, false, false, false, false] rfl rfl rfl rfl (by kernel_rfl) rfl ⟨[0, 1, 2, 3, 4, 5, 6, 7], by decide, rfl⟩ (qt_rd (rd_move rfl)) ?_
      refine ga_first 7 #[true, true, true, true, true, true, true, true, false, false, false, false] rfl rfl rfl rfl (by kernel_rfl) rfl ⟨[0, 1, 2, 3, 4, 5, 6, 7], by decide, rfl⟩ (qt_rd (by first | exact rd_indexRow1 0 rfl Try.underlying23 ty_3 rfl rfl (by omega) (by omega) | exact rd_indexRow1 2 rfl Try.underlying23 ty_3 rfl rfl (by omega) (by omega) | exact rd_indexRow1 3 rfl Try.underlying23 ty_3 rfl rfl (by omega) (by omega) | exact rd_indexRow1 4 rfl Try.underlying23 ty_3 rfl rfl (by omega) (by omega) | exact rd_indexRow1 5 rfl Try.underlying23 ty_3 rfl rfl (by omega) (by omega) | exact rd_indexRow1 6 rfl Try.underlying23 ty_3 rfl rfl (by omega) (by omega) | exact rd_indexOld1 (by assumption) Try.underlying23 ty_3 rfl rfl (by omega) (by omega) | exact rd_index1 Try.underlying23 ty_3 rfl rfl (by omega) (by omega))) ?_
      refine ga_first 8 #[true, true, true, true, true, true, true, true, true, false, false, false] rfl rfl rfl rfl (by kernel_rfl) rfl ⟨[0, 1, 2, 3, 4, 5, 6, 7], by decide, rfl⟩ (qt_rd (rd_load Try.underlying3 rfl rfl (by first | exact ld_rowN 0 rfl (get_nats hjl) | exact ld_rowN 1 rfl (get_nats hjl) | exact ld_rowN 2 rfl (get_nats hjl) | exact ld_rowN 3 rfl (get_nats hjl) | exact ld_rowN 4 rfl (get_nats hjl) | exact ld_rowN 5 rfl (get_nats hjl) | exact ld_rowN 6 rfl (get_nats hjl) | exact ld_rowN 7 rfl (get_nats hjl)))) ?_
      refine ga_first 9 #[true, true, true, true, true, true, true, true, true, true, false, false] rfl rfl rfl rfl (by kernel_rfl) rfl ⟨[0, 1, 2, 3, 4, 5, 6, 7], by decide, rfl⟩ (qt_call (vf := []) (vc := []) rfl rfl Try.call66 (fun w ho => rswitched_ok x.state _ w hxs2 (by omega)) (by rintro _ _ ⟨h, _⟩; exact h)) ?_
      refine ga_first 10 #[true, true, true, true, true, true, true, true, true, true, true, false] rfl rfl rfl rfl (by kernel_rfl) rfl ⟨[0, 1, 2, 3, 4, 5, 6, 7], by decide, rfl⟩ (qt_rd (rd_move rfl)) ?_
      refine ga_first 11 #[true, true, true, true, true, true, true, true, true, true, true, true] rfl rfl rfl rfl (by kernel_rfl) rfl ⟨[0, 1, 2, 3, 4, 5, 6, 7], by decide, rfl⟩ (qt_rd (rd_eql rfl rfl)) (gk_dec (fun heq => ?_) (fun heq => ?_))
      · skip
        have heq2 : (flip x.state (ks.getD jk 0) == s) = true := by rw [beq_iff_eq]; exact Int.ofNat.inj heq
        refine ga_end (by kernel_rfl) (.inr ⟨[0, 1, 2, 3, 4, 5, 6, 7], by decide, rfl⟩) ?_
        refine gx_then ?_
        refine gc_cond_t rfl ?_
        refine gc_seq ?_
        refine gc_drawP [0, 1, 2, 3, 4, 5, 6, 7] false 10 rfl ?_
        refine ga_first 0 #[true, false, false, false, false, false, false, false, false, false, false] rfl rfl rfl rfl (by kernel_rfl) rfl ⟨[0, 1, 2, 3, 4, 5, 6, 7], by decide, rfl⟩ (qt_rd (rd_loadAgg Try.underlying91 rfl ty_91 rfl (by first | exact cs_blk 1 (off := 0) (k := 4) rfl rfl | exact cs_blk 7 (off := 0) (k := 4) rfl rfl | exact cs_old (by assumption) (by simp)) rfl)) ?_
        refine ga_first 1 #[true, true, false, false, false, false, false, false, false, false, false] rfl rfl rfl rfl (by kernel_rfl) rfl ⟨[0, 1, 2, 3, 4, 5, 6, 7], by decide, rfl⟩ (qt_rd (rd_move rfl)) ?_
        refine ga_first 3 #[true, true, false, true, false, false, false, false, false, false, false] rfl rfl rfl rfl (by kernel_rfl) rfl ⟨[0, 1, 2, 3, 4, 5, 6, 7], by decide, rfl⟩ (qt_rd (rd_move rfl)) ?_
        refine ga_first 4 #[true, true, false, true, true, false, false, false, false, false, false] rfl rfl rfl rfl (by kernel_rfl) rfl ⟨[0, 1, 2, 3, 4, 5, 6, 7], by decide, rfl⟩ (qt_rd (rd_move rfl)) ?_
        refine ga_first 5 #[true, true, false, true, true, true, false, false, false, false, false] rfl rfl rfl rfl (by kernel_rfl) rfl ⟨[0, 1, 2, 3, 4, 5, 6, 7], by decide, rfl⟩ (qt_rd (by first | exact rd_indexRow1 0 rfl Try.underlying23 ty_3 rfl rfl (by omega) (by omega) | exact rd_indexRow1 2 rfl Try.underlying23 ty_3 rfl rfl (by omega) (by omega) | exact rd_indexRow1 3 rfl Try.underlying23 ty_3 rfl rfl (by omega) (by omega) | exact rd_indexRow1 4 rfl Try.underlying23 ty_3 rfl rfl (by omega) (by omega) | exact rd_indexRow1 5 rfl Try.underlying23 ty_3 rfl rfl (by omega) (by omega) | exact rd_indexRow1 6 rfl Try.underlying23 ty_3 rfl rfl (by omega) (by omega) | exact rd_indexOld1 (by assumption) Try.underlying23 ty_3 rfl rfl (by omega) (by omega) | exact rd_index1 Try.underlying23 ty_3 rfl rfl (by omega) (by omega))) ?_
        refine ga_first 6 #[true, true, false, true, true, true, true, false, false, false, false] rfl rfl rfl rfl (by kernel_rfl) rfl ⟨[0, 1, 2, 3, 4, 5, 6, 7], by decide, rfl⟩ (qt_rd (rd_load Try.underlying3 rfl rfl (by first | exact ld_rowN 0 rfl (get_nats hjl) | exact ld_rowN 1 rfl (get_nats hjl) | exact ld_rowN 2 rfl (get_nats hjl) | exact ld_rowN 3 rfl (get_nats hjl) | exact ld_rowN 4 rfl (get_nats hjl) | exact ld_rowN 5 rfl (get_nats hjl) | exact ld_rowN 6 rfl (get_nats hjl) | exact ld_rowN 7 rfl (get_nats hjl)))) ?_
        refine ga_two 2 7 #[true, true, true, true, true, true, true, false, false, false, false] #[true, true, false, true, true, true, true, true, false, false, false] rfl rfl rfl rfl (by kernel_rfl) rfl rfl (.inr ⟨[0, 1, 2, 3, 4, 5, 6, 7], by decide, rfl⟩) ?_ ?_
        · skip
          refine (op_call rfl (vf := []) (vc := []) rfl rfl Try.call80 (fun w ho => rway_ok c inn ms ⟨rowA rs, cs, rowA rf, cf, rowA rg, cg, rowA (some bp)⟩ w (RIn.mk' ho 2 3 4 5 rfl rfl rfl rfl) hwf i (by omega) (by omega)) ?_)
          rintro _ _ ⟨rw1, cw, rfl, rfl⟩
          refine ga_only 7 #[true, true, true, true, true, true, true, true, false, false, false] rfl rfl (by kernel_rfl) rfl (.inr ⟨[1, 2, 3, 4, 5, 6, 7, 8], by decide, rfl⟩) (op_buildSlice (sz := 1) rfl rfl (fun _ => bs_23_1_0 _) rfl rfl (fun b57 => ?_))
          refine ga_only 8 #[true, true, true, true, true, true, true, true, true, false, false] rfl rfl (by kernel_rfl) rfl (.inr ⟨[2, 3, 4, 5, 6, 7, 8, 9], by decide, rfl⟩) (op_appendRow 1 0 Try.underlying23 ty_3 rfl (by decide) rfl rfl rfl rfl rfl (by simp [Value.oneCell']) (by omega) (by omega) (fun _ => (by first | rfl | (simp only [List.set_cons_succ, List.set_cons_zero]; exact rfl))) (fun r58 c58 => ?_))
          refine ga_first 9 #[true, true, true, true, true, true, true, true, true, true, false] rfl rfl rfl rfl (by kernel_rfl) rfl ⟨[2, 3, 4, 5, 6, 7, 8, 9], by decide, rfl⟩ (qt_rd (rd_assign rfl)) ?_
          refine ga_only 10 #[true, true, true, true, true, true, true, true, true, true, true] rfl rfl (by kernel_rfl) rfl (.inr ⟨[2, 3, 4, 5, 6, 7, 8, 9], by decide, rfl⟩) (op_rd rfl (rd_assign rfl) ?_)
          refine ga_end (by kernel_rfl) (.inl (by kernel_rfl)) ?_
          refine gx_then ?_
          refine gc_ret ?_
          refine gx_block_ret ?_
          refine gx_then_ret ?_
          refine gx_then_ret ?_
          refine gx_block_ret ?_
          refine gx_block_ret ?_
          refine gx_then_ret ?_
          refine gx_then_ret ?_
          refine gx_block_ret ?_
          refine gx_then_ret ?_
          refine gx_ret2 (.inl rfl) Try.results82 rfl rfl [1] (by decide) ?_
          have he : backP c inn s = wayP ms i ++ [ks.getD jk 0] := by rw [← hb, drop_at hx, backAt_hit (by rw [hks]; exact find_at ks jk hjl hno heq2)]
          rw [he]
          exact ⟨r58, c58, by simp, by simp [pick]⟩
        · skip
          refine (op_buildSlice (sz := 1) rfl rfl (fun _ => bs_23_1_0 _) rfl rfl (fun b57 => ?_))
          refine ga_only 2 #[true, true, true, true, true, true, true, true, false, false, false] rfl rfl (by kernel_rfl) rfl (.inr ⟨[1, 2, 3, 4, 5, 6, 7, 8], by decide, rfl⟩) (op_call rfl (vf := []) (vc := []) rfl rfl Try.call80 (fun w ho => rway_ok c inn ms ⟨rowA rs, cs, rowA rf, cf, rowA rg, cg, rowA (some bp)⟩ w (RIn.mk' ho 3 4 5 6 rfl rfl rfl rfl) hwf i (by omega) (by omega)) ?_)
          rintro _ _ ⟨rw1, cw, rfl, rfl⟩
          refine ga_only 8 #[true, true, true, true, true, true, true, true, true, false, false] rfl rfl (by kernel_rfl) rfl (.inr ⟨[2, 3, 4, 5, 6, 7, 8, 9], by decide, rfl⟩) (op_appendRow 0 1 Try.underlying23 ty_3 rfl (by decide) rfl rfl rfl rfl rfl (by simp [Value.oneCell']) (by omega) (by omega) (fun _ => (by first | rfl | (simp only [List.set_cons_succ, List.set_cons_zero]; exact rfl))) (fun r58 c58 => ?_))
          refine ga_first 9 #[true, true, true, true, true, true, true, true, true, true, false] rfl rfl rfl rfl (by kernel_rfl) rfl ⟨[2, 3, 4, 5, 6, 7, 8, 9], by decide, rfl⟩ (qt_rd (rd_assign rfl)) ?_
          refine ga_only 10 #[true, true, true, true, true, true, true, true, true, true, true] rfl rfl (by kernel_rfl) rfl (.inr ⟨[2, 3, 4, 5, 6, 7, 8, 9], by decide, rfl⟩) (op_rd rfl (rd_assign rfl) ?_)
          refine ga_end (by kernel_rfl) (.inl (by kernel_rfl)) ?_
          refine gx_then ?_
          refine gc_ret ?_
          refine gx_block_ret ?_
          refine gx_then_ret ?_
          refine gx_then_ret ?_
          refine gx_block_ret ?_
          refine gx_block_ret ?_
          refine gx_then_ret ?_
          refine gx_then_ret ?_
          refine gx_block_ret ?_
          refine gx_then_ret ?_
          refine gx_ret2 (.inl rfl) Try.results82 rfl rfl [0] (by decide) ?_
          have he : backP c inn s = wayP ms i ++ [ks.getD jk 0] := by rw [← hb, drop_at hx, backAt_hit (by rw [hks]; exact find_at ks jk hjl hno heq2)]
          rw [he]
          exact ⟨r58, c58, by simp, by simp [pick]⟩
      · skip
        have hne : (flip x.state (ks.getD jk 0) == s) = false := by rw [beq_eq_false_iff_ne]; exact fun e => heq (congrArg Int.ofNat e)
        refine ga_end (by kernel_rfl) (.inr ⟨[0, 1, 2, 3, 4, 5, 6, 7], by decide, rfl⟩) ?_
        refine gx_then ?_
        refine gc_cond_f rfl ?_
        refine gc_skip ?_
        refine gx_block ?_
        refine gx_then ?_
        refine gc_region ?_
        refine gl_op (op_rd rfl (rd_move rfl) ?_)
        refine gl_op (op_rd rfl (by first | exact rd_addN (b := 1) rfl rfl (by omega) | exact rd_add rfl rfl (by omega) (by omega)) ?_)
        refine gl_op (op_rd rfl (rd_assign rfl) ?_)
        refine gl_nil ?_
        refine gx_then ?_
        exact gx_cut (jk + 1) ⟨⟨by omega, fun q hq => by rcases Nat.lt_succ_iff_lt_or_eq.1 hq with h | rfl; exact hno q h; exact hne⟩, by omega⟩ ⟨rfl, rfl, rfl, rfl, rfl, rfl, rfl, trivial⟩ ⟨[0, 1, 2, 3, 4, 5, 6, 7], by decide, rfl⟩
    · skip
      refine gl_nil ?_
      refine gx_then ?_
      refine gc_cond_f rfl ?_
      refine gc_exit ?_
      refine gx_then_exit ?_
      refine gx_then_exit ?_
      refine gx_block_exit ?_
      refine gx_block ?_
      refine gx_then ?_
      refine gc_region ?_
      refine gl_op (op_rd rfl (rd_move rfl) ?_)
      refine gl_op (op_rd rfl (by first | exact rd_addN (b := 1) rfl rfl (by omega) | exact rd_add rfl rfl (by omega) (by omega)) ?_)
      refine gl_op (op_rd rfl (rd_assign rfl) ?_)
      refine gl_nil ?_
      refine gx_then ?_
      exact gx_cut (i + 1) ⟨⟨by omega, by rw [← hb, drop_at hx, backAt_skip (find_not _ (fun q hq => by rw [hks] at hq ⊢; exact hno q (by omega)))]⟩, by omega⟩ ⟨rfl, rfl, rfl, rfl, rfl, trivial⟩ ⟨[1, 2, 3, 4, 5, 6, 7], by decide, rfl⟩
  · skip
    refine gl_nil ?_
    refine gx_then ?_
    refine gc_cond_f rfl ?_
    refine gc_exit ?_
    refine gx_then_exit ?_
    refine gx_then_exit ?_
    refine gx_block_exit ?_
    refine gx_then ?_
    refine gc_seq ?_
    refine gk_nil 3 1 ?_
    refine gc_region ?_
    refine gl_op (op_rd rfl (rd_assign rfl) ?_)
    refine gl_op (op_rd rfl (rd_assign rfl) ?_)
    refine gl_nil ?_
    refine gx_then ?_
    refine gc_ret ?_
    refine gx_ret2 (.inl rfl) Try.results82 rfl rfl [0] (by decide) ?_
    have he : backP c inn s = [] := by rw [← hb, List.drop_of_length_le (by omega)]; rfl
    rw [he]
    exact ⟨none, 0, rfl, rfl⟩

set_option maxRecDepth 100000 in
set_option maxHeartbeats 1000000 in
theorem rexplore_ok (c : Circ) (st inn : Int) (w0 : World) (hc : c.In w0 []) (hst : st ≤ 9223372036854775807) (hin : inn ≤ 9223372036854775807) : Sp Try.prog 61 [c.val, .int .i64 st, .int .i64 inn] w0 [] (fun v l => (c.ready st inn = 0 ∧ ∃ ns rs cs rf cf rg cg b, reachP c inn.toNat [st.toNat] = some ns ∧ v = .tuple #[.agg #[.slice (rowA rs) ns.length cs, .slice (rowA rf) ns.length cf, .slice (rowA rg) ns.length cg, .slice (rowA (some b)) (1 <<< c.gates.length) (1 <<< c.gates.length)], .int .i64 0] ∧ l = [.row 3 1 rs ns.length cs (ns.map sV), .row 3 1 rf ns.length cf (ns.map fV), .row 3 1 rg ns.length cg (ns.map gV), .row 3 1 (some b) (1 <<< c.gates.length) (1 <<< c.gates.length) ((placeL ns (1 <<< c.gates.length)).map natV)]) ∨ (c.ready st inn = 0 ∧ reachP c inn.toNat [st.toNat] = none ∧ v = .tuple #[.agg #[.slice none 0 0, .slice none 0 0, .slice none 0 0, .slice none 0 0], .int .i64 5] ∧ l = []) ∨ (c.ready st inn ≠ 0 ∧ v = .tuple #[.agg #[.slice none 0 0, .slice none 0 0, .slice none 0 0, .slice none 0 0], .int .i64 (c.ready st inn)] ∧ l = [])) := by
  refine spec_enter Try.func61 rfl Try.ntmps61 rfl (Own.refl _) ?_
  simp only [argEnv]
  refine gc_seq ?_
  refine gc_region ?_
  refine gl_op (op_box rfl rfl rfl (fun b3 => ?_))
  refine gl_op (op_alloc ty_91 rfl rfl (fun b6 => ?_))
  refine gl_op (op_rd rfl (rd_assign rfl) ?_)
  refine gl_nil ?_
  refine gx_then ?_
  refine gc_seq ?_
  refine gc_region ?_
  refine gl_op (op_rd rfl (rd_loadAgg Try.underlying25 rfl ty_25 rfl (by first | exact cs_blk 0 (off := 0) (k := 3) rfl rfl | exact cs_blk 1 (off := 0) (k := 3) rfl rfl | exact cs_old (by assumption) (by simp)) rfl) ?_)
  refine gl_op (op_rd rfl (rd_move rfl) ?_)
  refine gl_op (op_rd rfl (rd_move rfl) ?_)
  refine gl_op (op_call rfl (vf := []) (vc := []) rfl rfl Try.call48 (fun w ho => ready_ok c st inn w (hc.at ho) hst hin) ?_)
  rintro _ _ ⟨rfl, rfl⟩
  refine gl_op (op_rd rfl (rd_assign rfl) ?_)
  refine gl_nil ?_
  refine gx_then ?_
  refine gc_seq ?_
  refine gc_seq ?_
  refine gc_region ?_
  refine gl_op (op_rd rfl (rd_move rfl) ?_)
  refine gl_op (op_rd rfl (rd_neq rfl rfl) (gk_dec (fun hr => ?_) (fun hr => ?_)))
  · skip
    refine gl_nil ?_
    refine gx_then ?_
    refine gc_cond_t rfl ?_
    refine gc_seq ?_
    refine gc_region ?_
    refine gl_op (op_rd rfl (rd_build rfl (fun _ => bd_91_)) ?_)
    refine gl_op (op_rd rfl (rd_move rfl) ?_)
    first | refine gl_op (op_storeAgg 0 ty_91 rfl rfl rfl rfl rfl rfl (by first | rfl | (simp only [List.set_cons_succ, List.set_cons_zero]; exact rfl)) ?_) | refine gl_op (op_storeAgg 1 ty_91 rfl rfl rfl rfl rfl rfl (by first | rfl | (simp only [List.set_cons_succ, List.set_cons_zero]; exact rfl)) ?_)
    refine gl_op (op_rd rfl (rd_assign rfl) ?_)
    refine gl_nil ?_
    refine gx_then ?_
    refine gc_ret ?_
    refine gx_then_ret ?_
    refine gx_retV2 (.inl rfl) Try.results61 (rv_agg Try.underlying91 rfl ty_91 rfl (by rfl) (cs_blk 0 (off := 0) (k := 4) rfl rfl)) (rv_tmp rfl) [] (by decide) ?_
    exact .inr (.inr ⟨by omega, rfl, rfl⟩)
  · skip
    have hr0 : c.ready st inn = 0 := by omega
    obtain ⟨hck, h1, h2, h3, h4⟩ := Circ.of_ready hr0
    have hgd := Circ.good hck
    obtain ⟨sn, rfl⟩ : ∃ n : Nat, st = n := ⟨st.toNat, by omega⟩
    obtain ⟨im, rfl⟩ : ∃ n : Nat, inn = n := ⟨inn.toNat, by omega⟩
    simp only [Int.toNat_natCast] at h2 h4 ⊢
    refine gl_nil ?_
    refine gx_then ?_
    refine gc_cond_f rfl ?_
    refine gc_skip ?_
    refine gx_then ?_
    refine gc_seq ?_
    refine gc_region ?_
    refine gl_op (op_rd rfl (rd_loadAgg Try.underlying25 rfl ty_25 rfl (by first | exact cs_blk 0 (off := 0) (k := 3) rfl rfl | exact cs_blk 1 (off := 0) (k := 3) rfl rfl | exact cs_old (by assumption) (by simp)) rfl) ?_)
    refine gl_op (op_rd rfl (rd_move rfl) ?_)
    refine gl_op (op_buildSlice (sz := 1) rfl rfl (fun _ => bs_23_1_0 _) rfl rfl (fun b20 => ?_))
    refine gl_op (op_rd rfl (rd_move rfl) ?_)
    refine gl_op (op_call rfl (vf := []) (vc := []) rfl rfl Try.call67 (fun w ho => rreach_ok c [sn] (some ⟨b20, 0, none⟩) 1 im w (hc.at ho) hgd h4 (ho.rowSl 0 (r := some b20) rfl) (by simpa using h2) (by simp)) ?_)
    rintro _ _ ⟨rs, cs, rf, cf, rg, cg, bp, rfl, rfl⟩
    refine gl_op (op_alloc ty_91 rfl rfl (fun b9 => ?_))
    first | refine gl_op (op_storeAgg 0 ty_91 rfl rfl rfl rfl rfl rfl (by first | rfl | (simp only [List.set_cons_succ, List.set_cons_zero]; exact rfl)) ?_) | refine gl_op (op_storeAgg 6 ty_91 rfl rfl rfl rfl rfl rfl (by first | rfl | (simp only [List.set_cons_succ, List.set_cons_zero]; exact rfl)) ?_) | refine gl_op (op_storeAgg 7 ty_91 rfl rfl rfl rfl rfl rfl (by first | rfl | (simp only [List.set_cons_succ, List.set_cons_zero]; exact rfl)) ?_)
    refine gl_nil ?_
    refine gx_then ?_
    refine gc_seq ?_
    refine gc_seq ?_
    refine gc_region ?_
    refine gl_op (op_rd rfl (rd_fieldAddr rfl (fa_91_0 _)) ?_)
    refine gl_op (op_rd rfl (rd_load Try.underlying23 rfl rfl (by first | exact ld_blk 0 rfl rfl | exact ld_blk 6 rfl rfl | exact ld_blk 7 rfl rfl | exact ld_old (by assumption) (by simp) | exact ld_cells (by assumption) (by simp) rfl)) ?_)
    refine gl_op (op_rd rfl (rd_lenSlice Try.underlying23 rfl) ?_)
    refine gl_op (op_rd rfl (rd_gtr rfl rfl) (gk_dec (fun hbig => ?_) (fun hbig => ?_)))
    · skip
      refine gl_nil ?_
      refine gx_then ?_
      refine gc_cond_t rfl ?_
      refine gc_seq ?_
      refine gc_region ?_
      refine gl_op (op_rd rfl (rd_build rfl (fun _ => bd_91_)) ?_)
      first | refine gl_op (op_storeAgg 0 ty_91 rfl rfl rfl rfl rfl rfl (by first | rfl | (simp only [List.set_cons_succ, List.set_cons_zero]; exact rfl)) ?_) | refine gl_op (op_storeAgg 6 ty_91 rfl rfl rfl rfl rfl rfl (by first | rfl | (simp only [List.set_cons_succ, List.set_cons_zero]; exact rfl)) ?_) | refine gl_op (op_storeAgg 7 ty_91 rfl rfl rfl rfl rfl rfl (by first | rfl | (simp only [List.set_cons_succ, List.set_cons_zero]; exact rfl)) ?_)
      refine gl_op (op_rd rfl (rd_assign rfl) ?_)
      refine gl_nil ?_
      refine gx_then ?_
      refine gc_ret ?_
      refine gx_then_ret ?_
      refine gx_retV2 (.inl rfl) Try.results61 (rv_agg Try.underlying91 rfl ty_91 rfl (by rfl) (cs_blk 6 (off := 0) (k := 4) rfl rfl)) (rv_tmp rfl) [] (by decide) ?_
      refine .inr (.inl ⟨hr0, ?_, rfl, rfl⟩)
      cases h : reachP c im [sn] with
      | none => rfl
      | some ms => have := rreach_some h; rw [this.1] at hbig; omega
    · skip
      refine gl_nil ?_
      refine gx_then ?_
      refine gc_cond_f rfl ?_
      refine gc_skip ?_
      refine gx_then ?_
      refine gc_seq ?_
      refine gc_region ?_
      refine gl_op (op_rd rfl (rd_loadAgg Try.underlying91 rfl ty_91 rfl (by first | exact cs_blk 0 (off := 0) (k := 4) rfl rfl | exact cs_blk 6 (off := 0) (k := 4) rfl rfl | exact cs_blk 7 (off := 0) (k := 4) rfl rfl | exact cs_old (by assumption) (by simp)) rfl) ?_)
      first | refine gl_op (op_storeAgg 0 ty_91 rfl rfl rfl rfl rfl rfl (by first | rfl | (simp only [List.set_cons_succ, List.set_cons_zero]; exact rfl)) ?_) | refine gl_op (op_storeAgg 6 ty_91 rfl rfl rfl rfl rfl rfl (by first | rfl | (simp only [List.set_cons_succ, List.set_cons_zero]; exact rfl)) ?_) | refine gl_op (op_storeAgg 7 ty_91 rfl rfl rfl rfl rfl rfl (by first | rfl | (simp only [List.set_cons_succ, List.set_cons_zero]; exact rfl)) ?_)
      refine gl_op (op_rd rfl (rd_assign rfl) ?_)
      refine gl_nil ?_
      refine gx_then ?_
      refine gc_ret ?_
      refine gx_retV2 (.inl rfl) Try.results61 (rv_agg Try.underlying91 rfl ty_91 rfl (by rfl) (cs_blk 6 (off := 0) (k := 4) rfl rfl)) (rv_tmp rfl) [1, 2, 3, 4] (by decide) ?_
      cases h : reachP c im [sn] with
      | none => have := rreach_none h; omega
      | some ms =>
        rw [(rreach_some h).1]
        exact .inl ⟨hr0, ms, rs, cs, rf, cf, rg, cg, bp, rfl, rfl, rfl⟩

set_option maxRecDepth 100000 in
set_option maxHeartbeats 1000000 in
theorem rrace_ok (c : Circ) (inn : Nat) (ns : List Nd) (r : RAd) (w0 : World) (hr0 : RIn ns (1 <<< c.gates.length) r w0) (hc : c.In w0 []) (hgd : c.Good) (hin : inn < 2 ^ c.inputs.toNat) (hrg : RGr c inn ns) : Sp Try.prog 62 [c.val, .agg (r.cells ns (1 <<< c.gates.length)).toArray, natV inn] w0 [] (fun v l => ∃ ra ca rb cb, v = .agg #[natV (raceP c inn ns).kind, .slice (rowA ra) (raceP c inn ns).a.length ca, .slice (rowA rb) (raceP c inn ns).b.length cb] ∧ l = [.row 3 1 ra (raceP c inn ns).a.length ca ((raceP c inn ns).a.map natV), .row 3 1 rb (raceP c inn ns).b.length cb ((raceP c inn ns).b.map natV)]) := by
  have hr := hr0
  obtain ⟨hs, hf, hg, hp⟩ := hr
  have hgr := hrg.gr
  have hpos := hrg.pos
  have hlen := hgr.len
  have hg12 := hgd.g12
  have hpow : 2 ^ c.gates.length ≤ 2 ^ 12 := Nat.pow_le_pow_right (by decide) hg12
  have hN : 1 <<< c.gates.length ≤ 4096 := by rw [one_shl]; omega
  
  refine spec_enter Try.func62 rfl Try.ntmps62 rfl (Own.refl _) ?_
  simp only [argEnv]
  refine gc_seq ?_
  refine gc_region ?_
  refine gl_op (op_box rfl rfl rfl (fun b3 => ?_))
  refine gl_op (op_box rfl rfl rfl (fun b4 => ?_))
  refine gl_op (op_alloc ty_40 rfl rfl (fun b6 => ?_))
  refine gl_nil ?_
  refine gx_then ?_
  refine gc_seq ?_
  refine gc_region ?_
  refine gl_op (op_rd rfl (rd_assign rfl) ?_)
  refine gl_nil ?_
  refine gx_then ?_
  refine gc_seq ?_
  refine gc_seq ?_
  refine gc_region ?_
  refine gl_op (op_rd rfl (rd_assign rfl) ?_)
  refine gl_nil ?_
  refine gx_then ?_
  refine gc_block ?_
  refine gk_nil 3 1 ?_
  refine gc_loopF (ι := Nat × List Nat × Option Nat × Nat) [(2, _), (3, _), (4, _), (6, _)] [_, _, _] (fun j => j.1 ≤ ns.length ∧ j.2.1 = (List.range j.1).filter (restAt c inn ns)) (fun j Fr0 => ((8, natV j.1) :: (7, .slice (rowA j.2.2.1) j.2.1.length j.2.2.2) :: Fr0)) (fun j Fr0 => (.row 3 1 j.2.2.1 j.2.1.length j.2.2.2 (j.2.1.map natV) :: Fr0)) (fun j => ns.length - j.1) (0, [], none, 0) (⟨Nat.zero_le _, rfl⟩) ⟨rfl, rfl, rfl, rfl, rfl, rfl, trivial⟩ ⟨[0, 1, 2, 3], by decide, rfl⟩ ?_
  rintro ⟨i, fs, rr, cr⟩ ⟨hi, hfs⟩
  simp only at hi hfs ⊢
  have hfl := filter_range_le (restAt c inn ns) i
  rw [← hfs] at hfl
  refine gc_seq ?_
  refine gc_seq ?_
  refine gc_region ?_
  refine gl_op (op_rd rfl (rd_move rfl) ?_)
  refine gl_op (op_rd rfl (rd_fieldAddr rfl (fa_91_0 _)) ?_)
  refine gl_op (op_rd rfl (rd_load Try.underlying23 rfl rfl (by first | exact ld_blk 1 rfl rfl | exact ld_blk 2 rfl rfl | exact ld_blk 3 rfl rfl | exact ld_old (by assumption) (by simp) | exact ld_cells (by assumption) (by simp) rfl)) ?_)
  refine gl_op (op_rd rfl (rd_lenSlice Try.underlying23 rfl) ?_)
  refine gl_op (op_rd rfl (rd_lss rfl rfl) (gk_dec (fun hlt => ?_) (fun hlt => ?_)))
  · skip
    obtain ⟨x, hx⟩ : ∃ y, ns[i]? = some y := ⟨ns[i]'(by omega), List.getElem?_eq_getElem (by omega)⟩
    have hxs : x.state < 2 ^ c.gates.length := hgr.st x (List.mem_of_getElem? hx)
    have hxs2 := st_lt hgd hxs
    refine gl_nil ?_
    refine gx_then ?_
    refine gc_cond_t rfl ?_
    refine gc_skip ?_
    refine gx_then ?_
    refine gc_seq ?_
    refine gc_block ?_
    refine gc_seq ?_
    refine gc_drawP [0, 1, 2, 3] true 9 rfl ?_
    refine ga_first 0 #[true, false, false, false, false, false, false, false, false, false] rfl rfl rfl rfl (by kernel_rfl) rfl ⟨[0, 1, 2, 3], by decide, rfl⟩ (qt_rd (rd_loadAgg Try.underlying25 rfl ty_25 rfl (by first | exact cs_blk 1 (off := 0) (k := 3) rfl rfl | exact cs_blk 2 (off := 0) (k := 3) rfl rfl | exact cs_blk 3 (off := 0) (k := 3) rfl rfl | exact cs_old (by assumption) (by simp)) rfl)) ?_
    refine ga_first 1 #[true, true, false, false, false, false, false, false, false, false] rfl rfl rfl rfl (by kernel_rfl) rfl ⟨[0, 1, 2, 3], by decide, rfl⟩ (qt_rd (rd_fieldAddr rfl (fa_91_0 _))) ?_
    refine ga_first 2 #[true, true, true, false, false, false, false, false, false, false] rfl rfl rfl rfl (by kernel_rfl) rfl ⟨[0, 1, 2, 3], by decide, rfl⟩ (qt_rd (rd_load Try.underlying23 rfl rfl (by first | exact ld_blk 1 rfl rfl | exact ld_blk 2 rfl rfl | exact ld_blk 3 rfl rfl | exact ld_old (by assumption) (by simp) | exact ld_cells (by assumption) (by simp) rfl))) ?_
    refine ga_first 3 #[true, true, true, true, false, false, false, false, false, false] rfl rfl rfl rfl (by kernel_rfl) rfl ⟨[0, 1, 2, 3], by decide, rfl⟩ (qt_rd (rd_move rfl)) ?_
    refine ga_first 4 #[true, true, true, true, true, false, false, false, false, false] rfl rfl rfl rfl (by kernel_rfl) rfl ⟨[0, 1, 2, 3], by decide, rfl⟩ (qt_rd (by first | exact rd_indexRow1 0 rfl Try.underlying23 ty_3 rfl rfl (by omega) (by omega) | exact rd_indexOld1 (by assumption) Try.underlying23 ty_3 rfl rfl (by omega) (by omega) | exact rd_index1 Try.underlying23 ty_3 rfl rfl (by omega) (by omega))) ?_
    refine ga_first 5 #[true, true, true, true, true, true, false, false, false, false] rfl rfl rfl rfl (by kernel_rfl) rfl ⟨[0, 1, 2, 3], by decide, rfl⟩ (qt_rd (rd_load Try.underlying3 rfl rfl (ld_slN hs (get_sV hx)))) ?_
    refine ga_first 6 #[true, true, true, true, true, true, true, false, false, false] rfl rfl rfl rfl (by kernel_rfl) rfl ⟨[0, 1, 2, 3], by decide, rfl⟩ (qt_rd (rd_move rfl)) ?_
    refine ga_only 7 #[true, true, true, true, true, true, true, true, false, false] rfl rfl (by kernel_rfl) rfl (.inr ⟨[0, 1, 2, 3], by decide, rfl⟩) (op_call rfl (vf := []) (vc := []) rfl rfl Try.call49 (fun w ho => rnext_ok c x.state inn w (hc.at ho) hgd hxs hin) ?_)
    rintro _ _ ⟨rk, ck, rfl, rfl⟩
    have hkl := nextL_len c x.state inn
    obtain ⟨ks, hks⟩ : ∃ ks, nextL c x.state inn = ks := ⟨_, rfl⟩
    rw [hks] at hkl ⊢
    refine ga_first 8 #[true, true, true, true, true, true, true, true, true, false] rfl rfl rfl rfl (by kernel_rfl) rfl ⟨[1, 2, 3, 4], by decide, rfl⟩ (qt_rd (rd_lenSlice Try.underlying23 rfl)) ?_
    refine ga_first 9 #[true, true, true, true, true, true, true, true, true, true] rfl rfl rfl rfl (by kernel_rfl) rfl ⟨[1, 2, 3, 4], by decide, rfl⟩ (qt_rd (rd_eql rfl rfl)) (gk_dec (fun hz => ?_) (fun hz => ?_))
    · skip
      have hz2 : restAt c inn ns i = true := (restAt_next hgd hx).2 (by rw [hks]; exact List.eq_nil_of_length_eq_zero (by omega))
      refine ga_end (by kernel_rfl) (.inr ⟨[1, 2, 3, 4], by decide, rfl⟩) ?_
      refine gx_then ?_
      refine gc_cond_t rfl ?_
      refine gc_region ?_
      refine gl_op (op_rd rfl (rd_move rfl) ?_)
      refine gl_op (op_rd rfl (rd_move rfl) ?_)
      refine gl_op (op_buildSlice (sz := 1) rfl rfl (fun _ => bs_23_1_0 _) rfl rfl (fun b31 => ?_))
      refine gl_op (op_appendRow 2 0 Try.underlying23 ty_3 rfl (by decide) rfl rfl rfl rfl rfl (by simp [Value.oneCell']) (by omega) (by omega) (fun _ => (by first | rfl | (simp only [List.set_cons_succ, List.set_cons_zero]; exact rfl))) (fun r32 c32 => ?_))
      refine gl_op (op_rd rfl (rd_assign rfl) ?_)
      refine gl_nil ?_
      refine gx_block ?_
      refine gx_then ?_
      rw [snocN, snoc_len fs i]
      refine gc_region ?_
      refine gl_op (op_rd rfl (rd_move rfl) ?_)
      refine gl_op (op_rd rfl (by first | exact rd_addN (b := 1) rfl rfl (by omega) | exact rd_add rfl rfl (by omega) (by omega)) ?_)
      refine gl_op (op_rd rfl (rd_assign rfl) ?_)
      refine gl_nil ?_
      refine gx_then ?_
      exact gx_cut ((i + 1, fs ++ [i], r32, c32)) ⟨⟨by simp only; omega, by simp only; rw [filter_range_t _ hz2, hfs]⟩, by simp only; omega⟩ ⟨rfl, rfl, rfl, rfl, rfl, rfl, trivial⟩ ⟨[2, 3, 4, 5], by decide, rfl⟩
    · skip
      have hz2 : restAt c inn ns i = false := by
        cases h : restAt c inn ns i with
        | false => rfl
        | true => have := (restAt_next hgd hx).1 h; rw [hks] at this; rw [this] at hz; exact absurd rfl hz
      refine ga_end (by kernel_rfl) (.inr ⟨[1, 2, 3, 4], by decide, rfl⟩) ?_
      refine gx_then ?_
      refine gc_cond_f rfl ?_
      refine gc_skip ?_
      refine gx_block ?_
      refine gx_then ?_
      refine gc_region ?_
      refine gl_op (op_rd rfl (rd_move rfl) ?_)
      refine gl_op (op_rd rfl (by first | exact rd_addN (b := 1) rfl rfl (by omega) | exact rd_add rfl rfl (by omega) (by omega)) ?_)
      refine gl_op (op_rd rfl (rd_assign rfl) ?_)
      refine gl_nil ?_
      refine gx_then ?_
      exact gx_cut ((i + 1, fs, rr, cr)) ⟨⟨by simp only; omega, by simp only; rw [filter_range_f _ hz2, hfs]⟩, by simp only; omega⟩ ⟨rfl, rfl, rfl, rfl, rfl, rfl, trivial⟩ ⟨[1, 2, 3, 4], by decide, rfl⟩
  · skip
    refine gl_nil ?_
    refine gx_then ?_
    refine gc_cond_f rfl ?_
    refine gc_exit ?_
    refine gx_then_exit ?_
    refine gx_then_exit ?_
    refine gx_block_exit ?_
    refine gx_then ?_
    refine gc_seq ?_
    refine gc_seq ?_
    have hie : i = ns.length := by omega
    have hrs : (List.range i).filter (restAt c inn ns) = rests c inn ns := by rw [hie]; rfl
    rw [hrs] at hfs
    subst hfs
    refine gc_region ?_
    refine gl_op (op_rd rfl (rd_move rfl) ?_)
    refine gl_op (op_rd rfl (rd_lenSlice Try.underlying23 rfl) ?_)
    refine gl_op (op_rd rfl (rd_gtr rfl rfl) (gk_dec (fun htwo => ?_) (fun htwo => ?_)))
    · skip
      refine gl_nil ?_
      refine gx_then ?_
      refine gc_cond_t rfl ?_
      refine gc_seq ?_
      refine gc_drawP [0, 1, 2, 3] false 11 rfl ?_
      refine ga_first 0 #[true, false, false, false, false, false, false, false, false, false, false, false] rfl rfl rfl rfl (by kernel_rfl) rfl ⟨[0, 1, 2, 3], by decide, rfl⟩ (qt_rd (rd_loadAgg Try.underlying91 rfl ty_91 rfl (by first | exact cs_blk 1 (off := 0) (k := 4) rfl rfl | exact cs_blk 2 (off := 0) (k := 4) rfl rfl | exact cs_blk 3 (off := 0) (k := 4) rfl rfl | exact cs_old (by assumption) (by simp)) rfl)) ?_
      refine ga_first 1 #[true, true, false, false, false, false, false, false, false, false, false, false] rfl rfl rfl rfl (by kernel_rfl) rfl ⟨[0, 1, 2, 3], by decide, rfl⟩ (qt_rd (rd_move rfl)) ?_
      refine ga_first 2 #[true, true, true, false, false, false, false, false, false, false, false, false] rfl rfl rfl rfl (by kernel_rfl) rfl ⟨[0, 1, 2, 3], by decide, rfl⟩ (qt_rd (by first | exact rd_indexRow1 0 rfl Try.underlying23 ty_3 rfl rfl (by omega) (by omega) | exact rd_indexOld1 (by assumption) Try.underlying23 ty_3 rfl rfl (by omega) (by omega) | exact rd_index1 Try.underlying23 ty_3 rfl rfl (by omega) (by omega))) ?_
      refine ga_first 3 #[true, true, true, true, false, false, false, false, false, false, false, false] rfl rfl rfl rfl (by kernel_rfl) rfl ⟨[0, 1, 2, 3], by decide, rfl⟩ (qt_rd (rd_load Try.underlying3 rfl rfl (by first | exact ld_row 0 rfl (get_nats (show 0 < (rests c inn ns).length by omega)) | exact ld_row 1 rfl (get_nats (show 0 < (rests c inn ns).length by omega)) | exact ld_row 2 rfl (get_nats (show 0 < (rests c inn ns).length by omega)) | exact ld_row 3 rfl (get_nats (show 0 < (rests c inn ns).length by omega))))) ?_
      refine ga_first 5 #[true, true, true, true, false, true, false, false, false, false, false, false] rfl rfl rfl rfl (by kernel_rfl) rfl ⟨[0, 1, 2, 3], by decide, rfl⟩ (qt_rd (rd_loadAgg Try.underlying91 rfl ty_91 rfl (by first | exact cs_blk 1 (off := 0) (k := 4) rfl rfl | exact cs_blk 2 (off := 0) (k := 4) rfl rfl | exact cs_blk 3 (off := 0) (k := 4) rfl rfl | exact cs_old (by assumption) (by simp)) rfl)) ?_
      refine ga_first 6 #[true, true, true, true, false, true, true, false, false, false, false, false] rfl rfl rfl rfl (by kernel_rfl) rfl ⟨[0, 1, 2, 3], by decide, rfl⟩ (qt_rd (rd_move rfl)) ?_
      refine ga_first 7 #[true, true, true, true, false, true, true, true, false, false, false, false] rfl rfl rfl rfl (by kernel_rfl) rfl ⟨[0, 1, 2, 3], by decide, rfl⟩ (qt_rd (by first | exact rd_indexRow1 0 rfl Try.underlying23 ty_3 rfl rfl (by omega) (by omega) | exact rd_indexOld1 (by assumption) Try.underlying23 ty_3 rfl rfl (by omega) (by omega) | exact rd_index1 Try.underlying23 ty_3 rfl rfl (by omega) (by omega))) ?_
      refine ga_first 8 #[true, true, true, true, false, true, true, true, true, false, false, false] rfl rfl rfl rfl (by kernel_rfl) rfl ⟨[0, 1, 2, 3], by decide, rfl⟩ (qt_rd (rd_load Try.underlying3 rfl rfl (by first | exact ld_row 0 rfl (get_nats (show 1 < (rests c inn ns).length by omega)) | exact ld_row 1 rfl (get_nats (show 1 < (rests c inn ns).length by omega)) | exact ld_row 2 rfl (get_nats (show 1 < (rests c inn ns).length by omega)) | exact ld_row 3 rfl (get_nats (show 1 < (rests c inn ns).length by omega))))) ?_
      refine ga_only 4 #[true, true, true, true, true, true, true, true, true, false, false, false] rfl rfl (by kernel_rfl) rfl (.inr ⟨[0, 1, 2, 3], by decide, rfl⟩) (op_call rfl (vf := []) (vc := []) rfl rfl Try.call80 (fun w ho => rway_ok c inn ns r w (hr0.at ho) hgr.wf ((rests c inn ns).getD 0 0) (by first | omega | exact rests_lt (by omega)) (by omega)) ?_)
      rintro _ _ ⟨ra, ca, rfl, rfl⟩
      refine ga_only 9 #[true, true, true, true, true, true, true, true, true, true, false, false] rfl rfl (by kernel_rfl) rfl (.inr ⟨[1, 2, 3, 4], by decide, rfl⟩) (op_call rfl (vf := []) (vc := []) rfl rfl Try.call80 (fun w ho => rway_ok c inn ns r w (hr0.at ho) hgr.wf ((rests c inn ns).getD 1 0) (by first | omega | exact rests_lt (by omega)) (by omega)) ?_)
      rintro _ _ ⟨rb, cb, rfl, rfl⟩
      refine ga_first 10 #[true, true, true, true, true, true, true, true, true, true, true, false] rfl rfl rfl rfl (by kernel_rfl) rfl ⟨[2, 3, 4, 5], by decide, rfl⟩ (qt_rd (rd_build rfl (fun _ => bd_40_0_1_2 _ _ _ _ _ _ _))) ?_
      first | refine ga_only 11 #[true, true, true, true, true, true, true, true, true, true, true, true] rfl rfl (by kernel_rfl) rfl (.inr ⟨[2, 3, 4, 5], by decide, rfl⟩) (op_storeAgg 3 ty_40 rfl rfl rfl rfl rfl rfl (by first | rfl | (simp only [List.set_cons_succ, List.set_cons_zero]; exact rfl)) ?_) | refine ga_only 11 #[true, true, true, true, true, true, true, true, true, true, true, true] rfl rfl (by kernel_rfl) rfl (.inr ⟨[2, 3, 4, 5], by decide, rfl⟩) (op_storeAgg 4 ty_40 rfl rfl rfl rfl rfl rfl (by first | rfl | (simp only [List.set_cons_succ, List.set_cons_zero]; exact rfl)) ?_) | refine ga_only 11 #[true, true, true, true, true, true, true, true, true, true, true, true] rfl rfl (by kernel_rfl) rfl (.inr ⟨[2, 3, 4, 5], by decide, rfl⟩) (op_storeAgg 5 ty_40 rfl rfl rfl rfl rfl rfl (by first | rfl | (simp only [List.set_cons_succ, List.set_cons_zero]; exact rfl)) ?_)
      refine ga_end (by kernel_rfl) (.inl (by kernel_rfl)) ?_
      refine gx_then ?_
      refine gc_ret ?_
      refine gx_then_ret ?_
      refine gx_retV1 (.inl rfl) Try.results62 (rv_agg Try.underlying40 rfl ty_40 rfl (by rfl) (cs_blk 3 (off := 0) (k := 3) rfl rfl)) [1, 0] (by decide) ?_
      rw [raceP_two (c := c) (inn := inn) (ns := ns) (by omega)]
      exact ⟨ra, ca, rb, cb, rfl, rfl⟩
    · skip
      refine gl_nil ?_
      refine gx_then ?_
      refine gc_cond_f rfl ?_
      refine gc_skip ?_
      refine gx_then ?_
      refine gc_seq ?_
      refine gc_seq ?_
      refine gc_region ?_
      refine gl_op (op_rd rfl (rd_loadAgg Try.underlying25 rfl ty_25 rfl (by first | exact cs_blk 1 (off := 0) (k := 3) rfl rfl | exact cs_blk 2 (off := 0) (k := 3) rfl rfl | exact cs_blk 3 (off := 0) (k := 3) rfl rfl | exact cs_old (by assumption) (by simp)) rfl) ?_)
      refine gl_op (op_rd rfl (rd_loadAgg Try.underlying91 rfl ty_91 rfl (by first | exact cs_blk 1 (off := 0) (k := 4) rfl rfl | exact cs_blk 2 (off := 0) (k := 4) rfl rfl | exact cs_blk 3 (off := 0) (k := 4) rfl rfl | exact cs_old (by assumption) (by simp)) rfl) ?_)
      refine gl_op (op_rd rfl (rd_move rfl) ?_)
      refine gl_op (op_call rfl (vf := []) (vc := []) rfl rfl Try.call81 (fun w ho => rends_ok c inn ns r w (hr0.at ho) (hc.at ho) hgd hin hrg) ?_)
      rintro _ _ ⟨rfl, rfl⟩
      refine gk_bool (fun hends => ?_) (fun hends => ?_)
      · skip
        refine gl_nil ?_
        refine gx_then ?_
        refine gc_cond_t rfl ?_
        refine gc_seq ?_
        refine gk_nil 3 1 ?_
        refine gk_nil 3 1 ?_
        refine gc_region ?_
        refine gl_op (op_rd rfl (rd_build rfl (fun _ => bd_40_)) ?_)
        first | refine gl_op (op_storeAgg 3 ty_40 rfl rfl rfl rfl rfl rfl (by first | rfl | (simp only [List.set_cons_succ, List.set_cons_zero]; exact rfl)) ?_) | refine gl_op (op_storeAgg 4 ty_40 rfl rfl rfl rfl rfl rfl (by first | rfl | (simp only [List.set_cons_succ, List.set_cons_zero]; exact rfl)) ?_) | refine gl_op (op_storeAgg 5 ty_40 rfl rfl rfl rfl rfl rfl (by first | rfl | (simp only [List.set_cons_succ, List.set_cons_zero]; exact rfl)) ?_)
        refine gl_nil ?_
        refine gx_then ?_
        refine gc_ret ?_
        refine gx_then_ret ?_
        refine gx_retV1 (.inl rfl) Try.results62 (rv_agg Try.underlying40 rfl ty_40 rfl (by rfl) (cs_blk 3 (off := 0) (k := 3) rfl rfl)) [0, 1] (by decide) ?_
        rw [raceP_ends (c := c) (inn := inn) (ns := ns) (by omega) hends]
        exact ⟨none, 0, none, 0, rfl, rfl⟩
      · skip
        refine gl_nil ?_
        refine gx_then ?_
        refine gc_cond_f rfl ?_
        refine gc_skip ?_
        refine gx_then ?_
        refine gc_seq ?_
        refine gc_seq ?_
        refine gc_region ?_
        refine gl_op (op_rd rfl (rd_assign rfl) ?_)
        refine gl_nil ?_
        refine gx_then ?_
        refine gc_block ?_
        refine gc_loopF (ι := Nat) [(2, _), (3, _), (4, _), (6, _)] [_, _, _, _] (fun j => j ≤ ns.length ∧ loopFrom c inn ns j (ns.drop j) = loopFrom c inn ns 0 ns) (fun j Fr0 => ((9, natV j) :: Fr0)) (fun j Fr0 => Fr0) (fun j => ns.length - j) 0 (⟨Nat.zero_le _, rfl⟩) ⟨rfl, rfl, rfl, rfl, rfl, trivial⟩ ⟨[0, 1, 2, 3], by decide, rfl⟩ ?_
        rintro i ⟨hi2, hlf⟩
        refine gc_seq ?_
        refine gc_seq ?_
        refine gc_region ?_
        refine gl_op (op_rd rfl (rd_move rfl) ?_)
        refine gl_op (op_rd rfl (rd_fieldAddr rfl (fa_91_0 _)) ?_)
        refine gl_op (op_rd rfl (rd_load Try.underlying23 rfl rfl (by first | exact ld_blk 1 rfl rfl | exact ld_blk 2 rfl rfl | exact ld_blk 3 rfl rfl | exact ld_old (by assumption) (by simp) | exact ld_cells (by assumption) (by simp) rfl)) ?_)
        refine gl_op (op_rd rfl (rd_lenSlice Try.underlying23 rfl) ?_)
        refine gl_op (op_rd rfl (rd_lss rfl rfl) (gk_dec (fun hlt2 => ?_) (fun hlt2 => ?_)))
        · skip
          obtain ⟨x, hx⟩ : ∃ y, ns[i]? = some y := ⟨ns[i]'(by omega), List.getElem?_eq_getElem (by omega)⟩
          have hxs : x.state < 2 ^ c.gates.length := hgr.st x (List.mem_of_getElem? hx)
          have hxs2 := st_lt hgd hxs
          have hxm := List.mem_of_getElem? hx
          obtain ⟨ms, hre, hwm, hsm, hlm⟩ := hgr.back x hxm
          refine gl_nil ?_
          refine gx_then ?_
          refine gc_cond_t rfl ?_
          refine gc_skip ?_
          refine gx_then ?_
          refine gc_seq ?_
          refine gc_block ?_
          refine gc_seq ?_
          refine gc_drawP [0, 1, 2, 3] true 12 rfl ?_
          refine ga_first 0 #[true, false, false, false, false, false, false, false, false, false, false, false, false] rfl rfl rfl rfl (by kernel_rfl) rfl ⟨[0, 1, 2, 3], by decide, rfl⟩ (qt_rd (rd_loadAgg Try.underlying25 rfl ty_25 rfl (by first | exact cs_blk 1 (off := 0) (k := 3) rfl rfl | exact cs_blk 2 (off := 0) (k := 3) rfl rfl | exact cs_blk 3 (off := 0) (k := 3) rfl rfl | exact cs_old (by assumption) (by simp)) rfl)) ?_
          refine ga_first 1 #[true, true, false, false, false, false, false, false, false, false, false, false, false] rfl rfl rfl rfl (by kernel_rfl) rfl ⟨[0, 1, 2, 3], by decide, rfl⟩ (qt_rd (rd_fieldAddr rfl (fa_91_0 _))) ?_
          refine ga_first 2 #[true, true, true, false, false, false, false, false, false, false, false, false, false] rfl rfl rfl rfl (by kernel_rfl) rfl ⟨[0, 1, 2, 3], by decide, rfl⟩ (qt_rd (rd_load Try.underlying23 rfl rfl (by first | exact ld_blk 1 rfl rfl | exact ld_blk 2 rfl rfl | exact ld_blk 3 rfl rfl | exact ld_old (by assumption) (by simp) | exact ld_cells (by assumption) (by simp) rfl))) ?_
          refine ga_first 3 #[true, true, true, true, false, false, false, false, false, false, false, false, false] rfl rfl rfl rfl (by kernel_rfl) rfl ⟨[0, 1, 2, 3], by decide, rfl⟩ (qt_rd (rd_move rfl)) ?_
          refine ga_first 4 #[true, true, true, true, true, false, false, false, false, false, false, false, false] rfl rfl rfl rfl (by kernel_rfl) rfl ⟨[0, 1, 2, 3], by decide, rfl⟩ (qt_rd (by first | exact rd_indexRow1 0 rfl Try.underlying23 ty_3 rfl rfl (by omega) (by omega) | exact rd_indexOld1 (by assumption) Try.underlying23 ty_3 rfl rfl (by omega) (by omega) | exact rd_index1 Try.underlying23 ty_3 rfl rfl (by omega) (by omega))) ?_
          refine ga_first 5 #[true, true, true, true, true, true, false, false, false, false, false, false, false] rfl rfl rfl rfl (by kernel_rfl) rfl ⟨[0, 1, 2, 3], by decide, rfl⟩ (qt_rd (rd_load Try.underlying3 rfl rfl (ld_slN hs (get_sV hx)))) ?_
          refine ga_first 6 #[true, true, true, true, true, true, true, false, false, false, false, false, false] rfl rfl rfl rfl (by kernel_rfl) rfl ⟨[0, 1, 2, 3], by decide, rfl⟩ (qt_rd (rd_move rfl)) ?_
          refine ga_only 7 #[true, true, true, true, true, true, true, true, false, false, false, false, false] rfl rfl (by kernel_rfl) rfl (.inr ⟨[0, 1, 2, 3], by decide, rfl⟩) (op_call rfl (vf := []) (vc := []) rfl rfl Try.call82 (fun w ho => rback_ok c inn x.state ms w (hc.at ho) hgd hin hxs hre hwm hsm hlm) ?_)
          rintro _ _ ⟨rb, cb, rfl, rfl⟩
          refine ga_first 8 #[true, true, true, true, true, true, true, true, true, false, false, false, false] rfl rfl rfl rfl (by kernel_rfl) rfl ⟨[1, 2, 3, 4], by decide, rfl⟩ (qt_rd (rd_move rfl)) ?_
          refine ga_first 9 #[true, true, true, true, true, true, true, true, true, true, false, false, false] rfl rfl rfl rfl (by kernel_rfl) rfl ⟨[1, 2, 3, 4], by decide, rfl⟩ (qt_rd (rd_extract rfl rfl)) ?_
          refine ga_first 10 #[true, true, true, true, true, true, true, true, true, true, true, false, false] rfl rfl rfl rfl (by kernel_rfl) rfl ⟨[1, 2, 3, 4], by decide, rfl⟩ (qt_rd (rd_extract rfl rfl)) ?_
          refine ga_first 11 #[true, true, true, true, true, true, true, true, true, true, true, true, false] rfl rfl rfl rfl (by kernel_rfl) rfl ⟨[1, 2, 3, 4], by decide, rfl⟩ (qt_rd (rd_assign rfl)) ?_
          refine ga_first 12 #[true, true, true, true, true, true, true, true, true, true, true, true, true] rfl rfl rfl rfl (by kernel_rfl) rfl ⟨[1, 2, 3, 4], by decide, rfl⟩ (qt_rd (rd_assign rfl)) ?_
          refine ga_end (by kernel_rfl) (.inr ⟨[1, 2, 3, 4], by decide, rfl⟩) ?_
          refine gx_then ?_
          refine gc_seq ?_
          refine gc_region ?_
          refine gl_op (op_rd rfl (rd_move rfl) ?_)
          refine gk_bool (fun hb => ?_) (fun hb => ?_)
          · skip
            refine gl_nil ?_
            refine gx_then ?_
            refine gc_cond_t rfl ?_
            refine gc_seq ?_
            refine gc_region ?_
            refine gl_op (op_rd rfl (rd_loadAgg Try.underlying91 rfl ty_91 rfl (by first | exact cs_blk 2 (off := 0) (k := 4) rfl rfl | exact cs_blk 3 (off := 0) (k := 4) rfl rfl | exact cs_blk 4 (off := 0) (k := 4) rfl rfl | exact cs_old (by assumption) (by simp)) rfl) ?_)
            refine gl_op (op_rd rfl (rd_move rfl) ?_)
            refine gl_op (op_call rfl (vf := []) (vc := []) rfl rfl Try.call80 (fun w ho => rway_ok c inn ns r w (hr0.at ho) hgr.wf i (by first | omega | exact rests_lt (by omega)) (by omega)) ?_)
            rintro _ _ ⟨ra, ca, rfl, rfl⟩
            refine gl_op (op_rd rfl (rd_move rfl) ?_)
            refine gl_op (op_rd rfl (rd_build rfl (fun _ => bd_40_0_1_2 _ _ _ _ _ _ _)) ?_)
            first | refine gl_op (op_storeAgg 3 ty_40 rfl rfl rfl rfl rfl rfl (by first | rfl | (simp only [List.set_cons_succ, List.set_cons_zero]; exact rfl)) ?_) | refine gl_op (op_storeAgg 4 ty_40 rfl rfl rfl rfl rfl rfl (by first | rfl | (simp only [List.set_cons_succ, List.set_cons_zero]; exact rfl)) ?_) | refine gl_op (op_storeAgg 5 ty_40 rfl rfl rfl rfl rfl rfl (by first | rfl | (simp only [List.set_cons_succ, List.set_cons_zero]; exact rfl)) ?_)
            refine gl_nil ?_
            refine gx_then ?_
            refine gc_ret ?_
            refine gx_block_ret ?_
            refine gx_then_ret ?_
            refine gx_then_ret ?_
            refine gx_block_ret ?_
            refine gx_then_ret ?_
            refine gx_retV1 (.inl rfl) Try.results62 (rv_agg Try.underlying40 rfl ty_40 rfl (by rfl) (cs_blk 3 (off := 0) (k := 3) rfl rfl)) [0, 1] (by decide) ?_
            rw [raceP_loop (c := c) (inn := inn) (ns := ns) (by omega) hends, ← hlf, drop_at hx, loopFrom_hit (of_decide_eq_true hb)]
            exact ⟨ra, ca, rb, cb, rfl, rfl⟩
          · skip
            refine gl_nil ?_
            refine gx_then ?_
            refine gc_cond_f rfl ?_
            refine gc_skip ?_
            refine gx_block ?_
            refine gx_then ?_
            refine gc_region ?_
            refine gl_op (op_rd rfl (rd_move rfl) ?_)
            refine gl_op (op_rd rfl (by first | exact rd_addN (b := 1) rfl rfl (by omega) | exact rd_add rfl rfl (by omega) (by omega)) ?_)
            refine gl_op (op_rd rfl (rd_assign rfl) ?_)
            refine gl_nil ?_
            refine gx_then ?_
            exact gx_cut (i + 1) ⟨⟨by omega, by rw [← hlf, drop_at hx, loopFrom_skip (by simpa using hb)]⟩, by omega⟩ ⟨rfl, rfl, rfl, rfl, rfl, trivial⟩ ⟨[1, 2, 3, 4], by decide, rfl⟩
        · skip
          refine gl_nil ?_
          refine gx_then ?_
          refine gc_cond_f rfl ?_
          refine gc_exit ?_
          refine gx_then_exit ?_
          refine gx_then_exit ?_
          refine gx_block_exit ?_
          refine gx_then ?_
          refine gc_seq ?_
          refine gk_nil 3 1 ?_
          refine gk_nil 3 1 ?_
          refine gc_region ?_
          refine gl_op (op_rd rfl (rd_build rfl (fun _ => bd_40_)) ?_)
          first | refine gl_op (op_storeAgg 3 ty_40 rfl rfl rfl rfl rfl rfl (by first | rfl | (simp only [List.set_cons_succ, List.set_cons_zero]; exact rfl)) ?_) | refine gl_op (op_storeAgg 4 ty_40 rfl rfl rfl rfl rfl rfl (by first | rfl | (simp only [List.set_cons_succ, List.set_cons_zero]; exact rfl)) ?_) | refine gl_op (op_storeAgg 5 ty_40 rfl rfl rfl rfl rfl rfl (by first | rfl | (simp only [List.set_cons_succ, List.set_cons_zero]; exact rfl)) ?_)
          refine gl_nil ?_
          refine gx_then ?_
          refine gc_ret ?_
          refine gx_retV1 (.inl rfl) Try.results62 (rv_agg Try.underlying40 rfl ty_40 rfl (by rfl) (cs_blk 3 (off := 0) (k := 3) rfl rfl)) [0, 1] (by decide) ?_
          rw [raceP_loop (c := c) (inn := inn) (ns := ns) (by omega) hends, ← hlf, show List.drop i ns = [] from List.drop_of_length_le (by omega)]
          exact ⟨none, 0, none, 0, rfl, rfl⟩

set_option maxRecDepth 100000 in
set_option maxHeartbeats 1000000 in
theorem rsettle_ok (c : Circ) (inn : Nat) (ns : List Nd) (r : RAd) (w0 : World) (hr0 : RIn ns (1 <<< c.gates.length) r w0) (hc : c.In w0 []) (hgd : c.Good) (hin : inn < 2 ^ c.inputs.toNat) (hrg : RGr c inn ns) : Sp Try.prog 63 [c.val, .agg (r.cells ns (1 <<< c.gates.length)).toArray, natV inn] w0 [] (RV (if (raceP c inn ns).kind = 0 then .tuple #[natV (settledP c inn ns), .int .i64 0] else .tuple #[.int .i64 0, .int .i64 9])) := by
  have hr := hr0
  obtain ⟨hs, hf, hg, hp⟩ := hr
  have hgr := hrg.gr
  have hpos := hrg.pos
  have hlen := hgr.len
  have hg12 := hgd.g12
  have hpow : 2 ^ c.gates.length ≤ 2 ^ 12 := Nat.pow_le_pow_right (by decide) hg12
  have hN : 1 <<< c.gates.length ≤ 4096 := by rw [one_shl]; omega
  
  refine spec_enter Try.func63 rfl Try.ntmps63 rfl (Own.refl _) ?_
  simp only [argEnv]
  refine gc_seq ?_
  refine gc_region ?_
  refine gl_op (op_box rfl rfl rfl (fun b3 => ?_))
  refine gl_op (op_box rfl rfl rfl (fun b4 => ?_))
  refine gl_op (op_rd rfl (rd_assign rfl) ?_)
  refine gl_op (op_rd rfl (rd_assign rfl) ?_)
  refine gl_nil ?_
  refine gx_then ?_
  refine gc_seq ?_
  refine gc_seq ?_
  refine gc_region ?_
  refine gl_op (op_rd rfl (rd_loadAgg Try.underlying25 rfl ty_25 rfl (by first | exact cs_blk 0 (off := 0) (k := 3) rfl rfl | exact cs_blk 1 (off := 0) (k := 3) rfl rfl | exact cs_old (by assumption) (by simp)) rfl) ?_)
  refine gl_op (op_rd rfl (rd_loadAgg Try.underlying91 rfl ty_91 rfl (by first | exact cs_blk 0 (off := 0) (k := 4) rfl rfl | exact cs_blk 1 (off := 0) (k := 4) rfl rfl | exact cs_old (by assumption) (by simp)) rfl) ?_)
  refine gl_op (op_rd rfl (rd_move rfl) ?_)
  refine gl_op (op_call rfl (vf := []) (vc := []) rfl rfl Try.call62 (fun w ho => rrace_ok c inn ns r w (hr0.at ho) (hc.at ho) hgd hin hrg) ?_)
  rintro _ _ ⟨ra, ca, rb, cb, rfl, rfl⟩
  refine gl_op (op_rd rfl (rd_field rfl (fd_40_0 _ _ _ _ _ _ _)) ?_)
  refine gl_op (op_rd rfl (rd_neq rfl rfl) (gk_dec (fun hk => ?_) (fun hk => ?_)))
  · skip
    refine gl_nil ?_
    refine gx_then ?_
    refine gc_cond_t rfl ?_
    refine gc_seq ?_
    refine gc_region ?_
    refine gl_op (op_rd rfl (rd_assign rfl) ?_)
    refine gl_op (op_rd rfl (rd_assign rfl) ?_)
    refine gl_nil ?_
    refine gx_then ?_
    refine gc_ret ?_
    refine gx_then_ret ?_
    refine gx_ret2 (.inl rfl) Try.results63 rfl rfl [] (by decide) ?_
    exact ⟨by rw [if_neg (by omega)], rfl⟩
  · skip
    obtain ⟨hr1, he⟩ := hrg.zero (by omega)
    obtain ⟨x0, hx0⟩ : ∃ y, ns[0]? = some y := ⟨ns[0], List.getElem?_eq_getElem hpos⟩
    refine gl_nil ?_
    refine gx_then ?_
    refine gc_cond_f rfl ?_
    refine gc_skip ?_
    refine gx_then ?_
    refine gc_seq ?_
    refine gc_region ?_
    refine gl_op (op_rd rfl (rd_fieldAddr rfl (fa_91_0 _)) ?_)
    refine gl_op (op_rd rfl (rd_load Try.underlying23 rfl rfl (by first | exact ld_blk 2 rfl rfl | exact ld_blk 3 rfl rfl | exact ld_old (by assumption) (by simp) | exact ld_cells (by assumption) (by simp) rfl)) ?_)
    refine gl_op (op_rd rfl (by first | exact rd_indexRow1 0 rfl Try.underlying23 ty_3 rfl rfl (by omega) (by omega) | exact rd_indexRow1 1 rfl Try.underlying23 ty_3 rfl rfl (by omega) (by omega) | exact rd_indexOld1 (by assumption) Try.underlying23 ty_3 rfl rfl (by omega) (by omega) | exact rd_index1 Try.underlying23 ty_3 rfl rfl (by omega) (by omega)) ?_)
    refine gl_op (op_rd rfl (rd_load Try.underlying3 rfl rfl (ld_sl hs (off := 0) (get_sV hx0))) ?_)
    refine gl_op (op_rd rfl (rd_assign rfl) ?_)
    refine gl_nil ?_
    refine gx_then ?_
    refine gc_seq ?_
    refine gc_block ?_
    refine gc_loopF (ι := Nat) [(2, _), (3, _)] [_, _, _, _] (fun j => hasS ns j = true) (fun j Fr0 => ((8, natV j) :: Fr0)) (fun j Fr0 => Fr0) (fun j => ns.length - posS c inn ns j) x0.state (hasS_iff.2 ⟨x0, List.mem_of_getElem? hx0, rfl⟩) ⟨rfl, rfl, rfl, trivial⟩ ⟨[0, 1, 2, 3], by decide, rfl⟩ ?_
    rintro s hs0
    obtain ⟨x, hxm, hxe⟩ := hasS_iff.1 hs0
    subst hxe
    have hxs : x.state < 2 ^ c.gates.length := hgr.st x hxm
    have hxs2 := st_lt hgd hxs
    refine gc_seq ?_
    refine gc_seq ?_
    refine gc_region ?_
    refine gl_op (op_rd rfl (rd_loadAgg Try.underlying25 rfl ty_25 rfl (by first | exact cs_blk 2 (off := 0) (k := 3) rfl rfl | exact cs_blk 3 (off := 0) (k := 3) rfl rfl | exact cs_old (by assumption) (by simp)) rfl) ?_)
    refine gl_op (op_rd rfl (rd_move rfl) ?_)
    refine gl_op (op_rd rfl (rd_move rfl) ?_)
    refine gl_op (op_call rfl (vf := []) (vc := []) rfl rfl Try.call49 (fun w ho => rnext_ok c x.state inn w (hc.at ho) hgd hxs hin) ?_)
    rintro _ _ ⟨rk, ck, rfl, rfl⟩
    have hkl := nextL_len c x.state inn
    obtain ⟨ks, hks⟩ : ∃ ks, nextL c x.state inn = ks := ⟨_, rfl⟩
    rw [hks] at hkl ⊢
    refine gl_op (op_rd rfl (rd_lenSlice Try.underlying23 rfl) ?_)
    refine gl_op (op_rd rfl (rd_gtr rfl rfl) (gk_dec (fun hgt => ?_) (fun hgt => ?_)))
    · skip
      have hkp : 0 < ks.length := by omega
      have hkm : ks.getD 0 0 ∈ nextL c x.state inn := by rw [hks]; exact mem_getD (d := 0) hkp
      have hkk := nextL_lt hkm
      refine gl_nil ?_
      refine gx_then ?_
      refine gc_cond_t rfl ?_
      refine gc_skip ?_
      refine gx_then ?_
      refine gc_block ?_
      refine gc_region ?_
      refine gl_op (op_rd rfl (rd_move rfl) ?_)
      refine gl_op (op_rd rfl (rd_loadAgg Try.underlying25 rfl ty_25 rfl (by first | exact cs_blk 3 (off := 0) (k := 3) rfl rfl | exact cs_blk 4 (off := 0) (k := 3) rfl rfl | exact cs_old (by assumption) (by simp)) rfl) ?_)
      refine gl_op (op_rd rfl (rd_move rfl) ?_)
      refine gl_op (op_rd rfl (rd_move rfl) ?_)
      refine gl_op (op_call rfl (vf := []) (vc := []) rfl rfl Try.call49 (fun w ho => rnext_ok c x.state inn w (hc.at ho) hgd hxs hin) ?_)
      rintro _ _ ⟨rk2, ck2, rfl, rfl⟩
      rw [hks]
      refine gl_op (op_rd rfl (rd_indexRow1 0 rfl Try.underlying23 ty_3 rfl rfl (by omega) (by omega)) ?_)
      refine gl_op (op_rd rfl (rd_load Try.underlying3 rfl rfl (ld_row 0 (off := 0) rfl (get_nats hkp))) ?_)
      refine gl_op (op_call rfl (vf := []) (vc := []) rfl rfl Try.call66 (fun w ho => rswitched_ok x.state _ w hxs2 (by omega)) ?_)
      rintro _ _ ⟨rfl, rfl⟩
      refine gl_op (op_rd rfl (rd_assign rfl) ?_)
      refine gl_nil ?_
      refine gx_block ?_
      refine gx_then ?_
      exact gx_cut (flip x.state (ks.getD 0 0)) ⟨hrg.cl.cl x hxm _ hkm, by have := topo hrg.cl he hxm hkm; omega⟩ ⟨rfl, rfl, rfl, trivial⟩ ⟨[2, 3, 4, 5], by decide, rfl⟩
    · skip
      refine gl_nil ?_
      refine gx_then ?_
      refine gc_cond_f rfl ?_
      refine gc_exit ?_
      refine gx_then_exit ?_
      refine gx_then_exit ?_
      refine gx_block_exit ?_
      refine gx_then ?_
      refine gc_seq ?_
      refine gc_region ?_
      refine gl_op (op_rd rfl (rd_move rfl) ?_)
      refine gl_op (op_rd rfl (rd_assign rfl) ?_)
      refine gl_op (op_rd rfl (rd_assign rfl) ?_)
      refine gl_nil ?_
      refine gx_then ?_
      refine gc_ret ?_
      refine gx_ret2 (.inl rfl) Try.results63 rfl rfl [] (by decide) ?_
      have hn : nextL c x.state inn = [] := by rw [hks]; exact List.eq_nil_of_length_eq_zero (by omega)
      exact ⟨by rw [if_pos (by omega), settled_unique hgd hr1 hs0 hn], rfl⟩

end Go.Proofs.Yteocjpnckciboaa

set_option autoImplicit false
set_option linter.unusedVariables false
namespace Go.Proofs.Yteocjpnckciboaa
open Go.Gv
open Go.RowKit
namespace Ry
structure Vd where
  good : Bool
  state : Nat
  inn : Nat
  rc : Rc
  err : Int
def zRc : Rc := ⟨0, [], []⟩
def pushS (l : List Nat) (s : Nat) : List Nat := if s ∈ l then l else l ++ [s]
def accIn (c : Circ) (s : Nat) : Nat → Nat → List Nat → Nat → Vd ⊕ (List Nat × Nat)
  | 0, _, l, work => .inr (l, work)
  | f + 1, im, l, work => match reachP c im [s] with
    | none => .inl ⟨false, 0, 0, zRc, 5⟩
    | some ns => if 20000 < work + ns.length then .inl ⟨false, 0, 0, zRc, 5⟩ else
        if (raceP c im ns).kind ≠ 0 then .inl ⟨false, s, im, raceP c im ns, 0⟩ else accIn c s f (im + 1) (pushS l (settledP c im ns)) (work + ns.length)
def accGo (c : Circ) : Nat → Nat → List Nat → Nat → Vd
  | 0, _, _, _ => ⟨true, 0, 0, zRc, 0⟩
  | f + 1, i, l, work => match l[i]? with
    | none => ⟨true, 0, 0, zRc, 0⟩
    | some s => match accIn c s (2 ^ c.inputs.toNat) 0 l work with
      | .inl v => v
      | .inr (l2, w2) => accGo c f (i + 1) l2 w2
def accK (c : Circ) (f i : Nat) : Vd ⊕ (List Nat × Nat) → Vd
  | .inl v => v
  | .inr (l2, w2) => accGo c f (i + 1) l2 w2
def acceptR (c : Circ) (st : Int) : Vd := if c.ready st 0 = 0 then accGo c 5000 0 [st.toNat] 0 else ⟨false, 0, 0, zRc, c.ready st 0⟩
section
variable {c : Circ}
theorem accGo_end {f i work : Nat} {l : List Nat} (h : l.length ≤ i) : accGo c f i l work = ⟨true, 0, 0, zRc, 0⟩ := by
  cases f with
  | zero => rfl
  | succ f => rw [accGo, List.getElem?_eq_none h]
theorem accGo_step {f i work s : Nat} {l : List Nat} (h : l[i]? = some s) : accGo c (f + 1) i l work = accK c f i (accIn c s (2 ^ c.inputs.toNat) 0 l work) := by
  rw [accGo, h]
  simp only
  cases accIn c s (2 ^ c.inputs.toNat) 0 l work with
  | inl v => rfl
  | inr p => rfl
theorem accIn_full {s f im work : Nat} {l : List Nat} (h : reachP c im [s] = none) : accIn c s (f + 1) im l work = .inl ⟨false, 0, 0, zRc, 5⟩ := by rw [accIn, h]
theorem accIn_big {s f im work : Nat} {l : List Nat} {ns : List Nd} (h : reachP c im [s] = some ns) (h2 : 20000 < work + ns.length) : accIn c s (f + 1) im l work = .inl ⟨false, 0, 0, zRc, 5⟩ := by rw [accIn, h]; simp only; rw [if_pos h2]
theorem accIn_race {s f im work : Nat} {l : List Nat} {ns : List Nd} (h : reachP c im [s] = some ns) (h2 : ¬ 20000 < work + ns.length) (h3 : (raceP c im ns).kind ≠ 0) : accIn c s (f + 1) im l work = .inl ⟨false, s, im, raceP c im ns, 0⟩ := by rw [accIn, h]; simp only; rw [if_neg h2, if_pos h3]
theorem accIn_step {s f im work : Nat} {l : List Nat} {ns : List Nd} (h : reachP c im [s] = some ns) (h2 : ¬ 20000 < work + ns.length) (h3 : (raceP c im ns).kind = 0) : accIn c s (f + 1) im l work = accIn c s f (im + 1) (pushS l (settledP c im ns)) (work + ns.length) := by rw [accIn, h]; simp only; rw [if_neg h2, if_neg (by simpa using h3)]
theorem push_t {l : List Nat} {s : Nat} (h : s ∈ l) : pushS l s = l := by simp [pushS, h]
theorem push_f {l : List Nat} {s : Nat} (h : ¬ s ∈ l) : pushS l s = l ++ [s] := by simp [pushS, h]
theorem push_nd {l : List Nat} {s : Nat} (hl : l.Nodup) (h : ¬ s ∈ l) : (l ++ [s]).Nodup := by
  rw [List.nodup_append]
  exact ⟨hl, by simp, fun a ha b hb e => by simp at hb; subst hb; subst e; exact h ha⟩
theorem push_lt {l : List Nat} {s n : Nat} (hl : ∀ x ∈ l, x < n) (h : s < n) : ∀ x ∈ l ++ [s], x < n := by
  intro x hx
  rcases List.mem_append.1 hx with hx | hx
  · exact hl x hx
  · simp at hx; subst hx; exact h
theorem get_push {l : List Nat} {i s x : Nat} (h : l[i]? = some x) : (l ++ [s])[i]? = some x := by rw [List.getElem?_append_left (List.getElem?_eq_some_iff.1 h).1]; exact h
theorem settled_lt {inn s : Nat} {ns : List Nd} (hg : c.Good) (hin : inn < 2 ^ c.inputs.toNat) (hs : s < 2 ^ c.gates.length) (hre : reachP c inn [s] = some ns) (hk : (raceP c inn ns).kind = 0) : settledP c inn ns < 2 ^ c.gates.length := by
  obtain ⟨k, x, _, h2, _, h4⟩ := settled_at ((facts c inn hin hg).rest s ns hs hre hk)
  rw [h4]
  exact (facts_gr hg hs hre).st x (List.mem_of_getElem? h2)
end
def runGo (c : Circ) : List Int → Int → List Nat → List Nat × Int
  | [], _, out => (out, 0)
  | i :: is, st, out => if (settleR c st i).2 ≠ 0 then ([], (settleR c st i).2) else runGo c is (settleR c st i).1 (out ++ [outB c (settleR c st i).1 i.toNat])
def runR (c : Circ) (st : Int) (ins : List Int) : List Nat × Int := if c.ready st 0 = 0 then runGo c ins st [] else ([], c.ready st 0)
theorem runGo_bad {c : Circ} {ins : List Int} {j : Nat} {st : Int} {out : List Nat} (hj : j < ins.length) (h : (settleR c st (ins.getD j 0)).2 ≠ 0) : runGo c (ins.drop j) st out = ([], (settleR c st (ins.getD j 0)).2) := by
  rw [List.drop_eq_getElem_cons hj, runGo]
  have : ins.getD j 0 = ins[j] := by simp [hj]
  rw [this] at h ⊢
  rw [if_pos h]
theorem runGo_step {c : Circ} {ins : List Int} {j : Nat} {st : Int} {out : List Nat} (hj : j < ins.length) (h : (settleR c st (ins.getD j 0)).2 = 0) : runGo c (ins.drop j) st out = runGo c (ins.drop (j + 1)) (settleR c st (ins.getD j 0)).1 (out ++ [outB c (settleR c st (ins.getD j 0)).1 (ins.getD j 0).toNat]) := by
  rw [List.drop_eq_getElem_cons hj, runGo]
  have : ins.getD j 0 = ins[j] := by simp [hj]
  rw [this] at h ⊢
  rw [if_neg (by simpa using h)]
end Ry
end Go.Proofs.Yteocjpnckciboaa

set_option autoImplicit false
set_option linter.unusedVariables false
namespace Go.Proofs.Yteocjpnckciboaa
open Go.Gv
open Go.RowKit
open Ry
set_option maxRecDepth 100000 in
set_option maxHeartbeats 1000000 in
theorem indexN_ok (zs : List Nat) (a : Option Addr) (cp n : Nat) (w0 : World) (hsl : OldSl w0 [] a zs.length 1 (zs.map natV)) (hb : zs.length ≤ 140737488355328) : Sp Try.prog 79 [.slice a zs.length cp, natV n] w0 [] (RV (.int .i64 (idx (fun z => z == n) zs 0))) := by
  refine spec_enter Try.func79 rfl Try.ntmps79 rfl (Own.refl _) ?_
  simp only [argEnv]
  refine gc_seq ?_
  refine gc_region ?_
  refine gl_op (op_rd rfl (rd_assign rfl) ?_)
  refine gl_nil ?_
  refine gx_then ?_
  refine gc_seq ?_
  refine gc_seq ?_
  refine gc_region ?_
  refine gl_op (op_rd rfl (rd_move rfl) ?_)
  refine gl_op (op_rd rfl (rd_lenSlice Try.underlying23 rfl) ?_)
  refine gl_op (op_rd rfl (rd_move rfl) ?_)
  refine gl_nil ?_
  refine gx_then ?_
  refine gc_block ?_
  refine gc_loopF (ι := Nat) [(0, _), (1, _), (7, _)] [] (fun j => j ≤ zs.length ∧ ∀ i, i < j → (zs.getD i 0 == n) = false) (fun j Fr0 => ((8, natV j) :: Fr0)) (fun j Fr0 => Fr0) (fun j => zs.length - j) 0 (⟨Nat.zero_le _, fun i h => absurd h (Nat.not_lt_zero i)⟩) ⟨rfl, rfl, rfl, rfl, trivial⟩ ⟨[], by decide, rfl⟩ ?_
  rintro k ⟨hk, hno⟩
  refine gc_seq ?_
  refine gc_region ?_
  refine gl_op (op_rd rfl (rd_lss rfl rfl) (gk_dec (fun hlt => ?_) (fun hlt => ?_)))
  · skip
    refine gl_nil ?_
    refine gx_then ?_
    refine gc_seq ?_
    refine gc_cond_t rfl ?_
    refine gc_skip ?_
    refine gx_then ?_
    refine gc_seq ?_
    refine gc_block ?_
    refine gc_seq ?_
    refine gc_region ?_
    refine gl_op (op_rd rfl (rd_move rfl) ?_)
    refine gl_op (op_rd rfl (rd_assign rfl) ?_)
    refine gl_nil ?_
    refine gx_then ?_
    refine gc_seq ?_
    refine gc_region ?_
    refine gl_op (op_rd rfl (rd_move rfl) ?_)
    refine gl_op (op_rd rfl (rd_move rfl) ?_)
    refine gl_op (op_rd rfl (rd_move rfl) ?_)
    refine gl_op (op_rd rfl (by first | exact rd_indexOld1 (by assumption) Try.underlying23 ty_3 rfl rfl (by omega) (by omega) | exact rd_index1 Try.underlying23 ty_3 rfl rfl (by omega) (by omega)) ?_)
    refine gl_op (op_rd rfl (rd_load Try.underlying3 rfl rfl (by first | exact ld_slN (by assumption) (get_nats (by omega)) | exact ld_slN (by assumption) (get_ints (by omega)) | exact ld_old (by assumption) (by simp) | exact ld_cells (by assumption) (by simp) rfl)) ?_)
    refine gl_op (op_rd rfl (rd_eql rfl rfl) (gk_dec (fun he => ?_) (fun he => ?_)))
    · skip
      have hpt : (zs.getD k 0 == n) = true := by rw [beq_iff_eq]; omega
      refine gl_nil ?_
      refine gx_then ?_
      refine gc_cond_t rfl ?_
      refine gc_seq ?_
      refine gc_region ?_
      refine gl_op (op_rd rfl (rd_move rfl) ?_)
      refine gl_op (op_rd rfl (rd_assign rfl) ?_)
      refine gl_nil ?_
      refine gx_then ?_
      refine gc_ret ?_
      refine gx_block_ret ?_
      refine gx_then_ret ?_
      refine gx_then_ret ?_
      refine gx_block_ret ?_
      refine gx_then_ret ?_
      refine gx_ret1 (.inl rfl) Try.results79 rfl [] (by decide) ?_
      exact ⟨by rw [idx_stop (fun z => z == n) 0 zs 0 k (by omega) hno hpt]; simp, rfl⟩
    · skip
      have hpf : (zs.getD k 0 == n) = false := by rw [beq_eq_false_iff_ne]; omega
      refine gl_nil ?_
      refine gx_then ?_
      refine gc_cond_f rfl ?_
      refine gc_skip ?_
      refine gx_block ?_
      refine gx_then ?_
      refine gc_region ?_
      refine gl_op (op_rd rfl (by first | exact rd_addN (b := 1) rfl rfl (by omega) | exact rd_add rfl rfl (by omega) (by omega)) ?_)
      refine gl_op (op_rd rfl (rd_move rfl) ?_)
      refine gl_nil ?_
      refine gx_then ?_
      exact gx_cut (k + 1) ⟨⟨by omega, fun i hi => by rcases Nat.lt_succ_iff_lt_or_eq.1 hi with h | rfl; exact hno i h; exact hpf⟩, by omega⟩ ⟨rfl, rfl, rfl, rfl, trivial⟩ ⟨[], by decide, rfl⟩
  · skip
    refine gl_nil ?_
    refine gx_then ?_
    refine gc_seq ?_
    refine gc_cond_f rfl ?_
    refine gc_exit ?_
    refine gx_then_exit ?_
    refine gx_then_exit ?_
    refine gx_block_exit ?_
    refine gx_then ?_
    refine gc_seq ?_
    refine gc_region ?_
    refine gl_op (op_rd rfl (rd_assign rfl) ?_)
    refine gl_nil ?_
    refine gx_then ?_
    refine gc_ret ?_
    refine gx_ret1 (.inl rfl) Try.results79 rfl [] (by decide) ?_
    exact ⟨by rw [idx_none (fun z => z == n) 0 zs 0 (fun j hj => hno j (by omega))], rfl⟩

set_option maxRecDepth 100000 in
set_option maxHeartbeats 1000000 in
theorem containsN_ok (zs : List Nat) (a : Option Addr) (cp n : Nat) (w0 : World) (hsl : OldSl w0 [] a zs.length 1 (zs.map natV)) (hb : zs.length ≤ 140737488355328) : Sp Try.prog 60 [.slice a zs.length cp, natV n] w0 [] (RV (.bool (decide (n ∈ zs)))) := by
  refine spec_enter Try.func60 rfl Try.ntmps60 rfl (Own.refl _) ?_
  simp only [argEnv]
  refine gc_seq ?_
  refine gc_region ?_
  refine gl_op (op_rd rfl (rd_assign rfl) ?_)
  refine gl_nil ?_
  refine gx_then ?_
  refine gc_seq ?_
  refine gc_region ?_
  refine gl_op (op_rd rfl (rd_move rfl) ?_)
  refine gl_op (op_rd rfl (rd_move rfl) ?_)
  refine gl_op (op_call rfl (vf := []) (vc := []) rfl rfl Try.call79 (fun w ho => indexN_ok zs a cp n w (hsl.at ho) hb) ?_)
  rintro _ _ ⟨rfl, rfl⟩
  refine gl_op (op_rd rfl (rd_geq rfl rfl) ?_)
  refine gl_op (op_rd rfl (rd_assign rfl) ?_)
  refine gl_nil ?_
  refine gx_then ?_
  refine gc_ret ?_
  refine gx_ret1 (.inl rfl) Try.results60 rfl [] (by decide) ?_
  refine ⟨congrArg Value.bool ?_, rfl⟩
  rw [idx_any, Bool.eq_iff_iff]
  simp

theorem rhas_nats_ok (zs : List Nat) (a : Option Addr) (cp : Nat) (n : Nat) (w0 : World) (hsl : OldSl w0 [] a zs.length 1 (zs.map natV)) (hb : zs.length ≤ 140737488355328) : Sp Try.prog 64 [.slice a zs.length cp, natV n] w0 [] (RV (.bool (decide (n ∈ zs)))) := by
  have h := rhas_ok (zs.map fun n : Nat => (n : Int)) a cp n w0 (by rw [natInt, List.length_map]; exact hsl) (by rw [List.length_map]; exact hb)
  rw [List.length_map] at h
  have e : decide ((n : Int) ∈ zs.map fun n : Nat => (n : Int)) = decide (n ∈ zs) := by
    rw [decide_eq_decide]
    simp only [List.mem_map]
    exact ⟨fun ⟨a, h1, h2⟩ => by have : a = n := by omega
                                 rw [← this]; exact h1, fun h => ⟨n, h, rfl⟩⟩
  rw [e] at h
  exact h

set_option maxRecDepth 100000 in
set_option maxHeartbeats 1000000 in
theorem Accept_ok (c : Circ) (st : Int) (w0 : World) (hc : c.In w0 []) (hst : st ≤ 9223372036854775807) : Sp Try.prog 26 [c.val, .int .i64 st] w0 [] (fun v l => ∃ ra ca rb cb, v = .tuple #[.agg #[.bool (acceptR c st).good, natV (acceptR c st).state, natV (acceptR c st).inn, natV (acceptR c st).rc.kind, .slice (rowA ra) (acceptR c st).rc.a.length ca, .slice (rowA rb) (acceptR c st).rc.b.length cb], .int .i64 (acceptR c st).err] ∧ l = [.row 3 1 ra (acceptR c st).rc.a.length ca ((acceptR c st).rc.a.map natV), .row 3 1 rb (acceptR c st).rc.b.length cb ((acceptR c st).rc.b.map natV)]) := by
  refine spec_enter Try.func26 rfl Try.ntmps26 rfl (Own.refl _) ?_
  simp only [argEnv]
  refine gc_seq ?_
  refine gc_region ?_
  refine gl_op (op_box rfl rfl rfl (fun b2 => ?_))
  refine gl_op (op_alloc ty_50 rfl rfl (fun b4 => ?_))
  refine gl_op (op_rd rfl (rd_assign rfl) ?_)
  refine gl_nil ?_
  refine gx_then ?_
  refine gc_seq ?_
  refine gc_seq ?_
  refine gc_region ?_
  refine gl_op (op_rd rfl (rd_move rfl) ?_)
  refine gl_op (op_call rfl (vf := []) (vc := []) rfl rfl Try.call45 (fun w ho => lay_ok c ⟨b2, 0, none⟩ st 0 w (hc.at ho) (ho.blkCells 1 rfl) hst (by decide)) ?_)
  rintro _ _ (⟨hr9, b9, rfl, rfl⟩ | ⟨hr9, rfl, rfl⟩)
  · skip
    refine gl_op (op_rd rfl (rd_move rfl) ?_)
    refine gl_op (op_rd rfl (rd_extract rfl rfl) ?_)
    refine gl_op (op_rd rfl (rd_extract rfl rfl) ?_)
    refine gl_op (op_rd rfl (rd_assign rfl) ?_)
    refine gl_op (op_rd rfl (rd_assign rfl) ?_)
    refine gl_nil ?_
    refine gx_then ?_
    refine gc_seq ?_
    refine gc_region ?_
    refine gl_op (op_rd rfl (rd_move rfl) ?_)
    refine gl_op (op_rd rfl (rd_neq rfl rfl) (gk_dec (fun hr => ?_) (fun hr => ?_)))
    · skip
      exact absurd rfl hr
    · skip
      have hr0 : c.ready st 0 = 0 := hr9
      obtain ⟨hck, h1, h2, h3, h4⟩ := Circ.of_ready hr0
      have hgd := Circ.good hck
      have hi0 := hgd.i0
      have hi8 := hgd.i8
      obtain ⟨sn, rfl⟩ : ∃ n : Nat, st = n := ⟨st.toNat, by omega⟩
      obtain ⟨ci, hci⟩ : ∃ n : Nat, c.inputs = n := ⟨c.inputs.toNat, by omega⟩
      have hcn : c.inputs.toNat = ci := by omega
      simp only [Int.toNat_natCast] at h2 ⊢
      have hA : acceptR c sn = accGo c 5000 0 [sn] 0 := by unfold acceptR; rw [if_pos hr0]; rfl
      have hp8 : 2 ^ ci ≤ 2 ^ 8 := Nat.pow_le_pow_right (by decide) (by omega)
      have hshl : 1 <<< ci = 2 ^ ci := one_shl ci
      have hg12 := hgd.g12
      have hpow : 2 ^ c.gates.length ≤ 2 ^ 12 := Nat.pow_le_pow_right (by decide) hg12
      have hN : 1 <<< c.gates.length ≤ 4096 := by rw [one_shl]; omega
      
      refine gl_nil ?_
      refine gx_then ?_
      refine gc_cond_f rfl ?_
      refine gc_skip ?_
      refine gx_then ?_
      refine gc_seq ?_
      refine gc_region ?_
      refine gl_op (op_rd rfl (rd_move rfl) ?_)
      refine gl_op (op_buildSlice (sz := 1) rfl rfl (fun _ => bs_23_1_0 _) rfl rfl (fun b27 => ?_))
      refine gl_op (op_rd rfl (rd_assign rfl) ?_)
      refine gl_op (op_rd rfl (rd_assign rfl) ?_)
      refine gl_nil ?_
      refine gx_then ?_
      refine gc_seq ?_
      refine gc_seq ?_
      refine gc_region ?_
      refine gl_op (op_rd rfl (rd_assign rfl) ?_)
      refine gl_nil ?_
      refine gx_then ?_
      refine gc_block ?_
      refine gc_loopF (ι := Nat × List Nat × Nat × Option Nat × Nat) [(2, _), (4, _)] [_, _, _] (fun j => j.1 ≤ j.2.1.length ∧ accGo c (5000 - j.1) j.1 j.2.1 j.2.2.1 = accGo c 5000 0 [sn] 0 ∧ j.2.1.Nodup ∧ (∀ x ∈ j.2.1, x < 2 ^ c.gates.length) ∧ j.2.2.1 ≤ 20000) (fun j Fr0 => ((10, natV j.1) :: (8, .slice (rowA j.2.2.2.1) j.2.1.length j.2.2.2.2) :: (9, natV j.2.2.1) :: Fr0)) (fun j Fr0 => (.row 3 1 j.2.2.2.1 j.2.1.length j.2.2.2.2 (j.2.1.map natV) :: Fr0)) (fun j => 5000 - j.1) (0, [sn], 0, some b27, 1) (⟨Nat.zero_le _, rfl, by simp, by simpa using h2, Nat.zero_le _⟩) ⟨rfl, rfl, rfl, rfl, rfl, trivial⟩ ⟨[0, 1, 2, 3], by decide, rfl⟩ ?_
      rintro ⟨i, l, wk, rl, cl⟩ ⟨hi, hgo, hnd, hlt, hwk⟩
      simp only at hi hgo hnd hlt hwk ⊢
      have hll := nodup_len _ l hnd hlt
      refine gc_seq ?_
      refine gc_seq ?_
      refine gc_region ?_
      refine gl_op (op_rd rfl (rd_move rfl) ?_)
      refine gl_op (op_rd rfl (rd_move rfl) ?_)
      refine gl_op (op_rd rfl (rd_lenSlice Try.underlying23 rfl) ?_)
      refine gl_op (op_rd rfl (rd_lss rfl rfl) (gk_dec (fun hlt0 => ?_) (fun hlt0 => ?_)))
      · skip
        obtain ⟨s, hsl⟩ : ∃ y, l[i]? = some y := ⟨l[i]'(by omega), List.getElem?_eq_getElem (by omega)⟩
        have hs := hlt s (List.mem_of_getElem? hsl)
        have hs12 := st_lt hgd hs
        rw [show 5000 - i = (4999 - i) + 1 by omega, accGo_step hsl, hcn] at hgo
        refine gl_nil ?_
        refine gx_then ?_
        refine gc_cond_t rfl ?_
        refine gc_skip ?_
        refine gx_then ?_
        refine gc_seq ?_
        refine gc_block ?_
        refine gc_seq ?_
        refine gc_region ?_
        refine gl_op (op_rd rfl (rd_fieldAddr rfl (fa_25_0 _)) ?_)
        refine gl_op (op_rd rfl (rd_load Try.underlying3 rfl rfl (by first | exact ld_blk 1 rfl rfl | exact ld_blk 2 rfl rfl | exact ld_blk 3 rfl rfl | exact ld_rowN 0 rfl (get_nats (by omega)) | exact ld_slN (by assumption) (get_nats (by omega)) | exact ld_rowN 0 rfl (get_ints (by omega)) | exact ld_slN (by assumption) (get_ints (by omega)) | exact ld_old (by assumption) (by simp) | exact ld_cells (by assumption) (by simp) rfl)) ?_)
        rw [hci]
        refine gl_op (op_rd rfl (rd_shl (a := 1) rfl rfl (by first | omega | (rw [← hshl]; omega) | (simp; omega)) (by first | omega | (rw [← hshl]; omega) | (simp; omega))) ?_)
        refine gl_op (op_rd rfl (rd_move rfl) ?_)
        refine gl_nil ?_
        refine gx_then ?_
        refine gc_block ?_
        refine gc_loopF (ι := Nat × List Nat × Nat × Option Nat × Nat) [(2, _), (4, _), (10, _), (36, _)] [_, _, _] (fun j => j.1 ≤ 2 ^ ci ∧ accK c (4999 - i) i (accIn c s (2 ^ ci - j.1) j.1 j.2.1 j.2.2.1) = accGo c 5000 0 [sn] 0 ∧ j.2.1.Nodup ∧ (∀ x ∈ j.2.1, x < 2 ^ c.gates.length) ∧ j.2.2.1 ≤ 20000 ∧ j.2.1[i]? = some s) (fun j Fr0 => ((37, natV j.1) :: (8, .slice (rowA j.2.2.2.1) j.2.1.length j.2.2.2.2) :: (9, natV j.2.2.1) :: Fr0)) (fun j Fr0 => (.row 3 1 j.2.2.2.1 j.2.1.length j.2.2.2.2 (j.2.1.map natV) :: Fr0)) (fun j => 2 ^ ci - j.1) (0, l, wk, rl, cl) (⟨Nat.zero_le _, hgo, hnd, hlt, hwk, hsl⟩) ⟨rfl, rfl, rfl, rfl, rfl, rfl, rfl, trivial⟩ ⟨[0, 1, 2, 3], by decide, rfl⟩ ?_
        rintro ⟨im, l, wk, rl, cl⟩ ⟨him, hgo2, hnd, hlt, hwk, hsl⟩
        simp only at him hgo2 hnd hlt hwk hsl ⊢
        have hll := nodup_len _ l hnd hlt
        have hil := (List.getElem?_eq_some_iff.1 hsl).1
        have hsd : l.getD i 0 = s := by simp [List.getD, hsl]
        refine gc_seq ?_
        refine gc_region ?_
        refine gl_op (op_rd rfl (rd_lss rfl rfl) (gk_dec (fun hlt1 => ?_) (fun hlt1 => ?_)))
        · skip
          have himl : im < 2 ^ c.inputs.toNat := by rw [hcn]; omega
          have him8 := in_lt hgd himl
          have hrdy := ready_nat hck hs himl
          refine gl_nil ?_
          refine gx_then ?_
          refine gc_seq ?_
          refine gc_cond_t rfl ?_
          refine gc_skip ?_
          refine gx_then ?_
          refine gc_seq ?_
          refine gc_block ?_
          refine gc_seq ?_
          refine gc_region ?_
          refine gl_op (op_rd rfl (rd_move rfl) ?_)
          refine gl_op (op_rd rfl (rd_assign rfl) ?_)
          refine gl_nil ?_
          refine gx_then ?_
          refine gc_seq ?_
          refine gc_region ?_
          refine gl_op (op_rd rfl (rd_move rfl) ?_)
          refine gl_op (op_rd rfl (rd_move rfl) ?_)
          refine gl_op (op_rd rfl (rd_indexRow1 0 rfl Try.underlying23 ty_3 rfl rfl (by omega) (by omega)) ?_)
          refine gl_op (op_rd rfl (rd_load Try.underlying3 rfl rfl (ld_rowN 0 rfl (get_nats (by omega)))) ?_)
          refine gl_op (op_rd rfl (rd_move rfl) ?_)
          rw [hsd]
          refine gl_op (op_call rfl (vf := []) (vc := []) rfl rfl Try.call38 (fun w ho => explore_ok c ⟨b2, 0, none⟩ s im w (hc.at ho) (ho.blkCells 3 rfl) (by omega) (by omega)) ?_)
          rintro _ _ (⟨hr, ns, b, G, m, r, cp, hre, rfl, rfl⟩ | ⟨hr, hre, rfl, rfl⟩ | ⟨hr, rfl, rfl⟩)
          · skip
            simp only [Int.toNat_natCast] at hre
            have hgr := facts_gr hgd hs hre
            have hnl := hgr.len
            refine gl_op (op_rd rfl (rd_move rfl) ?_)
            refine gl_op (op_rd rfl (rd_extract rfl rfl) ?_)
            refine gl_op (op_rd rfl (rd_extract rfl rfl) ?_)
            refine gl_op (op_rd rfl (rd_extract rfl rfl) ?_)
            refine gl_op (op_rd rfl (rd_assign rfl) ?_)
            refine gl_op (op_rd rfl (rd_assign rfl) ?_)
            refine gl_op (op_rd rfl (rd_assign rfl) ?_)
            refine gl_nil ?_
            refine gx_then ?_
            refine gc_seq ?_
            refine gc_seq ?_
            refine gc_region ?_
            refine gl_op (op_rd rfl (rd_move rfl) ?_)
            refine gl_op (op_rd rfl (rd_neq rfl rfl) (gk_dec (fun he => ?_) (fun he => ?_)))
            · skip
              exact absurd he (by simp)
            · skip
              refine gl_nil ?_
              refine gx_then ?_
              refine gc_cond_f rfl ?_
              refine gc_skip ?_
              refine gx_then ?_
              refine gc_seq ?_
              refine gc_seq ?_
              refine gc_region ?_
              refine gl_op (op_rd rfl (rd_move rfl) ?_)
              refine gl_op (op_rd rfl (rd_move rfl) ?_)
              refine gl_op (op_rd rfl (rd_nilCheck rfl) ?_)
              refine gl_op (op_rd rfl (rd_fieldAddr rfl (fa_70_0 _)) ?_)
              refine gl_op (op_rd rfl (rd_load Try.underlying67 rfl rfl (by first | exact ld_blk 0 rfl rfl | exact ld_blk 3 rfl rfl | exact ld_blk 5 rfl rfl | exact ld_blk 6 rfl rfl | exact ld_blk 7 rfl rfl | exact ld_old (by assumption) (by simp) | exact ld_cells (by assumption) (by simp) rfl)) ?_)
              refine gl_op (op_rd rfl (rd_lenSlice Try.underlying67 rfl) ?_)
              refine gl_op (op_rd rfl (by first | exact rd_addN rfl rfl (by omega) | exact rd_add rfl rfl (by omega) (by omega)) ?_)
              refine gl_op (op_rd rfl (rd_assign rfl) ?_)
              refine gl_nil ?_
              refine gx_then ?_
              refine gc_seq ?_
              refine gc_region ?_
              refine gl_op (op_rd rfl (rd_move rfl) ?_)
              refine gl_op (op_rd rfl (rd_gtr rfl rfl) (gk_dec (fun hbig => ?_) (fun hbig => ?_)))
              · skip
                refine gl_nil ?_
                refine gx_then ?_
                refine gc_cond_t rfl ?_
                refine gc_seq ?_
                refine gk_nil 3 1 ?_
                refine gk_nil 3 1 ?_
                refine gc_region ?_
                refine gl_op (op_rd rfl (rd_build rfl (fun _ => bd_50_)) ?_)
                first | refine gl_op (op_storeAgg 2 ty_50 rfl rfl rfl rfl rfl rfl (by first | rfl | (simp only [List.set_cons_succ, List.set_cons_zero]; exact rfl)) ?_) | refine gl_op (op_storeAgg 5 ty_50 rfl rfl rfl rfl rfl rfl (by first | rfl | (simp only [List.set_cons_succ, List.set_cons_zero]; exact rfl)) ?_) | refine gl_op (op_storeAgg 7 ty_50 rfl rfl rfl rfl rfl rfl (by first | rfl | (simp only [List.set_cons_succ, List.set_cons_zero]; exact rfl)) ?_) | refine gl_op (op_storeAgg 8 ty_50 rfl rfl rfl rfl rfl rfl (by first | rfl | (simp only [List.set_cons_succ, List.set_cons_zero]; exact rfl)) ?_) | refine gl_op (op_storeAgg 9 ty_50 rfl rfl rfl rfl rfl rfl (by first | rfl | (simp only [List.set_cons_succ, List.set_cons_zero]; exact rfl)) ?_)
                refine gl_op (op_rd rfl (rd_assign rfl) ?_)
                refine gl_nil ?_
                refine gx_then ?_
                refine gc_ret ?_
                refine gx_then_ret ?_
                refine gx_block_ret ?_
                refine gx_then_ret ?_
                refine gx_then_ret ?_
                refine gx_block_ret ?_
                refine gx_block_ret ?_
                refine gx_then_ret ?_
                refine gx_then_ret ?_
                refine gx_block_ret ?_
                refine gx_then_ret ?_
                refine gx_retV2 (.inl rfl) Try.results26 (rv_agg Try.underlying50 rfl ty_50 rfl (by rfl) (cs_blk 8 (off := 0) (k := 6) rfl rfl)) (rv_tmp rfl) [0, 1] (by decide) ?_
                rw [hA, ← hgo2, show 2 ^ ci - im = (2 ^ ci - (im + 1)) + 1 by omega, accIn_big hre (by omega)]
                exact ⟨none, 0, none, 0, rfl, rfl⟩
              · skip
                refine gl_nil ?_
                refine gx_then ?_
                refine gc_cond_f rfl ?_
                refine gc_skip ?_
                refine gx_then ?_
                refine gc_seq ?_
                refine gc_seq ?_
                refine gc_region ?_
                refine gl_op (op_rd rfl (rd_move rfl) ?_)
                refine gl_op (op_rd rfl (rd_move rfl) ?_)
                refine gl_op (op_call rfl (vf := []) (vc := []) rfl rfl Try.call39 (fun w ho => race_ok c ⟨b, 0, none⟩ ⟨b2, 0, none⟩ im ns ⟨G, 0, none⟩ (rowA r) cp m w ⟨ho.blkCells 3 rfl, ho.blkCells 7 rfl, hc.at ho⟩ (GraphIn.mk' ho 0 1 2 rfl rfl rfl) hgr hgd himl) ?_)
                rintro _ _ ⟨ra, ca, rb, cb, rfl, rfl⟩
                refine gl_op (op_alloc ty_40 rfl rfl (fun b15 => ?_))
                first | refine gl_op (op_storeAgg 0 ty_40 rfl rfl rfl rfl rfl rfl (by first | rfl | (simp only [List.set_cons_succ, List.set_cons_zero]; exact rfl)) ?_) | refine gl_op (op_storeAgg 3 ty_40 rfl rfl rfl rfl rfl rfl (by first | rfl | (simp only [List.set_cons_succ, List.set_cons_zero]; exact rfl)) ?_) | refine gl_op (op_storeAgg 6 ty_40 rfl rfl rfl rfl rfl rfl (by first | rfl | (simp only [List.set_cons_succ, List.set_cons_zero]; exact rfl)) ?_) | refine gl_op (op_storeAgg 8 ty_40 rfl rfl rfl rfl rfl rfl (by first | rfl | (simp only [List.set_cons_succ, List.set_cons_zero]; exact rfl)) ?_) | refine gl_op (op_storeAgg 9 ty_40 rfl rfl rfl rfl rfl rfl (by first | rfl | (simp only [List.set_cons_succ, List.set_cons_zero]; exact rfl)) ?_) | refine gl_op (op_storeAgg 10 ty_40 rfl rfl rfl rfl rfl rfl (by first | rfl | (simp only [List.set_cons_succ, List.set_cons_zero]; exact rfl)) ?_)
                refine gl_nil ?_
                refine gx_then ?_
                refine gc_seq ?_
                refine gc_region ?_
                refine gl_op (op_rd rfl (rd_fieldAddr rfl (fa_40_0 _)) ?_)
                refine gl_op (op_rd rfl (rd_load Try.underlying3 rfl rfl (by first | exact ld_blk 0 rfl rfl | exact ld_blk 3 rfl rfl | exact ld_blk 6 rfl rfl | exact ld_blk 8 rfl rfl | exact ld_blk 9 rfl rfl | exact ld_blk 10 rfl rfl | exact ld_rowN 1 rfl (get_nats (by omega)) | exact ld_rowN 2 rfl (get_nats (by omega)) | exact ld_rowN 4 rfl (get_nats (by omega)) | exact ld_rowN 7 rfl (get_nats (by omega)) | exact ld_slN (by assumption) (get_nats (by omega)) | exact ld_rowN 1 rfl (get_ints (by omega)) | exact ld_rowN 2 rfl (get_ints (by omega)) | exact ld_rowN 4 rfl (get_ints (by omega)) | exact ld_rowN 7 rfl (get_ints (by omega)) | exact ld_slN (by assumption) (get_ints (by omega)) | exact ld_old (by assumption) (by simp) | exact ld_cells (by assumption) (by simp) rfl)) ?_)
                refine gl_op (op_rd rfl (rd_neq rfl rfl) (gk_dec (fun hk => ?_) (fun hk => ?_)))
                · skip
                  refine gl_nil ?_
                  refine gx_then ?_
                  refine gc_cond_t rfl ?_
                  refine gc_seq ?_
                  refine gc_drawP [0, 1, 2, 3, 4, 5, 6, 7, 8, 9, 10] false 7 rfl ?_
                  refine ga_first 0 #[true, false, false, false, false, false, false, false, false] rfl rfl rfl rfl (by kernel_rfl) rfl ⟨[0, 1, 2, 3, 4, 5, 6, 7, 8, 9, 10], by decide, rfl⟩ (qt_rd (rd_move rfl)) ?_
                  refine ga_first 1 #[true, true, false, false, false, false, false, false, false] rfl rfl rfl rfl (by kernel_rfl) rfl ⟨[0, 1, 2, 3, 4, 5, 6, 7, 8, 9, 10], by decide, rfl⟩ (qt_rd (rd_move rfl)) ?_
                  refine ga_first 2 #[true, true, true, false, false, false, false, false, false] rfl rfl rfl rfl (by kernel_rfl) rfl ⟨[0, 1, 2, 3, 4, 5, 6, 7, 8, 9, 10], by decide, rfl⟩ (qt_rd (by first | exact rd_indexRow1 1 rfl Try.underlying23 ty_3 rfl rfl (by omega) (by omega) | exact rd_indexRow1 2 rfl Try.underlying23 ty_3 rfl rfl (by omega) (by omega) | exact rd_indexRow1 4 rfl Try.underlying23 ty_3 rfl rfl (by omega) (by omega) | exact rd_indexRow1 7 rfl Try.underlying23 ty_3 rfl rfl (by omega) (by omega) | exact rd_indexOld1 (by assumption) Try.underlying23 ty_3 rfl rfl (by omega) (by omega) | exact rd_index1 Try.underlying23 ty_3 rfl rfl (by omega) (by omega))) ?_
                  refine ga_first 3 #[true, true, true, true, false, false, false, false, false] rfl rfl rfl rfl (by kernel_rfl) rfl ⟨[0, 1, 2, 3, 4, 5, 6, 7, 8, 9, 10], by decide, rfl⟩ (qt_rd (rd_load Try.underlying3 rfl rfl (by first | exact ld_rowN 0 rfl (get_nats (by omega)) | exact ld_rowN 1 rfl (get_nats (by omega)) | exact ld_rowN 2 rfl (get_nats (by omega)) | exact ld_rowN 3 rfl (get_nats (by omega)) | exact ld_rowN 4 rfl (get_nats (by omega)) | exact ld_rowN 5 rfl (get_nats (by omega)) | exact ld_rowN 6 rfl (get_nats (by omega)) | exact ld_rowN 7 rfl (get_nats (by omega)) | exact ld_rowN 8 rfl (get_nats (by omega)) | exact ld_rowN 9 rfl (get_nats (by omega)) | exact ld_rowN 10 rfl (get_nats (by omega)) | exact ld_rowN 11 rfl (get_nats (by omega))))) ?_
                  rw [hsd]
                  refine ga_first 4 #[true, true, true, true, true, false, false, false, false] rfl rfl rfl rfl (by kernel_rfl) rfl ⟨[0, 1, 2, 3, 4, 5, 6, 7, 8, 9, 10], by decide, rfl⟩ (qt_rd (rd_move rfl)) ?_
                  refine ga_first 5 #[true, true, true, true, true, true, false, false, false] rfl rfl rfl rfl (by kernel_rfl) rfl ⟨[0, 1, 2, 3, 4, 5, 6, 7, 8, 9, 10], by decide, rfl⟩ (qt_rd (rd_loadAgg Try.underlying40 rfl ty_40 rfl (by first | exact cs_blk 0 (off := 0) (k := 3) rfl rfl | exact cs_blk 3 (off := 0) (k := 3) rfl rfl | exact cs_blk 6 (off := 0) (k := 3) rfl rfl | exact cs_blk 8 (off := 0) (k := 3) rfl rfl | exact cs_blk 9 (off := 0) (k := 3) rfl rfl | exact cs_blk 10 (off := 0) (k := 3) rfl rfl | exact cs_old (by assumption) (by simp)) rfl)) ?_
                  refine ga_first 6 #[true, true, true, true, true, true, true, false, false] rfl rfl rfl rfl (by kernel_rfl) rfl ⟨[0, 1, 2, 3, 4, 5, 6, 7, 8, 9, 10], by decide, rfl⟩ (qt_rd (rd_build rfl (fun _ => bd_50_1_2_3 _ _ _ _ _ _ _ _ _))) ?_
                  first | refine ga_only 7 #[true, true, true, true, true, true, true, true, false] rfl rfl (by kernel_rfl) rfl (.inr ⟨[0, 1, 2, 3, 4, 5, 6, 7, 8, 9, 10], by decide, rfl⟩) (op_storeAgg 0 ty_50 rfl rfl rfl rfl rfl rfl (by first | rfl | (simp only [List.set_cons_succ, List.set_cons_zero]; exact rfl)) ?_) | refine ga_only 7 #[true, true, true, true, true, true, true, true, false] rfl rfl (by kernel_rfl) rfl (.inr ⟨[0, 1, 2, 3, 4, 5, 6, 7, 8, 9, 10], by decide, rfl⟩) (op_storeAgg 3 ty_50 rfl rfl rfl rfl rfl rfl (by first | rfl | (simp only [List.set_cons_succ, List.set_cons_zero]; exact rfl)) ?_) | refine ga_only 7 #[true, true, true, true, true, true, true, true, false] rfl rfl (by kernel_rfl) rfl (.inr ⟨[0, 1, 2, 3, 4, 5, 6, 7, 8, 9, 10], by decide, rfl⟩) (op_storeAgg 6 ty_50 rfl rfl rfl rfl rfl rfl (by first | rfl | (simp only [List.set_cons_succ, List.set_cons_zero]; exact rfl)) ?_) | refine ga_only 7 #[true, true, true, true, true, true, true, true, false] rfl rfl (by kernel_rfl) rfl (.inr ⟨[0, 1, 2, 3, 4, 5, 6, 7, 8, 9, 10], by decide, rfl⟩) (op_storeAgg 8 ty_50 rfl rfl rfl rfl rfl rfl (by first | rfl | (simp only [List.set_cons_succ, List.set_cons_zero]; exact rfl)) ?_) | refine ga_only 7 #[true, true, true, true, true, true, true, true, false] rfl rfl (by kernel_rfl) rfl (.inr ⟨[0, 1, 2, 3, 4, 5, 6, 7, 8, 9, 10], by decide, rfl⟩) (op_storeAgg 9 ty_50 rfl rfl rfl rfl rfl rfl (by first | rfl | (simp only [List.set_cons_succ, List.set_cons_zero]; exact rfl)) ?_) | refine ga_only 7 #[true, true, true, true, true, true, true, true, false] rfl rfl (by kernel_rfl) rfl (.inr ⟨[0, 1, 2, 3, 4, 5, 6, 7, 8, 9, 10], by decide, rfl⟩) (op_storeAgg 10 ty_50 rfl rfl rfl rfl rfl rfl (by first | rfl | (simp only [List.set_cons_succ, List.set_cons_zero]; exact rfl)) ?_)
                  refine ga_only 8 #[true, true, true, true, true, true, true, true, true] rfl rfl (by kernel_rfl) rfl (.inl (by kernel_rfl)) (op_rd rfl (rd_assign rfl) ?_)
                  refine ga_end (by kernel_rfl) (.inl (by kernel_rfl)) ?_
                  refine gx_then ?_
                  refine gc_ret ?_
                  refine gx_then_ret ?_
                  refine gx_block_ret ?_
                  refine gx_then_ret ?_
                  refine gx_then_ret ?_
                  refine gx_block_ret ?_
                  refine gx_block_ret ?_
                  refine gx_then_ret ?_
                  refine gx_then_ret ?_
                  refine gx_block_ret ?_
                  refine gx_then_ret ?_
                  refine gx_retV2 (.inl rfl) Try.results26 (rv_agg Try.underlying50 rfl ty_50 rfl (by rfl) (cs_blk 9 (off := 0) (k := 6) rfl rfl)) (rv_tmp rfl) [1, 2] (by decide) ?_
                  rw [hA, ← hgo2, show 2 ^ ci - im = (2 ^ ci - (im + 1)) + 1 by omega, accIn_race hre (by omega) (by omega)]
                  exact ⟨ra, ca, rb, cb, rfl, rfl⟩
                · skip
                  have hk0 : (raceP c im ns).kind = 0 := by omega
                  have hsetl := settled_lt hgd himl hs hre hk0
                  have hset12 := st_lt hgd hsetl
                  refine gl_nil ?_
                  refine gx_then ?_
                  refine gc_cond_f rfl ?_
                  refine gc_skip ?_
                  refine gx_then ?_
                  refine gc_seq ?_
                  refine gc_region ?_
                  refine gl_op (op_rd rfl (rd_move rfl) ?_)
                  refine gl_op (op_call rfl (vf := []) (vc := []) rfl rfl Try.call40 (fun w ho => settled_ok c im ns ⟨G, 0, none⟩ (rowA r) cp m w (GraphIn.mk' ho 3 4 5 rfl rfl rfl) (by omega) ((facts c im himl hgd).rest s ns hs hre hk0)) ?_)
                  rintro _ _ ⟨rfl, rfl⟩
                  refine gl_op (op_rd rfl (rd_assign rfl) ?_)
                  refine gl_nil ?_
                  refine gx_then ?_
                  refine gc_seq ?_
                  refine gc_region ?_
                  refine gl_op (op_rd rfl (rd_move rfl) ?_)
                  refine gl_op (op_rd rfl (rd_move rfl) ?_)
                  refine gl_op (op_call rfl (vf := []) (vc := []) rfl rfl Try.call60 (fun w ho => containsN_ok l (rowA rl) cl _ w (ho.rowSl 7 rfl) (by omega)) ?_)
                  rintro _ _ ⟨rfl, rfl⟩
                  refine gk_bool (fun hmm => ?_) (fun hmm => ?_)
                  · skip
                    have hmem := of_decide_eq_true hmm
                    refine gl_op (op_rd rfl (rd_not rfl) ?_)
                    refine gl_nil ?_
                    refine gx_then ?_
                    refine gc_cond_f rfl ?_
                    refine gc_skip ?_
                    refine gx_block ?_
                    refine gx_then ?_
                    refine gc_region ?_
                    refine gl_op (op_rd rfl (by first | exact rd_addN (b := 1) rfl rfl (by omega) | exact rd_add rfl rfl (by omega) (by omega)) ?_)
                    refine gl_op (op_rd rfl (rd_move rfl) ?_)
                    refine gl_nil ?_
                    refine gx_then ?_
                    exact gx_cut ((im + 1, l, wk + ns.length, rl, cl)) ⟨⟨by simp only; omega, by simp only; rw [← hgo2, show 2 ^ ci - im = (2 ^ ci - (im + 1)) + 1 by omega, accIn_step hre (by omega) (by omega), push_t hmem], hnd, hlt, by simp only; omega, hsl⟩, by simp only; omega⟩ ⟨rfl, rfl, rfl, rfl, rfl, rfl, rfl, trivial⟩ ⟨[7, 8, 9, 10], by decide, rfl⟩
                  · skip
                    have hmem := of_decide_eq_false hmm
                    refine gl_op (op_rd rfl (rd_not rfl) ?_)
                    refine gl_nil ?_
                    refine gx_then ?_
                    refine gc_cond_t rfl ?_
                    refine gc_region ?_
                    refine gl_op (op_rd rfl (rd_move rfl) ?_)
                    refine gl_op (op_rd rfl (rd_move rfl) ?_)
                    refine gl_op (op_buildSlice (sz := 1) rfl rfl (fun _ => bs_23_1_0 _) rfl rfl (fun b85 => ?_))
                    refine gl_op (op_appendRow 8 0 Try.underlying23 ty_3 rfl (by decide) rfl rfl rfl rfl rfl (by simp [Value.oneCell']) (by omega) (by omega) (fun _ => (by first | rfl | (simp only [List.set_cons_succ, List.set_cons_zero]; exact rfl))) (fun r86 c86 => ?_))
                    refine gl_op (op_rd rfl (rd_assign rfl) ?_)
                    refine gl_nil ?_
                    refine gx_block ?_
                    refine gx_then ?_
                    rw [snocN, snoc_len l (settledP c im ns)]
                    refine gc_region ?_
                    refine gl_op (op_rd rfl (by first | exact rd_addN (b := 1) rfl rfl (by omega) | exact rd_add rfl rfl (by omega) (by omega)) ?_)
                    refine gl_op (op_rd rfl (rd_move rfl) ?_)
                    refine gl_nil ?_
                    refine gx_then ?_
                    exact gx_cut ((im + 1, l ++ [settledP c im ns], wk + ns.length, r86, c86)) ⟨⟨by simp only; omega, by simp only; rw [← hgo2, show 2 ^ ci - im = (2 ^ ci - (im + 1)) + 1 by omega, accIn_step hre (by omega) (by omega), push_f hmem], push_nd hnd hmem, push_lt hlt hsetl, by simp only; omega, get_push hsl⟩, by simp only; omega⟩ ⟨rfl, rfl, rfl, rfl, rfl, rfl, rfl, trivial⟩ ⟨[8, 9, 10, 11], by decide, rfl⟩
          · skip
            simp only [Int.toNat_natCast] at hre
            refine gl_op (op_rd rfl (rd_move rfl) ?_)
            refine gl_op (op_rd rfl (rd_extract rfl rfl) ?_)
            refine gl_op (op_rd rfl (rd_extract rfl rfl) ?_)
            refine gl_op (op_rd rfl (rd_extract rfl rfl) ?_)
            refine gl_op (op_rd rfl (rd_assign rfl) ?_)
            refine gl_op (op_rd rfl (rd_assign rfl) ?_)
            refine gl_op (op_rd rfl (rd_assign rfl) ?_)
            refine gl_nil ?_
            refine gx_then ?_
            refine gc_seq ?_
            refine gc_seq ?_
            refine gc_region ?_
            refine gl_op (op_rd rfl (rd_move rfl) ?_)
            refine gl_op (op_rd rfl (rd_neq rfl rfl) (gk_dec (fun he => ?_) (fun he => ?_)))
            · skip
              refine gl_nil ?_
              refine gx_then ?_
              refine gc_cond_t rfl ?_
              refine gc_seq ?_
              refine gk_nil 3 1 ?_
              refine gk_nil 3 1 ?_
              refine gc_region ?_
              refine gl_op (op_rd rfl (rd_build rfl (fun _ => bd_50_)) ?_)
              refine gl_op (op_rd rfl (rd_move rfl) ?_)
              first | refine gl_op (op_storeAgg 3 ty_50 rfl rfl rfl rfl rfl rfl (by first | rfl | (simp only [List.set_cons_succ, List.set_cons_zero]; exact rfl)) ?_) | refine gl_op (op_storeAgg 4 ty_50 rfl rfl rfl rfl rfl rfl (by first | rfl | (simp only [List.set_cons_succ, List.set_cons_zero]; exact rfl)) ?_) | refine gl_op (op_storeAgg 5 ty_50 rfl rfl rfl rfl rfl rfl (by first | rfl | (simp only [List.set_cons_succ, List.set_cons_zero]; exact rfl)) ?_)
              refine gl_op (op_rd rfl (rd_assign rfl) ?_)
              refine gl_nil ?_
              refine gx_then ?_
              refine gc_ret ?_
              refine gx_then_ret ?_
              refine gx_block_ret ?_
              refine gx_then_ret ?_
              refine gx_then_ret ?_
              refine gx_block_ret ?_
              refine gx_block_ret ?_
              refine gx_then_ret ?_
              refine gx_then_ret ?_
              refine gx_block_ret ?_
              refine gx_then_ret ?_
              refine gx_retV2 (.inl rfl) Try.results26 (rv_agg Try.underlying50 rfl ty_50 rfl (by rfl) (cs_blk 4 (off := 0) (k := 6) rfl rfl)) (rv_tmp rfl) [0, 1] (by decide) ?_
              rw [hA, ← hgo2, show 2 ^ ci - im = (2 ^ ci - (im + 1)) + 1 by omega, accIn_full hre]
              exact ⟨none, 0, none, 0, rfl, rfl⟩
            · skip
              exact absurd he (by simp)
          · skip
            exact absurd hrdy hr
        · skip
          refine gl_nil ?_
          refine gx_then ?_
          refine gc_seq ?_
          refine gc_cond_f rfl ?_
          refine gc_exit ?_
          refine gx_then_exit ?_
          refine gx_then_exit ?_
          refine gx_block_exit ?_
          refine gx_block ?_
          refine gx_then ?_
          refine gc_region ?_
          refine gl_op (op_rd rfl (rd_move rfl) ?_)
          refine gl_op (op_rd rfl (by first | exact rd_addN (b := 1) rfl rfl (by omega) | exact rd_add rfl rfl (by omega) (by omega)) ?_)
          refine gl_op (op_rd rfl (rd_assign rfl) ?_)
          refine gl_nil ?_
          refine gx_then ?_
          exact gx_cut ((i + 1, l, wk, rl, cl)) ⟨⟨hil, by simp only; rw [← hgo2, show 2 ^ ci - im = 0 by omega, show 5000 - (i + 1) = 4999 - i by omega]; rfl, hnd, hlt, hwk⟩, by simp only; omega⟩ ⟨rfl, rfl, rfl, rfl, rfl, trivial⟩ ⟨[0, 1, 2, 3], by decide, rfl⟩
      · skip
        refine gl_nil ?_
        refine gx_then ?_
        refine gc_cond_f rfl ?_
        refine gc_exit ?_
        refine gx_then_exit ?_
        refine gx_then_exit ?_
        refine gx_block_exit ?_
        refine gx_then ?_
        refine gc_seq ?_
        refine gk_nil 3 1 ?_
        refine gk_nil 3 1 ?_
        refine gc_region ?_
        refine gl_op (op_rd rfl (rd_build rfl (fun _ => bd_50_0 _)) ?_)
        first | refine gl_op (op_storeAgg 3 ty_50 rfl rfl rfl rfl rfl rfl (by first | rfl | (simp only [List.set_cons_succ, List.set_cons_zero]; exact rfl)) ?_) | refine gl_op (op_storeAgg 4 ty_50 rfl rfl rfl rfl rfl rfl (by first | rfl | (simp only [List.set_cons_succ, List.set_cons_zero]; exact rfl)) ?_) | refine gl_op (op_storeAgg 5 ty_50 rfl rfl rfl rfl rfl rfl (by first | rfl | (simp only [List.set_cons_succ, List.set_cons_zero]; exact rfl)) ?_)
        refine gl_op (op_rd rfl (rd_assign rfl) ?_)
        refine gl_nil ?_
        refine gx_then ?_
        refine gc_ret ?_
        refine gx_retV2 (.inl rfl) Try.results26 (rv_agg Try.underlying50 rfl ty_50 rfl (by rfl) (cs_blk 4 (off := 0) (k := 6) rfl rfl)) (rv_tmp rfl) [0, 1] (by decide) ?_
        rw [hA, ← hgo, accGo_end (by omega)]
        exact ⟨none, 0, none, 0, rfl, rfl⟩
  · skip
    refine gl_op (op_rd rfl (rd_move rfl) ?_)
    refine gl_op (op_rd rfl (rd_extract rfl rfl) ?_)
    refine gl_op (op_rd rfl (rd_extract rfl rfl) ?_)
    refine gl_op (op_rd rfl (rd_assign rfl) ?_)
    refine gl_op (op_rd rfl (rd_assign rfl) ?_)
    refine gl_nil ?_
    refine gx_then ?_
    refine gc_seq ?_
    refine gc_region ?_
    refine gl_op (op_rd rfl (rd_move rfl) ?_)
    refine gl_op (op_rd rfl (rd_neq rfl rfl) (gk_dec (fun hr => ?_) (fun hr => ?_)))
    · skip
      refine gl_nil ?_
      refine gx_then ?_
      refine gc_cond_t rfl ?_
      refine gc_seq ?_
      refine gk_nil 3 1 ?_
      refine gk_nil 3 1 ?_
      refine gc_region ?_
      refine gl_op (op_rd rfl (rd_build rfl (fun _ => bd_50_)) ?_)
      refine gl_op (op_rd rfl (rd_move rfl) ?_)
      first | refine gl_op (op_storeAgg 2 ty_50 rfl rfl rfl rfl rfl rfl (by first | rfl | (simp only [List.set_cons_succ, List.set_cons_zero]; exact rfl)) ?_) | refine gl_op (op_storeAgg 3 ty_50 rfl rfl rfl rfl rfl rfl (by first | rfl | (simp only [List.set_cons_succ, List.set_cons_zero]; exact rfl)) ?_)
      refine gl_op (op_rd rfl (rd_assign rfl) ?_)
      refine gl_nil ?_
      refine gx_then ?_
      refine gc_ret ?_
      refine gx_then_ret ?_
      refine gx_retV2 (.inl rfl) Try.results26 (rv_agg Try.underlying50 rfl ty_50 rfl (by rfl) (cs_blk 2 (off := 0) (k := 6) rfl rfl)) (rv_tmp rfl) [0, 1] (by decide) ?_
      have hV : acceptR c st = ⟨false, 0, 0, zRc, c.ready st 0⟩ := by unfold acceptR; rw [if_neg (by omega)]
      rw [hV]
      exact ⟨none, 0, none, 0, rfl, rfl⟩
    · skip
      exact absurd (Decidable.byContradiction hr) hr9

set_option maxRecDepth 100000 in
set_option maxHeartbeats 1000000 in
theorem rAccept_ok (c : Circ) (st : Int) (w0 : World) (hc : c.In w0 []) (hst : st ≤ 9223372036854775807) : Sp Try.prog 30 [c.val, .int .i64 st] w0 [] (fun v l => ∃ ra ca rb cb, v = .tuple #[.agg #[.bool (acceptR c st).good, natV (acceptR c st).state, natV (acceptR c st).inn, natV (acceptR c st).rc.kind, .slice (rowA ra) (acceptR c st).rc.a.length ca, .slice (rowA rb) (acceptR c st).rc.b.length cb], .int .i64 (acceptR c st).err] ∧ l = [.row 3 1 ra (acceptR c st).rc.a.length ca ((acceptR c st).rc.a.map natV), .row 3 1 rb (acceptR c st).rc.b.length cb ((acceptR c st).rc.b.map natV)]) := by
  refine spec_enter Try.func30 rfl Try.ntmps30 rfl (Own.refl _) ?_
  simp only [argEnv]
  refine gc_seq ?_
  refine gc_region ?_
  refine gl_op (op_box rfl rfl rfl (fun b2 => ?_))
  refine gl_op (op_alloc ty_50 rfl rfl (fun b4 => ?_))
  refine gl_op (op_rd rfl (rd_assign rfl) ?_)
  refine gl_nil ?_
  refine gx_then ?_
  refine gc_seq ?_
  refine gc_region ?_
  refine gl_op (op_rd rfl (rd_loadAgg Try.underlying25 rfl ty_25 rfl (by first | exact cs_blk 0 (off := 0) (k := 3) rfl rfl | exact cs_blk 1 (off := 0) (k := 3) rfl rfl | exact cs_old (by assumption) (by simp)) rfl) ?_)
  refine gl_op (op_rd rfl (rd_move rfl) ?_)
  refine gl_op (op_call rfl (vf := []) (vc := []) rfl rfl Try.call48 (fun w ho => ready_ok c st 0 w (hc.at ho) hst (by decide)) ?_)
  rintro _ _ ⟨rfl, rfl⟩
  refine gl_op (op_rd rfl (rd_assign rfl) ?_)
  refine gl_nil ?_
  refine gx_then ?_
  refine gc_seq ?_
  refine gc_seq ?_
  refine gc_region ?_
  refine gl_op (op_rd rfl (rd_move rfl) ?_)
  refine gl_op (op_rd rfl (rd_neq rfl rfl) (gk_dec (fun hr => ?_) (fun hr => ?_)))
  · skip
    refine gl_nil ?_
    refine gx_then ?_
    refine gc_cond_t rfl ?_
    refine gc_seq ?_
    refine gk_nil 3 1 ?_
    refine gk_nil 3 1 ?_
    refine gc_region ?_
    refine gl_op (op_rd rfl (rd_build rfl (fun _ => bd_50_)) ?_)
    refine gl_op (op_rd rfl (rd_move rfl) ?_)
    first | refine gl_op (op_storeAgg 2 ty_50 rfl rfl rfl rfl rfl rfl (by first | rfl | (simp only [List.set_cons_succ, List.set_cons_zero]; exact rfl)) ?_) | refine gl_op (op_storeAgg 3 ty_50 rfl rfl rfl rfl rfl rfl (by first | rfl | (simp only [List.set_cons_succ, List.set_cons_zero]; exact rfl)) ?_)
    refine gl_op (op_rd rfl (rd_assign rfl) ?_)
    refine gl_nil ?_
    refine gx_then ?_
    refine gc_ret ?_
    refine gx_then_ret ?_
    refine gx_retV2 (.inl rfl) Try.results30 (rv_agg Try.underlying50 rfl ty_50 rfl (by rfl) (cs_blk 2 (off := 0) (k := 6) rfl rfl)) (rv_tmp rfl) [0, 1] (by decide) ?_
    have hV : acceptR c st = ⟨false, 0, 0, zRc, c.ready st 0⟩ := by unfold acceptR; rw [if_neg (by omega)]
    rw [hV]
    exact ⟨none, 0, none, 0, rfl, rfl⟩
  · skip
    have hr0 : c.ready st 0 = 0 := by omega
    obtain ⟨hck, h1, h2, h3, h4⟩ := Circ.of_ready hr0
    have hgd := Circ.good hck
    have hi0 := hgd.i0
    have hi8 := hgd.i8
    obtain ⟨sn, rfl⟩ : ∃ n : Nat, st = n := ⟨st.toNat, by omega⟩
    obtain ⟨ci, hci⟩ : ∃ n : Nat, c.inputs = n := ⟨c.inputs.toNat, by omega⟩
    have hcn : c.inputs.toNat = ci := by omega
    simp only [Int.toNat_natCast] at h2 ⊢
    have hA : acceptR c sn = accGo c 5000 0 [sn] 0 := by unfold acceptR; rw [if_pos hr0]; rfl
    have hp8 : 2 ^ ci ≤ 2 ^ 8 := Nat.pow_le_pow_right (by decide) (by omega)
    have hshl : 1 <<< ci = 2 ^ ci := one_shl ci
    have hg12 := hgd.g12
    have hpow : 2 ^ c.gates.length ≤ 2 ^ 12 := Nat.pow_le_pow_right (by decide) hg12
    have hN : 1 <<< c.gates.length ≤ 4096 := by rw [one_shl]; omega
    
    refine gl_nil ?_
    refine gx_then ?_
    refine gc_cond_f rfl ?_
    refine gc_skip ?_
    refine gx_then ?_
    refine gc_seq ?_
    refine gc_region ?_
    refine gl_op (op_rd rfl (rd_move rfl) ?_)
    refine gl_op (op_buildSlice (sz := 1) rfl rfl (fun _ => bs_23_1_0 _) rfl rfl (fun b24 => ?_))
    refine gl_op (op_rd rfl (rd_assign rfl) ?_)
    refine gl_nil ?_
    refine gx_then ?_
    refine gc_seq ?_
    refine gc_region ?_
    refine gl_op (op_rd rfl (rd_assign rfl) ?_)
    refine gl_nil ?_
    refine gx_then ?_
    refine gc_seq ?_
    refine gc_seq ?_
    refine gc_region ?_
    refine gl_op (op_rd rfl (rd_assign rfl) ?_)
    refine gl_nil ?_
    refine gx_then ?_
    refine gc_block ?_
    refine gc_loopF (ι := Nat × List Nat × Nat × Option Nat × Nat) [(2, _), (4, _)] [_, _] (fun j => j.1 ≤ j.2.1.length ∧ accGo c (5000 - j.1) j.1 j.2.1 j.2.2.1 = accGo c 5000 0 [sn] 0 ∧ j.2.1.Nodup ∧ (∀ x ∈ j.2.1, x < 2 ^ c.gates.length) ∧ j.2.2.1 ≤ 20000) (fun j Fr0 => ((9, natV j.1) :: (7, .slice (rowA j.2.2.2.1) j.2.1.length j.2.2.2.2) :: (8, natV j.2.2.1) :: Fr0)) (fun j Fr0 => (.row 3 1 j.2.2.2.1 j.2.1.length j.2.2.2.2 (j.2.1.map natV) :: Fr0)) (fun j => 5000 - j.1) (0, [sn], 0, some b24, 1) (⟨Nat.zero_le _, rfl, by simp, by simpa using h2, Nat.zero_le _⟩) ⟨rfl, rfl, rfl, rfl, rfl, trivial⟩ ⟨[0, 1, 2], by decide, rfl⟩ ?_
    rintro ⟨i, l, wk, rl, cl⟩ ⟨hi, hgo, hnd, hlt, hwk⟩
    simp only at hi hgo hnd hlt hwk ⊢
    have hll := nodup_len _ l hnd hlt
    refine gc_seq ?_
    refine gc_seq ?_
    refine gc_region ?_
    refine gl_op (op_rd rfl (rd_move rfl) ?_)
    refine gl_op (op_rd rfl (rd_move rfl) ?_)
    refine gl_op (op_rd rfl (rd_lenSlice Try.underlying23 rfl) ?_)
    refine gl_op (op_rd rfl (rd_lss rfl rfl) (gk_dec (fun hlt0 => ?_) (fun hlt0 => ?_)))
    · skip
      obtain ⟨s, hsl⟩ : ∃ y, l[i]? = some y := ⟨l[i]'(by omega), List.getElem?_eq_getElem (by omega)⟩
      have hs := hlt s (List.mem_of_getElem? hsl)
      have hs12 := st_lt hgd hs
      rw [show 5000 - i = (4999 - i) + 1 by omega, accGo_step hsl, hcn] at hgo
      refine gl_nil ?_
      refine gx_then ?_
      refine gc_cond_t rfl ?_
      refine gc_skip ?_
      refine gx_then ?_
      refine gc_seq ?_
      refine gc_block ?_
      refine gc_seq ?_
      refine gc_region ?_
      refine gl_op (op_rd rfl (rd_assign rfl) ?_)
      refine gl_nil ?_
      refine gx_then ?_
      refine gc_block ?_
      refine gc_loopF (ι := Nat × List Nat × Nat × Option Nat × Nat) [(2, _), (4, _), (9, _)] [_, _] (fun j => j.1 ≤ 2 ^ ci ∧ accK c (4999 - i) i (accIn c s (2 ^ ci - j.1) j.1 j.2.1 j.2.2.1) = accGo c 5000 0 [sn] 0 ∧ j.2.1.Nodup ∧ (∀ x ∈ j.2.1, x < 2 ^ c.gates.length) ∧ j.2.2.1 ≤ 20000 ∧ j.2.1[i]? = some s) (fun j Fr0 => ((10, natV j.1) :: (7, .slice (rowA j.2.2.2.1) j.2.1.length j.2.2.2.2) :: (8, natV j.2.2.1) :: Fr0)) (fun j Fr0 => (.row 3 1 j.2.2.2.1 j.2.1.length j.2.2.2.2 (j.2.1.map natV) :: Fr0)) (fun j => 2 ^ ci - j.1) (0, l, wk, rl, cl) (⟨Nat.zero_le _, hgo, hnd, hlt, hwk, hsl⟩) ⟨rfl, rfl, rfl, rfl, rfl, rfl, trivial⟩ ⟨[0, 1, 2], by decide, rfl⟩ ?_
      rintro ⟨im, l, wk, rl, cl⟩ ⟨him, hgo2, hnd, hlt, hwk, hsl⟩
      simp only at him hgo2 hnd hlt hwk hsl ⊢
      have hll := nodup_len _ l hnd hlt
      have hil := (List.getElem?_eq_some_iff.1 hsl).1
      have hsd : l.getD i 0 = s := by simp [List.getD, hsl]
      refine gc_seq ?_
      refine gc_seq ?_
      refine gc_region ?_
      refine gl_op (op_rd rfl (rd_move rfl) ?_)
      refine gl_op (op_rd rfl (rd_fieldAddr rfl (fa_25_0 _)) ?_)
      refine gl_op (op_rd rfl (rd_load Try.underlying3 rfl rfl (by first | exact ld_blk 1 rfl rfl | exact ld_blk 2 rfl rfl | exact ld_rowN 0 rfl (get_nats (by omega)) | exact ld_slN (by assumption) (get_nats (by omega)) | exact ld_rowN 0 rfl (get_ints (by omega)) | exact ld_slN (by assumption) (get_ints (by omega)) | exact ld_old (by assumption) (by simp) | exact ld_cells (by assumption) (by simp) rfl)) ?_)
      rw [hci]
      refine gl_op (op_rd rfl (rd_conv Try.runUnderlying3 Try.runUnderlying58 rfl (wrap_u64_nat (by omega))) ?_)
      refine gl_op (op_rd rfl (rd_shl (a := 1) rfl rfl (by first | omega | (rw [← hshl]; omega) | (simp; omega)) (by first | omega | (rw [← hshl]; omega) | (simp; omega))) ?_)
      refine gl_op (op_rd rfl (rd_lss rfl rfl) (gk_dec (fun hlt1 => ?_) (fun hlt1 => ?_)))
      · skip
        have himl : im < 2 ^ c.inputs.toNat := by rw [hcn]; omega
        have him8 := in_lt hgd himl
        have hrdy := ready_nat hck hs himl
        refine gl_nil ?_
        refine gx_then ?_
        refine gc_cond_t rfl ?_
        refine gc_skip ?_
        refine gx_then ?_
        refine gc_seq ?_
        refine gc_block ?_
        refine gc_seq ?_
        refine gc_drawP [0, 1, 2] false 12 rfl ?_
        refine ga_first 0 #[true, false, false, false, false, false, false, false, false, false, false, false, false] rfl rfl rfl rfl (by kernel_rfl) rfl ⟨[0, 1, 2], by decide, rfl⟩ (qt_rd (rd_loadAgg Try.underlying25 rfl ty_25 rfl (by first | exact cs_blk 1 (off := 0) (k := 3) rfl rfl | exact cs_blk 2 (off := 0) (k := 3) rfl rfl | exact cs_old (by assumption) (by simp)) rfl)) ?_
        refine ga_first 1 #[true, true, false, false, false, false, false, false, false, false, false, false, false] rfl rfl rfl rfl (by kernel_rfl) rfl ⟨[0, 1, 2], by decide, rfl⟩ (qt_rd (rd_move rfl)) ?_
        refine ga_first 2 #[true, true, true, false, false, false, false, false, false, false, false, false, false] rfl rfl rfl rfl (by kernel_rfl) rfl ⟨[0, 1, 2], by decide, rfl⟩ (qt_rd (rd_move rfl)) ?_
        refine ga_first 3 #[true, true, true, true, false, false, false, false, false, false, false, false, false] rfl rfl rfl rfl (by kernel_rfl) rfl ⟨[0, 1, 2], by decide, rfl⟩ (qt_rd (by first | exact rd_indexRow1 0 rfl Try.underlying23 ty_3 rfl rfl (by omega) (by omega) | exact rd_indexOld1 (by assumption) Try.underlying23 ty_3 rfl rfl (by omega) (by omega) | exact rd_index1 Try.underlying23 ty_3 rfl rfl (by omega) (by omega))) ?_
        refine ga_first 4 #[true, true, true, true, true, false, false, false, false, false, false, false, false] rfl rfl rfl rfl (by kernel_rfl) rfl ⟨[0, 1, 2], by decide, rfl⟩ (qt_rd (rd_load Try.underlying3 rfl rfl (by first | exact ld_rowN 0 rfl (get_nats (by omega)) | exact ld_rowN 1 rfl (get_nats (by omega))))) ?_
        refine ga_first 5 #[true, true, true, true, true, true, false, false, false, false, false, false, false] rfl rfl rfl rfl (by kernel_rfl) rfl ⟨[0, 1, 2], by decide, rfl⟩ (qt_rd (rd_move rfl)) ?_
        refine ga_two 6 10 #[true, true, true, true, true, true, true, false, false, false, false, false, false] #[true, true, true, true, true, true, false, false, false, false, true, false, false] rfl rfl rfl rfl (by kernel_rfl) rfl rfl (.inr ⟨[0, 1, 2], by decide, rfl⟩) ?_ ?_
        · skip
          rw [hsd]
          refine (op_call rfl (vf := []) (vc := []) rfl rfl Try.call61 (fun w ho => rexplore_ok c s im w (hc.at ho) (by omega) (by omega)) ?_)
          rintro _ _ (⟨hr, ns, rs, cs, rf, cf, rg, cg, bp, hre, rfl, rfl⟩ | ⟨hr, hre, rfl, rfl⟩ | ⟨hr, rfl, rfl⟩)
          · skip
            simp only [Int.toNat_natCast] at hre
            have hgr := facts_gr hgd hs hre
            have hnl := hgr.len
            have hrg := rgr_of hgd hs hre
            refine ga_first 7 #[true, true, true, true, true, true, true, true, false, false, false, false, false] rfl rfl rfl rfl (by kernel_rfl) rfl ⟨[4, 5, 6], by decide, rfl⟩ (qt_rd (rd_move rfl)) ?_
            refine ga_first 8 #[true, true, true, true, true, true, true, true, true, false, false, false, false] rfl rfl rfl rfl (by kernel_rfl) rfl ⟨[4, 5, 6], by decide, rfl⟩ (qt_rd (rd_extract rfl rfl)) ?_
            refine ga_first 9 #[true, true, true, true, true, true, true, true, true, true, false, false, false] rfl rfl rfl rfl (by kernel_rfl) rfl ⟨[4, 5, 6], by decide, rfl⟩ (qt_rd (rd_extract rfl rfl)) ?_
            refine ga_only 10 #[true, true, true, true, true, true, true, true, true, true, true, false, false] rfl rfl (by kernel_rfl) rfl (.inr ⟨[4, 5, 6], by decide, rfl⟩) (op_alloc ty_91 rfl rfl (fun b11 => ?_))
            first | refine ga_only 11 #[true, true, true, true, true, true, true, true, true, true, true, true, false] rfl rfl (by kernel_rfl) rfl (.inr ⟨[5, 6, 7], by decide, rfl⟩) (op_storeAgg 0 ty_91 rfl rfl rfl rfl rfl rfl (by first | rfl | (simp only [List.set_cons_succ, List.set_cons_zero]; exact rfl)) ?_) | refine ga_only 11 #[true, true, true, true, true, true, true, true, true, true, true, true, false] rfl rfl (by kernel_rfl) rfl (.inr ⟨[5, 6, 7], by decide, rfl⟩) (op_storeAgg 6 ty_91 rfl rfl rfl rfl rfl rfl (by first | rfl | (simp only [List.set_cons_succ, List.set_cons_zero]; exact rfl)) ?_) | refine ga_only 11 #[true, true, true, true, true, true, true, true, true, true, true, true, false] rfl rfl (by kernel_rfl) rfl (.inr ⟨[5, 6, 7], by decide, rfl⟩) (op_storeAgg 7 ty_91 rfl rfl rfl rfl rfl rfl (by first | rfl | (simp only [List.set_cons_succ, List.set_cons_zero]; exact rfl)) ?_)
            refine ga_only 12 #[true, true, true, true, true, true, true, true, true, true, true, true, true] rfl rfl (by kernel_rfl) rfl (.inr ⟨[5, 6, 7], by decide, rfl⟩) (op_rd rfl (rd_assign rfl) ?_)
            refine ga_end (by kernel_rfl) (.inl (by kernel_rfl)) ?_
            refine gx_then ?_
            refine gc_seq ?_
            refine gc_region ?_
            refine gl_op (op_rd rfl (rd_move rfl) ?_)
            refine gl_op (op_rd rfl (rd_fieldAddr rfl (fa_91_0 _)) ?_)
            refine gl_op (op_rd rfl (rd_load Try.underlying23 rfl rfl (by first | exact ld_blk 0 rfl rfl | exact ld_blk 6 rfl rfl | exact ld_blk 7 rfl rfl | exact ld_old (by assumption) (by simp) | exact ld_cells (by assumption) (by simp) rfl)) ?_)
            refine gl_op (op_rd rfl (rd_lenSlice Try.underlying23 rfl) ?_)
            refine gl_op (op_rd rfl (by first | exact rd_addN rfl rfl (by omega) | exact rd_add rfl rfl (by omega) (by omega)) ?_)
            refine gl_op (op_rd rfl (rd_assign rfl) ?_)
            refine gl_nil ?_
            refine gx_then ?_
            refine gc_seq ?_
            refine gc_seq ?_
            refine gc_region ?_
            refine gl_op (op_rd rfl (rd_move rfl) ?_)
            refine gl_op (op_rd rfl (rd_neq rfl rfl) (gk_dec (fun he => ?_) (fun he => ?_)))
            · skip
              exact absurd he (by simp)
            · skip
              refine gl_op (op_rd rfl (rd_move rfl) ?_)
              refine gl_yes rfl rfl (op_rd rfl (rd_move rfl) ?_)
              refine gl_yes rfl rfl (op_rd rfl (rd_gtr rfl rfl) (gk_dec (fun hbig => ?_) (fun hbig => ?_)))
              · skip
                refine gl_op (op_rd rfl (rd_pick_f rfl rfl) ?_)
                refine gl_nil ?_
                refine gx_then ?_
                refine gc_cond_t rfl ?_
                refine gc_seq ?_
                refine gk_nil 3 1 ?_
                refine gk_nil 3 1 ?_
                refine gc_region ?_
                refine gl_op (op_rd rfl (rd_build rfl (fun _ => bd_50_)) ?_)
                first | refine gl_op (op_storeAgg 2 ty_50 rfl rfl rfl rfl rfl rfl (by first | rfl | (simp only [List.set_cons_succ, List.set_cons_zero]; exact rfl)) ?_) | refine gl_op (op_storeAgg 8 ty_50 rfl rfl rfl rfl rfl rfl (by first | rfl | (simp only [List.set_cons_succ, List.set_cons_zero]; exact rfl)) ?_) | refine gl_op (op_storeAgg 9 ty_50 rfl rfl rfl rfl rfl rfl (by first | rfl | (simp only [List.set_cons_succ, List.set_cons_zero]; exact rfl)) ?_)
                refine gl_op (op_rd rfl (rd_assign rfl) ?_)
                refine gl_nil ?_
                refine gx_then ?_
                refine gc_ret ?_
                refine gx_then_ret ?_
                refine gx_block_ret ?_
                refine gx_then_ret ?_
                refine gx_then_ret ?_
                refine gx_block_ret ?_
                refine gx_block_ret ?_
                refine gx_then_ret ?_
                refine gx_then_ret ?_
                refine gx_block_ret ?_
                refine gx_then_ret ?_
                refine gx_retV2 (.inl rfl) Try.results30 (rv_agg Try.underlying50 rfl ty_50 rfl (by rfl) (cs_blk 8 (off := 0) (k := 6) rfl rfl)) (rv_tmp rfl) [0, 1] (by decide) ?_
                rw [hA, ← hgo2, show 2 ^ ci - im = (2 ^ ci - (im + 1)) + 1 by omega, accIn_big hre (by omega)]
                exact ⟨none, 0, none, 0, rfl, rfl⟩
              · skip
                refine gl_op (op_rd rfl (rd_pick_f rfl rfl) ?_)
                refine gl_nil ?_
                refine gx_then ?_
                refine gc_cond_f rfl ?_
                refine gc_skip ?_
                refine gx_then ?_
                refine gc_seq ?_
                refine gc_region ?_
                refine gl_op (op_rd rfl (rd_loadAgg Try.underlying25 rfl ty_25 rfl (by first | exact cs_blk 0 (off := 0) (k := 3) rfl rfl | exact cs_blk 6 (off := 0) (k := 3) rfl rfl | exact cs_blk 7 (off := 0) (k := 3) rfl rfl | exact cs_old (by assumption) (by simp)) rfl) ?_)
                refine gl_op (op_rd rfl (rd_loadAgg Try.underlying91 rfl ty_91 rfl (by first | exact cs_blk 0 (off := 0) (k := 4) rfl rfl | exact cs_blk 6 (off := 0) (k := 4) rfl rfl | exact cs_blk 7 (off := 0) (k := 4) rfl rfl | exact cs_old (by assumption) (by simp)) rfl) ?_)
                refine gl_op (op_rd rfl (rd_move rfl) ?_)
                refine gl_op (op_call rfl (vf := []) (vc := []) rfl rfl Try.call62 (fun w ho => rrace_ok c im ns ⟨rowA rs, cs, rowA rf, cf, rowA rg, cg, rowA (some bp)⟩ w (RIn.mk' ho 1 2 3 4 rfl rfl rfl rfl) (hc.at ho) hgd himl hrg) ?_)
                rintro _ _ ⟨ra, ca, rb, cb, rfl, rfl⟩
                refine gl_op (op_alloc ty_40 rfl rfl (fun b13 => ?_))
                first | refine gl_op (op_storeAgg 0 ty_40 rfl rfl rfl rfl rfl rfl (by first | rfl | (simp only [List.set_cons_succ, List.set_cons_zero]; exact rfl)) ?_) | refine gl_op (op_storeAgg 3 ty_40 rfl rfl rfl rfl rfl rfl (by first | rfl | (simp only [List.set_cons_succ, List.set_cons_zero]; exact rfl)) ?_) | refine gl_op (op_storeAgg 9 ty_40 rfl rfl rfl rfl rfl rfl (by first | rfl | (simp only [List.set_cons_succ, List.set_cons_zero]; exact rfl)) ?_) | refine gl_op (op_storeAgg 10 ty_40 rfl rfl rfl rfl rfl rfl (by first | rfl | (simp only [List.set_cons_succ, List.set_cons_zero]; exact rfl)) ?_)
                refine gl_nil ?_
                refine gx_then ?_
                refine gc_seq ?_
                refine gc_seq ?_
                refine gc_region ?_
                refine gl_op (op_rd rfl (rd_fieldAddr rfl (fa_40_0 _)) ?_)
                refine gl_op (op_rd rfl (rd_load Try.underlying3 rfl rfl (by first | exact ld_blk 0 rfl rfl | exact ld_blk 3 rfl rfl | exact ld_blk 9 rfl rfl | exact ld_blk 10 rfl rfl | exact ld_rowN 1 rfl (get_nats (by omega)) | exact ld_rowN 2 rfl (get_nats (by omega)) | exact ld_rowN 4 rfl (get_nats (by omega)) | exact ld_rowN 5 rfl (get_nats (by omega)) | exact ld_rowN 6 rfl (get_nats (by omega)) | exact ld_rowN 7 rfl (get_nats (by omega)) | exact ld_rowN 8 rfl (get_nats (by omega)) | exact ld_slN (by assumption) (get_nats (by omega)) | exact ld_rowN 1 rfl (get_ints (by omega)) | exact ld_rowN 2 rfl (get_ints (by omega)) | exact ld_rowN 4 rfl (get_ints (by omega)) | exact ld_rowN 5 rfl (get_ints (by omega)) | exact ld_rowN 6 rfl (get_ints (by omega)) | exact ld_rowN 7 rfl (get_ints (by omega)) | exact ld_rowN 8 rfl (get_ints (by omega)) | exact ld_slN (by assumption) (get_ints (by omega)) | exact ld_old (by assumption) (by simp) | exact ld_cells (by assumption) (by simp) rfl)) ?_)
                refine gl_op (op_rd rfl (rd_neq rfl rfl) (gk_dec (fun hk => ?_) (fun hk => ?_)))
                · skip
                  refine gl_nil ?_
                  refine gx_then ?_
                  refine gc_cond_t rfl ?_
                  refine gc_seq ?_
                  refine gc_drawP [0, 1, 2, 3, 4, 5, 6, 7, 8, 9, 10] false 7 rfl ?_
                  refine ga_first 0 #[true, false, false, false, false, false, false, false, false] rfl rfl rfl rfl (by kernel_rfl) rfl ⟨[0, 1, 2, 3, 4, 5, 6, 7, 8, 9, 10], by decide, rfl⟩ (qt_rd (rd_move rfl)) ?_
                  refine ga_first 1 #[true, true, false, false, false, false, false, false, false] rfl rfl rfl rfl (by kernel_rfl) rfl ⟨[0, 1, 2, 3, 4, 5, 6, 7, 8, 9, 10], by decide, rfl⟩ (qt_rd (rd_move rfl)) ?_
                  refine ga_first 2 #[true, true, true, false, false, false, false, false, false] rfl rfl rfl rfl (by kernel_rfl) rfl ⟨[0, 1, 2, 3, 4, 5, 6, 7, 8, 9, 10], by decide, rfl⟩ (qt_rd (by first | exact rd_indexRow1 1 rfl Try.underlying23 ty_3 rfl rfl (by omega) (by omega) | exact rd_indexRow1 2 rfl Try.underlying23 ty_3 rfl rfl (by omega) (by omega) | exact rd_indexRow1 4 rfl Try.underlying23 ty_3 rfl rfl (by omega) (by omega) | exact rd_indexRow1 5 rfl Try.underlying23 ty_3 rfl rfl (by omega) (by omega) | exact rd_indexRow1 6 rfl Try.underlying23 ty_3 rfl rfl (by omega) (by omega) | exact rd_indexRow1 7 rfl Try.underlying23 ty_3 rfl rfl (by omega) (by omega) | exact rd_indexRow1 8 rfl Try.underlying23 ty_3 rfl rfl (by omega) (by omega) | exact rd_indexOld1 (by assumption) Try.underlying23 ty_3 rfl rfl (by omega) (by omega) | exact rd_index1 Try.underlying23 ty_3 rfl rfl (by omega) (by omega))) ?_
                  refine ga_first 3 #[true, true, true, true, false, false, false, false, false] rfl rfl rfl rfl (by kernel_rfl) rfl ⟨[0, 1, 2, 3, 4, 5, 6, 7, 8, 9, 10], by decide, rfl⟩ (qt_rd (rd_load Try.underlying3 rfl rfl (by first | exact ld_rowN 0 rfl (get_nats (by omega)) | exact ld_rowN 1 rfl (get_nats (by omega)) | exact ld_rowN 2 rfl (get_nats (by omega)) | exact ld_rowN 3 rfl (get_nats (by omega)) | exact ld_rowN 4 rfl (get_nats (by omega)) | exact ld_rowN 5 rfl (get_nats (by omega)) | exact ld_rowN 6 rfl (get_nats (by omega)) | exact ld_rowN 7 rfl (get_nats (by omega)) | exact ld_rowN 8 rfl (get_nats (by omega)) | exact ld_rowN 9 rfl (get_nats (by omega)) | exact ld_rowN 10 rfl (get_nats (by omega)) | exact ld_rowN 11 rfl (get_nats (by omega))))) ?_
                  rw [hsd]
                  refine ga_first 4 #[true, true, true, true, true, false, false, false, false] rfl rfl rfl rfl (by kernel_rfl) rfl ⟨[0, 1, 2, 3, 4, 5, 6, 7, 8, 9, 10], by decide, rfl⟩ (qt_rd (rd_move rfl)) ?_
                  refine ga_first 5 #[true, true, true, true, true, true, false, false, false] rfl rfl rfl rfl (by kernel_rfl) rfl ⟨[0, 1, 2, 3, 4, 5, 6, 7, 8, 9, 10], by decide, rfl⟩ (qt_rd (rd_loadAgg Try.underlying40 rfl ty_40 rfl (by first | exact cs_blk 0 (off := 0) (k := 3) rfl rfl | exact cs_blk 3 (off := 0) (k := 3) rfl rfl | exact cs_blk 9 (off := 0) (k := 3) rfl rfl | exact cs_blk 10 (off := 0) (k := 3) rfl rfl | exact cs_old (by assumption) (by simp)) rfl)) ?_
                  refine ga_first 6 #[true, true, true, true, true, true, true, false, false] rfl rfl rfl rfl (by kernel_rfl) rfl ⟨[0, 1, 2, 3, 4, 5, 6, 7, 8, 9, 10], by decide, rfl⟩ (qt_rd (rd_build rfl (fun _ => bd_50_1_2_3 _ _ _ _ _ _ _ _ _))) ?_
                  first | refine ga_only 7 #[true, true, true, true, true, true, true, true, false] rfl rfl (by kernel_rfl) rfl (.inr ⟨[0, 1, 2, 3, 4, 5, 6, 7, 8, 9, 10], by decide, rfl⟩) (op_storeAgg 0 ty_50 rfl rfl rfl rfl rfl rfl (by first | rfl | (simp only [List.set_cons_succ, List.set_cons_zero]; exact rfl)) ?_) | refine ga_only 7 #[true, true, true, true, true, true, true, true, false] rfl rfl (by kernel_rfl) rfl (.inr ⟨[0, 1, 2, 3, 4, 5, 6, 7, 8, 9, 10], by decide, rfl⟩) (op_storeAgg 3 ty_50 rfl rfl rfl rfl rfl rfl (by first | rfl | (simp only [List.set_cons_succ, List.set_cons_zero]; exact rfl)) ?_) | refine ga_only 7 #[true, true, true, true, true, true, true, true, false] rfl rfl (by kernel_rfl) rfl (.inr ⟨[0, 1, 2, 3, 4, 5, 6, 7, 8, 9, 10], by decide, rfl⟩) (op_storeAgg 9 ty_50 rfl rfl rfl rfl rfl rfl (by first | rfl | (simp only [List.set_cons_succ, List.set_cons_zero]; exact rfl)) ?_) | refine ga_only 7 #[true, true, true, true, true, true, true, true, false] rfl rfl (by kernel_rfl) rfl (.inr ⟨[0, 1, 2, 3, 4, 5, 6, 7, 8, 9, 10], by decide, rfl⟩) (op_storeAgg 10 ty_50 rfl rfl rfl rfl rfl rfl (by first | rfl | (simp only [List.set_cons_succ, List.set_cons_zero]; exact rfl)) ?_)
                  refine ga_only 8 #[true, true, true, true, true, true, true, true, true] rfl rfl (by kernel_rfl) rfl (.inl (by kernel_rfl)) (op_rd rfl (rd_assign rfl) ?_)
                  refine ga_end (by kernel_rfl) (.inl (by kernel_rfl)) ?_
                  refine gx_then ?_
                  refine gc_ret ?_
                  refine gx_then_ret ?_
                  refine gx_block_ret ?_
                  refine gx_then_ret ?_
                  refine gx_then_ret ?_
                  refine gx_block_ret ?_
                  refine gx_block_ret ?_
                  refine gx_then_ret ?_
                  refine gx_then_ret ?_
                  refine gx_block_ret ?_
                  refine gx_then_ret ?_
                  refine gx_retV2 (.inl rfl) Try.results30 (rv_agg Try.underlying50 rfl ty_50 rfl (by rfl) (cs_blk 9 (off := 0) (k := 6) rfl rfl)) (rv_tmp rfl) [1, 2] (by decide) ?_
                  rw [hA, ← hgo2, show 2 ^ ci - im = (2 ^ ci - (im + 1)) + 1 by omega, accIn_race hre (by omega) (by omega)]
                  exact ⟨ra, ca, rb, cb, rfl, rfl⟩
                · skip
                  have hk0 : (raceP c im ns).kind = 0 := by omega
                  have hsetl := settled_lt hgd himl hs hre hk0
                  have hset12 := st_lt hgd hsetl
                  refine gl_nil ?_
                  refine gx_then ?_
                  refine gc_cond_f rfl ?_
                  refine gc_skip ?_
                  refine gx_then ?_
                  refine gc_seq ?_
                  refine gc_region ?_
                  refine gl_op (op_rd rfl (rd_loadAgg Try.underlying25 rfl ty_25 rfl (by first | exact cs_blk 0 (off := 0) (k := 3) rfl rfl | exact cs_blk 3 (off := 0) (k := 3) rfl rfl | exact cs_blk 9 (off := 0) (k := 3) rfl rfl | exact cs_blk 10 (off := 0) (k := 3) rfl rfl | exact cs_old (by assumption) (by simp)) rfl) ?_)
                  refine gl_op (op_rd rfl (rd_loadAgg Try.underlying91 rfl ty_91 rfl (by first | exact cs_blk 0 (off := 0) (k := 4) rfl rfl | exact cs_blk 3 (off := 0) (k := 4) rfl rfl | exact cs_blk 9 (off := 0) (k := 4) rfl rfl | exact cs_blk 10 (off := 0) (k := 4) rfl rfl | exact cs_old (by assumption) (by simp)) rfl) ?_)
                  refine gl_op (op_rd rfl (rd_move rfl) ?_)
                  refine gl_op (op_call rfl (vf := []) (vc := []) rfl rfl Try.call63 (fun w ho => rsettle_ok c im ns ⟨rowA rs, cs, rowA rf, cf, rowA rg, cg, rowA (some bp)⟩ w (RIn.mk' ho 4 5 6 7 rfl rfl rfl rfl) (hc.at ho) hgd himl hrg) ?_)
                  rintro _ _ ⟨rfl, rfl⟩
                  rw [if_pos hk0]
                  refine gl_op (op_rd rfl (rd_move rfl) ?_)
                  refine gl_op (op_rd rfl (rd_extract rfl rfl) ?_)
                  refine gl_op (op_rd rfl (rd_extract rfl rfl) ?_)
                  refine gl_op (op_rd rfl (rd_assign rfl) ?_)
                  refine gl_op (op_rd rfl (rd_assign rfl) ?_)
                  refine gl_nil ?_
                  refine gx_then ?_
                  refine gc_seq ?_
                  refine gc_region ?_
                  refine gl_op (op_rd rfl (rd_move rfl) ?_)
                  refine gl_op (op_rd rfl (rd_move rfl) ?_)
                  refine gl_op (op_call rfl (vf := []) (vc := []) rfl rfl Try.call64 (fun w ho => rhas_nats_ok l (rowA rl) cl _ w (ho.rowSl 8 rfl) (by omega)) ?_)
                  rintro _ _ ⟨rfl, rfl⟩
                  refine gk_bool (fun hmm => ?_) (fun hmm => ?_)
                  · skip
                    have hmem := of_decide_eq_true hmm
                    refine gl_op (op_rd rfl (rd_not rfl) ?_)
                    refine gl_nil ?_
                    refine gx_then ?_
                    refine gc_cond_f rfl ?_
                    refine gc_skip ?_
                    refine gx_block ?_
                    refine gx_then ?_
                    refine gc_region ?_
                    refine gl_op (op_rd rfl (rd_move rfl) ?_)
                    refine gl_op (op_rd rfl (by first | exact rd_addN (b := 1) rfl rfl (by omega) | exact rd_add rfl rfl (by omega) (by omega)) ?_)
                    refine gl_op (op_rd rfl (rd_assign rfl) ?_)
                    refine gl_nil ?_
                    refine gx_then ?_
                    exact gx_cut ((im + 1, l, wk + ns.length, rl, cl)) ⟨⟨by simp only; omega, by simp only; rw [← hgo2, show 2 ^ ci - im = (2 ^ ci - (im + 1)) + 1 by omega, accIn_step hre (by omega) (by omega), push_t hmem], hnd, hlt, by simp only; omega, hsl⟩, by simp only; omega⟩ ⟨rfl, rfl, rfl, rfl, rfl, rfl, trivial⟩ ⟨[8, 9, 10], by decide, rfl⟩
                  · skip
                    have hmem := of_decide_eq_false hmm
                    refine gl_op (op_rd rfl (rd_not rfl) ?_)
                    refine gl_nil ?_
                    refine gx_then ?_
                    refine gc_cond_t rfl ?_
                    refine gc_region ?_
                    refine gl_op (op_rd rfl (rd_move rfl) ?_)
                    refine gl_op (op_rd rfl (rd_move rfl) ?_)
                    refine gl_op (op_buildSlice (sz := 1) rfl rfl (fun _ => bs_23_1_0 _) rfl rfl (fun b88 => ?_))
                    refine gl_op (op_appendRow 9 0 Try.underlying23 ty_3 rfl (by decide) rfl rfl rfl rfl rfl (by simp [Value.oneCell']) (by omega) (by omega) (fun _ => (by first | rfl | (simp only [List.set_cons_succ, List.set_cons_zero]; exact rfl))) (fun r89 c89 => ?_))
                    refine gl_op (op_rd rfl (rd_assign rfl) ?_)
                    refine gl_nil ?_
                    refine gx_block ?_
                    refine gx_then ?_
                    rw [snocN, snoc_len l (settledP c im ns)]
                    refine gc_region ?_
                    refine gl_op (op_rd rfl (rd_move rfl) ?_)
                    refine gl_op (op_rd rfl (by first | exact rd_addN (b := 1) rfl rfl (by omega) | exact rd_add rfl rfl (by omega) (by omega)) ?_)
                    refine gl_op (op_rd rfl (rd_assign rfl) ?_)
                    refine gl_nil ?_
                    refine gx_then ?_
                    exact gx_cut ((im + 1, l ++ [settledP c im ns], wk + ns.length, r89, c89)) ⟨⟨by simp only; omega, by simp only; rw [← hgo2, show 2 ^ ci - im = (2 ^ ci - (im + 1)) + 1 by omega, accIn_step hre (by omega) (by omega), push_f hmem], push_nd hnd hmem, push_lt hlt hsetl, by simp only; omega, get_push hsl⟩, by simp only; omega⟩ ⟨rfl, rfl, rfl, rfl, rfl, rfl, trivial⟩ ⟨[9, 10, 11], by decide, rfl⟩
          · skip
            simp only [Int.toNat_natCast] at hre
            refine ga_first 7 #[true, true, true, true, true, true, true, true, false, false, false, false, false] rfl rfl rfl rfl (by kernel_rfl) rfl ⟨[0, 1, 2], by decide, rfl⟩ (qt_rd (rd_move rfl)) ?_
            refine ga_first 8 #[true, true, true, true, true, true, true, true, true, false, false, false, false] rfl rfl rfl rfl (by kernel_rfl) rfl ⟨[0, 1, 2], by decide, rfl⟩ (qt_rd (rd_extract rfl rfl)) ?_
            refine ga_first 9 #[true, true, true, true, true, true, true, true, true, true, false, false, false] rfl rfl rfl rfl (by kernel_rfl) rfl ⟨[0, 1, 2], by decide, rfl⟩ (qt_rd (rd_extract rfl rfl)) ?_
            refine ga_only 10 #[true, true, true, true, true, true, true, true, true, true, true, false, false] rfl rfl (by kernel_rfl) rfl (.inr ⟨[0, 1, 2], by decide, rfl⟩) (op_alloc ty_91 rfl rfl (fun b11 => ?_))
            first | refine ga_only 11 #[true, true, true, true, true, true, true, true, true, true, true, true, false] rfl rfl (by kernel_rfl) rfl (.inr ⟨[1, 2, 3], by decide, rfl⟩) (op_storeAgg 0 ty_91 rfl rfl rfl rfl rfl rfl (by first | rfl | (simp only [List.set_cons_succ, List.set_cons_zero]; exact rfl)) ?_) | refine ga_only 11 #[true, true, true, true, true, true, true, true, true, true, true, true, false] rfl rfl (by kernel_rfl) rfl (.inr ⟨[1, 2, 3], by decide, rfl⟩) (op_storeAgg 2 ty_91 rfl rfl rfl rfl rfl rfl (by first | rfl | (simp only [List.set_cons_succ, List.set_cons_zero]; exact rfl)) ?_) | refine ga_only 11 #[true, true, true, true, true, true, true, true, true, true, true, true, false] rfl rfl (by kernel_rfl) rfl (.inr ⟨[1, 2, 3], by decide, rfl⟩) (op_storeAgg 3 ty_91 rfl rfl rfl rfl rfl rfl (by first | rfl | (simp only [List.set_cons_succ, List.set_cons_zero]; exact rfl)) ?_)
            refine ga_only 12 #[true, true, true, true, true, true, true, true, true, true, true, true, true] rfl rfl (by kernel_rfl) rfl (.inr ⟨[1, 2, 3], by decide, rfl⟩) (op_rd rfl (rd_assign rfl) ?_)
            refine ga_end (by kernel_rfl) (.inl (by kernel_rfl)) ?_
            refine gx_then ?_
            refine gc_seq ?_
            refine gc_region ?_
            refine gl_op (op_rd rfl (rd_move rfl) ?_)
            refine gl_op (op_rd rfl (rd_fieldAddr rfl (fa_91_0 _)) ?_)
            refine gl_op (op_rd rfl (rd_load Try.underlying23 rfl rfl (by first | exact ld_blk 0 rfl rfl | exact ld_blk 2 rfl rfl | exact ld_blk 3 rfl rfl | exact ld_old (by assumption) (by simp) | exact ld_cells (by assumption) (by simp) rfl)) ?_)
            refine gl_op (op_rd rfl (rd_lenSlice Try.underlying23 rfl) ?_)
            refine gl_op (op_rd rfl (by first | exact rd_addN rfl rfl (by omega) | exact rd_add rfl rfl (by omega) (by omega)) ?_)
            refine gl_op (op_rd rfl (rd_assign rfl) ?_)
            refine gl_nil ?_
            refine gx_then ?_
            refine gc_seq ?_
            refine gc_seq ?_
            refine gc_region ?_
            refine gl_op (op_rd rfl (rd_move rfl) ?_)
            refine gl_op (op_rd rfl (rd_neq rfl rfl) (gk_dec (fun he => ?_) (fun he => ?_)))
            · skip
              refine gl_op (op_rd rfl (rd_move rfl) ?_)
              refine gl_no rfl rfl rfl ?_
              refine gl_no rfl rfl rfl ?_
              refine gl_op (op_rd rfl (rd_pick_t rfl rfl) ?_)
              refine gl_nil ?_
              refine gx_then ?_
              refine gc_cond_t rfl ?_
              refine gc_seq ?_
              refine gk_nil 3 1 ?_
              refine gk_nil 3 1 ?_
              refine gc_region ?_
              refine gl_op (op_rd rfl (rd_build rfl (fun _ => bd_50_)) ?_)
              first | refine gl_op (op_storeAgg 2 ty_50 rfl rfl rfl rfl rfl rfl (by first | rfl | (simp only [List.set_cons_succ, List.set_cons_zero]; exact rfl)) ?_) | refine gl_op (op_storeAgg 4 ty_50 rfl rfl rfl rfl rfl rfl (by first | rfl | (simp only [List.set_cons_succ, List.set_cons_zero]; exact rfl)) ?_) | refine gl_op (op_storeAgg 5 ty_50 rfl rfl rfl rfl rfl rfl (by first | rfl | (simp only [List.set_cons_succ, List.set_cons_zero]; exact rfl)) ?_)
              refine gl_op (op_rd rfl (rd_assign rfl) ?_)
              refine gl_nil ?_
              refine gx_then ?_
              refine gc_ret ?_
              refine gx_then_ret ?_
              refine gx_block_ret ?_
              refine gx_then_ret ?_
              refine gx_then_ret ?_
              refine gx_block_ret ?_
              refine gx_block_ret ?_
              refine gx_then_ret ?_
              refine gx_then_ret ?_
              refine gx_block_ret ?_
              refine gx_then_ret ?_
              refine gx_retV2 (.inl rfl) Try.results30 (rv_agg Try.underlying50 rfl ty_50 rfl (by rfl) (cs_blk 4 (off := 0) (k := 6) rfl rfl)) (rv_tmp rfl) [0, 1] (by decide) ?_
              rw [hA, ← hgo2, show 2 ^ ci - im = (2 ^ ci - (im + 1)) + 1 by omega, accIn_full hre]
              exact ⟨none, 0, none, 0, rfl, rfl⟩
            · skip
              exact absurd he (by simp)
          · skip
            exact absurd hrdy hr
        · skip
          refine (op_alloc ty_91 rfl rfl (fun b11 => ?_))
          rw [hsd]
          refine ga_only 6 #[true, true, true, true, true, true, true, false, false, false, true, false, false] rfl rfl (by kernel_rfl) rfl (.inr ⟨[1, 2, 3], by decide, rfl⟩) (op_call rfl (vf := []) (vc := []) rfl rfl Try.call61 (fun w ho => rexplore_ok c s im w (hc.at ho) (by omega) (by omega)) ?_)
          rintro _ _ (⟨hr, ns, rs, cs, rf, cf, rg, cg, bp, hre, rfl, rfl⟩ | ⟨hr, hre, rfl, rfl⟩ | ⟨hr, rfl, rfl⟩)
          · skip
            simp only [Int.toNat_natCast] at hre
            have hgr := facts_gr hgd hs hre
            have hnl := hgr.len
            have hrg := rgr_of hgd hs hre
            refine ga_first 7 #[true, true, true, true, true, true, true, true, false, false, true, false, false] rfl rfl rfl rfl (by kernel_rfl) rfl ⟨[5, 6, 7], by decide, rfl⟩ (qt_rd (rd_move rfl)) ?_
            refine ga_first 8 #[true, true, true, true, true, true, true, true, true, false, true, false, false] rfl rfl rfl rfl (by kernel_rfl) rfl ⟨[5, 6, 7], by decide, rfl⟩ (qt_rd (rd_extract rfl rfl)) ?_
            refine ga_first 9 #[true, true, true, true, true, true, true, true, true, true, true, false, false] rfl rfl rfl rfl (by kernel_rfl) rfl ⟨[5, 6, 7], by decide, rfl⟩ (qt_rd (rd_extract rfl rfl)) ?_
            first | refine ga_only 11 #[true, true, true, true, true, true, true, true, true, true, true, true, false] rfl rfl (by kernel_rfl) rfl (.inr ⟨[5, 6, 7], by decide, rfl⟩) (op_storeAgg 4 ty_91 rfl rfl rfl rfl rfl rfl (by first | rfl | (simp only [List.set_cons_succ, List.set_cons_zero]; exact rfl)) ?_) | refine ga_only 11 #[true, true, true, true, true, true, true, true, true, true, true, true, false] rfl rfl (by kernel_rfl) rfl (.inr ⟨[5, 6, 7], by decide, rfl⟩) (op_storeAgg 6 ty_91 rfl rfl rfl rfl rfl rfl (by first | rfl | (simp only [List.set_cons_succ, List.set_cons_zero]; exact rfl)) ?_) | refine ga_only 11 #[true, true, true, true, true, true, true, true, true, true, true, true, false] rfl rfl (by kernel_rfl) rfl (.inr ⟨[5, 6, 7], by decide, rfl⟩) (op_storeAgg 7 ty_91 rfl rfl rfl rfl rfl rfl (by first | rfl | (simp only [List.set_cons_succ, List.set_cons_zero]; exact rfl)) ?_)
            refine ga_only 12 #[true, true, true, true, true, true, true, true, true, true, true, true, true] rfl rfl (by kernel_rfl) rfl (.inr ⟨[5, 6, 7], by decide, rfl⟩) (op_rd rfl (rd_assign rfl) ?_)
            refine ga_end (by kernel_rfl) (.inl (by kernel_rfl)) ?_
            refine gx_then ?_
            refine gc_seq ?_
            refine gc_region ?_
            refine gl_op (op_rd rfl (rd_move rfl) ?_)
            refine gl_op (op_rd rfl (rd_fieldAddr rfl (fa_91_0 _)) ?_)
            refine gl_op (op_rd rfl (rd_load Try.underlying23 rfl rfl (by first | exact ld_blk 4 rfl rfl | exact ld_blk 6 rfl rfl | exact ld_blk 7 rfl rfl | exact ld_old (by assumption) (by simp) | exact ld_cells (by assumption) (by simp) rfl)) ?_)
            refine gl_op (op_rd rfl (rd_lenSlice Try.underlying23 rfl) ?_)
            refine gl_op (op_rd rfl (by first | exact rd_addN rfl rfl (by omega) | exact rd_add rfl rfl (by omega) (by omega)) ?_)
            refine gl_op (op_rd rfl (rd_assign rfl) ?_)
            refine gl_nil ?_
            refine gx_then ?_
            refine gc_seq ?_
            refine gc_seq ?_
            refine gc_region ?_
            refine gl_op (op_rd rfl (rd_move rfl) ?_)
            refine gl_op (op_rd rfl (rd_neq rfl rfl) (gk_dec (fun he => ?_) (fun he => ?_)))
            · skip
              exact absurd he (by simp)
            · skip
              refine gl_op (op_rd rfl (rd_move rfl) ?_)
              refine gl_yes rfl rfl (op_rd rfl (rd_move rfl) ?_)
              refine gl_yes rfl rfl (op_rd rfl (rd_gtr rfl rfl) (gk_dec (fun hbig => ?_) (fun hbig => ?_)))
              · skip
                refine gl_op (op_rd rfl (rd_pick_f rfl rfl) ?_)
                refine gl_nil ?_
                refine gx_then ?_
                refine gc_cond_t rfl ?_
                refine gc_seq ?_
                refine gk_nil 3 1 ?_
                refine gk_nil 3 1 ?_
                refine gc_region ?_
                refine gl_op (op_rd rfl (rd_build rfl (fun _ => bd_50_)) ?_)
                first | refine gl_op (op_storeAgg 6 ty_50 rfl rfl rfl rfl rfl rfl (by first | rfl | (simp only [List.set_cons_succ, List.set_cons_zero]; exact rfl)) ?_) | refine gl_op (op_storeAgg 8 ty_50 rfl rfl rfl rfl rfl rfl (by first | rfl | (simp only [List.set_cons_succ, List.set_cons_zero]; exact rfl)) ?_) | refine gl_op (op_storeAgg 9 ty_50 rfl rfl rfl rfl rfl rfl (by first | rfl | (simp only [List.set_cons_succ, List.set_cons_zero]; exact rfl)) ?_)
                refine gl_op (op_rd rfl (rd_assign rfl) ?_)
                refine gl_nil ?_
                refine gx_then ?_
                refine gc_ret ?_
                refine gx_then_ret ?_
                refine gx_block_ret ?_
                refine gx_then_ret ?_
                refine gx_then_ret ?_
                refine gx_block_ret ?_
                refine gx_block_ret ?_
                refine gx_then_ret ?_
                refine gx_then_ret ?_
                refine gx_block_ret ?_
                refine gx_then_ret ?_
                refine gx_retV2 (.inl rfl) Try.results30 (rv_agg Try.underlying50 rfl ty_50 rfl (by rfl) (cs_blk 8 (off := 0) (k := 6) rfl rfl)) (rv_tmp rfl) [0, 1] (by decide) ?_
                rw [hA, ← hgo2, show 2 ^ ci - im = (2 ^ ci - (im + 1)) + 1 by omega, accIn_big hre (by omega)]
                exact ⟨none, 0, none, 0, rfl, rfl⟩
              · skip
                refine gl_op (op_rd rfl (rd_pick_f rfl rfl) ?_)
                refine gl_nil ?_
                refine gx_then ?_
                refine gc_cond_f rfl ?_
                refine gc_skip ?_
                refine gx_then ?_
                refine gc_seq ?_
                refine gc_region ?_
                refine gl_op (op_rd rfl (rd_loadAgg Try.underlying25 rfl ty_25 rfl (by first | exact cs_blk 4 (off := 0) (k := 3) rfl rfl | exact cs_blk 6 (off := 0) (k := 3) rfl rfl | exact cs_blk 7 (off := 0) (k := 3) rfl rfl | exact cs_old (by assumption) (by simp)) rfl) ?_)
                refine gl_op (op_rd rfl (rd_loadAgg Try.underlying91 rfl ty_91 rfl (by first | exact cs_blk 4 (off := 0) (k := 4) rfl rfl | exact cs_blk 6 (off := 0) (k := 4) rfl rfl | exact cs_blk 7 (off := 0) (k := 4) rfl rfl | exact cs_old (by assumption) (by simp)) rfl) ?_)
                refine gl_op (op_rd rfl (rd_move rfl) ?_)
                refine gl_op (op_call rfl (vf := []) (vc := []) rfl rfl Try.call62 (fun w ho => rrace_ok c im ns ⟨rowA rs, cs, rowA rf, cf, rowA rg, cg, rowA (some bp)⟩ w (RIn.mk' ho 0 1 2 3 rfl rfl rfl rfl) (hc.at ho) hgd himl hrg) ?_)
                rintro _ _ ⟨ra, ca, rb, cb, rfl, rfl⟩
                refine gl_op (op_alloc ty_40 rfl rfl (fun b13 => ?_))
                first | refine gl_op (op_storeAgg 0 ty_40 rfl rfl rfl rfl rfl rfl (by first | rfl | (simp only [List.set_cons_succ, List.set_cons_zero]; exact rfl)) ?_) | refine gl_op (op_storeAgg 7 ty_40 rfl rfl rfl rfl rfl rfl (by first | rfl | (simp only [List.set_cons_succ, List.set_cons_zero]; exact rfl)) ?_) | refine gl_op (op_storeAgg 9 ty_40 rfl rfl rfl rfl rfl rfl (by first | rfl | (simp only [List.set_cons_succ, List.set_cons_zero]; exact rfl)) ?_) | refine gl_op (op_storeAgg 10 ty_40 rfl rfl rfl rfl rfl rfl (by first | rfl | (simp only [List.set_cons_succ, List.set_cons_zero]; exact rfl)) ?_)
                refine gl_nil ?_
                refine gx_then ?_
                refine gc_seq ?_
                refine gc_seq ?_
                refine gc_region ?_
                refine gl_op (op_rd rfl (rd_fieldAddr rfl (fa_40_0 _)) ?_)
                refine gl_op (op_rd rfl (rd_load Try.underlying3 rfl rfl (by first | exact ld_blk 0 rfl rfl | exact ld_blk 7 rfl rfl | exact ld_blk 9 rfl rfl | exact ld_blk 10 rfl rfl | exact ld_rowN 1 rfl (get_nats (by omega)) | exact ld_rowN 2 rfl (get_nats (by omega)) | exact ld_rowN 3 rfl (get_nats (by omega)) | exact ld_rowN 4 rfl (get_nats (by omega)) | exact ld_rowN 5 rfl (get_nats (by omega)) | exact ld_rowN 6 rfl (get_nats (by omega)) | exact ld_rowN 8 rfl (get_nats (by omega)) | exact ld_slN (by assumption) (get_nats (by omega)) | exact ld_rowN 1 rfl (get_ints (by omega)) | exact ld_rowN 2 rfl (get_ints (by omega)) | exact ld_rowN 3 rfl (get_ints (by omega)) | exact ld_rowN 4 rfl (get_ints (by omega)) | exact ld_rowN 5 rfl (get_ints (by omega)) | exact ld_rowN 6 rfl (get_ints (by omega)) | exact ld_rowN 8 rfl (get_ints (by omega)) | exact ld_slN (by assumption) (get_ints (by omega)) | exact ld_old (by assumption) (by simp) | exact ld_cells (by assumption) (by simp) rfl)) ?_)
                refine gl_op (op_rd rfl (rd_neq rfl rfl) (gk_dec (fun hk => ?_) (fun hk => ?_)))
                · skip
                  refine gl_nil ?_
                  refine gx_then ?_
                  refine gc_cond_t rfl ?_
                  refine gc_seq ?_
                  refine gc_drawP [0, 1, 2, 3, 4, 5, 6, 7, 8, 9, 10] false 7 rfl ?_
                  refine ga_first 0 #[true, false, false, false, false, false, false, false, false] rfl rfl rfl rfl (by kernel_rfl) rfl ⟨[0, 1, 2, 3, 4, 5, 6, 7, 8, 9, 10], by decide, rfl⟩ (qt_rd (rd_move rfl)) ?_
                  refine ga_first 1 #[true, true, false, false, false, false, false, false, false] rfl rfl rfl rfl (by kernel_rfl) rfl ⟨[0, 1, 2, 3, 4, 5, 6, 7, 8, 9, 10], by decide, rfl⟩ (qt_rd (rd_move rfl)) ?_
                  refine ga_first 2 #[true, true, true, false, false, false, false, false, false] rfl rfl rfl rfl (by kernel_rfl) rfl ⟨[0, 1, 2, 3, 4, 5, 6, 7, 8, 9, 10], by decide, rfl⟩ (qt_rd (by first | exact rd_indexRow1 1 rfl Try.underlying23 ty_3 rfl rfl (by omega) (by omega) | exact rd_indexRow1 2 rfl Try.underlying23 ty_3 rfl rfl (by omega) (by omega) | exact rd_indexRow1 3 rfl Try.underlying23 ty_3 rfl rfl (by omega) (by omega) | exact rd_indexRow1 4 rfl Try.underlying23 ty_3 rfl rfl (by omega) (by omega) | exact rd_indexRow1 5 rfl Try.underlying23 ty_3 rfl rfl (by omega) (by omega) | exact rd_indexRow1 6 rfl Try.underlying23 ty_3 rfl rfl (by omega) (by omega) | exact rd_indexRow1 8 rfl Try.underlying23 ty_3 rfl rfl (by omega) (by omega) | exact rd_indexOld1 (by assumption) Try.underlying23 ty_3 rfl rfl (by omega) (by omega) | exact rd_index1 Try.underlying23 ty_3 rfl rfl (by omega) (by omega))) ?_
                  refine ga_first 3 #[true, true, true, true, false, false, false, false, false] rfl rfl rfl rfl (by kernel_rfl) rfl ⟨[0, 1, 2, 3, 4, 5, 6, 7, 8, 9, 10], by decide, rfl⟩ (qt_rd (rd_load Try.underlying3 rfl rfl (by first | exact ld_rowN 0 rfl (get_nats (by omega)) | exact ld_rowN 1 rfl (get_nats (by omega)) | exact ld_rowN 2 rfl (get_nats (by omega)) | exact ld_rowN 3 rfl (get_nats (by omega)) | exact ld_rowN 4 rfl (get_nats (by omega)) | exact ld_rowN 5 rfl (get_nats (by omega)) | exact ld_rowN 6 rfl (get_nats (by omega)) | exact ld_rowN 7 rfl (get_nats (by omega)) | exact ld_rowN 8 rfl (get_nats (by omega)) | exact ld_rowN 9 rfl (get_nats (by omega)) | exact ld_rowN 10 rfl (get_nats (by omega)) | exact ld_rowN 11 rfl (get_nats (by omega))))) ?_
                  rw [hsd]
                  refine ga_first 4 #[true, true, true, true, true, false, false, false, false] rfl rfl rfl rfl (by kernel_rfl) rfl ⟨[0, 1, 2, 3, 4, 5, 6, 7, 8, 9, 10], by decide, rfl⟩ (qt_rd (rd_move rfl)) ?_
                  refine ga_first 5 #[true, true, true, true, true, true, false, false, false] rfl rfl rfl rfl (by kernel_rfl) rfl ⟨[0, 1, 2, 3, 4, 5, 6, 7, 8, 9, 10], by decide, rfl⟩ (qt_rd (rd_loadAgg Try.underlying40 rfl ty_40 rfl (by first | exact cs_blk 0 (off := 0) (k := 3) rfl rfl | exact cs_blk 7 (off := 0) (k := 3) rfl rfl | exact cs_blk 9 (off := 0) (k := 3) rfl rfl | exact cs_blk 10 (off := 0) (k := 3) rfl rfl | exact cs_old (by assumption) (by simp)) rfl)) ?_
                  refine ga_first 6 #[true, true, true, true, true, true, true, false, false] rfl rfl rfl rfl (by kernel_rfl) rfl ⟨[0, 1, 2, 3, 4, 5, 6, 7, 8, 9, 10], by decide, rfl⟩ (qt_rd (rd_build rfl (fun _ => bd_50_1_2_3 _ _ _ _ _ _ _ _ _))) ?_
                  first | refine ga_only 7 #[true, true, true, true, true, true, true, true, false] rfl rfl (by kernel_rfl) rfl (.inr ⟨[0, 1, 2, 3, 4, 5, 6, 7, 8, 9, 10], by decide, rfl⟩) (op_storeAgg 0 ty_50 rfl rfl rfl rfl rfl rfl (by first | rfl | (simp only [List.set_cons_succ, List.set_cons_zero]; exact rfl)) ?_) | refine ga_only 7 #[true, true, true, true, true, true, true, true, false] rfl rfl (by kernel_rfl) rfl (.inr ⟨[0, 1, 2, 3, 4, 5, 6, 7, 8, 9, 10], by decide, rfl⟩) (op_storeAgg 7 ty_50 rfl rfl rfl rfl rfl rfl (by first | rfl | (simp only [List.set_cons_succ, List.set_cons_zero]; exact rfl)) ?_) | refine ga_only 7 #[true, true, true, true, true, true, true, true, false] rfl rfl (by kernel_rfl) rfl (.inr ⟨[0, 1, 2, 3, 4, 5, 6, 7, 8, 9, 10], by decide, rfl⟩) (op_storeAgg 9 ty_50 rfl rfl rfl rfl rfl rfl (by first | rfl | (simp only [List.set_cons_succ, List.set_cons_zero]; exact rfl)) ?_) | refine ga_only 7 #[true, true, true, true, true, true, true, true, false] rfl rfl (by kernel_rfl) rfl (.inr ⟨[0, 1, 2, 3, 4, 5, 6, 7, 8, 9, 10], by decide, rfl⟩) (op_storeAgg 10 ty_50 rfl rfl rfl rfl rfl rfl (by first | rfl | (simp only [List.set_cons_succ, List.set_cons_zero]; exact rfl)) ?_)
                  refine ga_only 8 #[true, true, true, true, true, true, true, true, true] rfl rfl (by kernel_rfl) rfl (.inl (by kernel_rfl)) (op_rd rfl (rd_assign rfl) ?_)
                  refine ga_end (by kernel_rfl) (.inl (by kernel_rfl)) ?_
                  refine gx_then ?_
                  refine gc_ret ?_
                  refine gx_then_ret ?_
                  refine gx_block_ret ?_
                  refine gx_then_ret ?_
                  refine gx_then_ret ?_
                  refine gx_block_ret ?_
                  refine gx_block_ret ?_
                  refine gx_then_ret ?_
                  refine gx_then_ret ?_
                  refine gx_block_ret ?_
                  refine gx_then_ret ?_
                  refine gx_retV2 (.inl rfl) Try.results30 (rv_agg Try.underlying50 rfl ty_50 rfl (by rfl) (cs_blk 9 (off := 0) (k := 6) rfl rfl)) (rv_tmp rfl) [1, 2] (by decide) ?_
                  rw [hA, ← hgo2, show 2 ^ ci - im = (2 ^ ci - (im + 1)) + 1 by omega, accIn_race hre (by omega) (by omega)]
                  exact ⟨ra, ca, rb, cb, rfl, rfl⟩
                · skip
                  have hk0 : (raceP c im ns).kind = 0 := by omega
                  have hsetl := settled_lt hgd himl hs hre hk0
                  have hset12 := st_lt hgd hsetl
                  refine gl_nil ?_
                  refine gx_then ?_
                  refine gc_cond_f rfl ?_
                  refine gc_skip ?_
                  refine gx_then ?_
                  refine gc_seq ?_
                  refine gc_region ?_
                  refine gl_op (op_rd rfl (rd_loadAgg Try.underlying25 rfl ty_25 rfl (by first | exact cs_blk 0 (off := 0) (k := 3) rfl rfl | exact cs_blk 7 (off := 0) (k := 3) rfl rfl | exact cs_blk 9 (off := 0) (k := 3) rfl rfl | exact cs_blk 10 (off := 0) (k := 3) rfl rfl | exact cs_old (by assumption) (by simp)) rfl) ?_)
                  refine gl_op (op_rd rfl (rd_loadAgg Try.underlying91 rfl ty_91 rfl (by first | exact cs_blk 0 (off := 0) (k := 4) rfl rfl | exact cs_blk 7 (off := 0) (k := 4) rfl rfl | exact cs_blk 9 (off := 0) (k := 4) rfl rfl | exact cs_blk 10 (off := 0) (k := 4) rfl rfl | exact cs_old (by assumption) (by simp)) rfl) ?_)
                  refine gl_op (op_rd rfl (rd_move rfl) ?_)
                  refine gl_op (op_call rfl (vf := []) (vc := []) rfl rfl Try.call63 (fun w ho => rsettle_ok c im ns ⟨rowA rs, cs, rowA rf, cf, rowA rg, cg, rowA (some bp)⟩ w (RIn.mk' ho 3 4 5 6 rfl rfl rfl rfl) (hc.at ho) hgd himl hrg) ?_)
                  rintro _ _ ⟨rfl, rfl⟩
                  rw [if_pos hk0]
                  refine gl_op (op_rd rfl (rd_move rfl) ?_)
                  refine gl_op (op_rd rfl (rd_extract rfl rfl) ?_)
                  refine gl_op (op_rd rfl (rd_extract rfl rfl) ?_)
                  refine gl_op (op_rd rfl (rd_assign rfl) ?_)
                  refine gl_op (op_rd rfl (rd_assign rfl) ?_)
                  refine gl_nil ?_
                  refine gx_then ?_
                  refine gc_seq ?_
                  refine gc_region ?_
                  refine gl_op (op_rd rfl (rd_move rfl) ?_)
                  refine gl_op (op_rd rfl (rd_move rfl) ?_)
                  refine gl_op (op_call rfl (vf := []) (vc := []) rfl rfl Try.call64 (fun w ho => rhas_nats_ok l (rowA rl) cl _ w (ho.rowSl 8 rfl) (by omega)) ?_)
                  rintro _ _ ⟨rfl, rfl⟩
                  refine gk_bool (fun hmm => ?_) (fun hmm => ?_)
                  · skip
                    have hmem := of_decide_eq_true hmm
                    refine gl_op (op_rd rfl (rd_not rfl) ?_)
                    refine gl_nil ?_
                    refine gx_then ?_
                    refine gc_cond_f rfl ?_
                    refine gc_skip ?_
                    refine gx_block ?_
                    refine gx_then ?_
                    refine gc_region ?_
                    refine gl_op (op_rd rfl (rd_move rfl) ?_)
                    refine gl_op (op_rd rfl (by first | exact rd_addN (b := 1) rfl rfl (by omega) | exact rd_add rfl rfl (by omega) (by omega)) ?_)
                    refine gl_op (op_rd rfl (rd_assign rfl) ?_)
                    refine gl_nil ?_
                    refine gx_then ?_
                    exact gx_cut ((im + 1, l, wk + ns.length, rl, cl)) ⟨⟨by simp only; omega, by simp only; rw [← hgo2, show 2 ^ ci - im = (2 ^ ci - (im + 1)) + 1 by omega, accIn_step hre (by omega) (by omega), push_t hmem], hnd, hlt, by simp only; omega, hsl⟩, by simp only; omega⟩ ⟨rfl, rfl, rfl, rfl, rfl, rfl, trivial⟩ ⟨[8, 9, 10], by decide, rfl⟩
                  · skip
                    have hmem := of_decide_eq_false hmm
                    refine gl_op (op_rd rfl (rd_not rfl) ?_)
                    refine gl_nil ?_
                    refine gx_then ?_
                    refine gc_cond_t rfl ?_
                    refine gc_region ?_
                    refine gl_op (op_rd rfl (rd_move rfl) ?_)
                    refine gl_op (op_rd rfl (rd_move rfl) ?_)
                    refine gl_op (op_buildSlice (sz := 1) rfl rfl (fun _ => bs_23_1_0 _) rfl rfl (fun b88 => ?_))
                    refine gl_op (op_appendRow 9 0 Try.underlying23 ty_3 rfl (by decide) rfl rfl rfl rfl rfl (by simp [Value.oneCell']) (by omega) (by omega) (fun _ => (by first | rfl | (simp only [List.set_cons_succ, List.set_cons_zero]; exact rfl))) (fun r89 c89 => ?_))
                    refine gl_op (op_rd rfl (rd_assign rfl) ?_)
                    refine gl_nil ?_
                    refine gx_block ?_
                    refine gx_then ?_
                    rw [snocN, snoc_len l (settledP c im ns)]
                    refine gc_region ?_
                    refine gl_op (op_rd rfl (rd_move rfl) ?_)
                    refine gl_op (op_rd rfl (by first | exact rd_addN (b := 1) rfl rfl (by omega) | exact rd_add rfl rfl (by omega) (by omega)) ?_)
                    refine gl_op (op_rd rfl (rd_assign rfl) ?_)
                    refine gl_nil ?_
                    refine gx_then ?_
                    exact gx_cut ((im + 1, l ++ [settledP c im ns], wk + ns.length, r89, c89)) ⟨⟨by simp only; omega, by simp only; rw [← hgo2, show 2 ^ ci - im = (2 ^ ci - (im + 1)) + 1 by omega, accIn_step hre (by omega) (by omega), push_f hmem], push_nd hnd hmem, push_lt hlt hsetl, by simp only; omega, get_push hsl⟩, by simp only; omega⟩ ⟨rfl, rfl, rfl, rfl, rfl, rfl, trivial⟩ ⟨[9, 10, 11], by decide, rfl⟩
          · skip
            simp only [Int.toNat_natCast] at hre
            refine ga_first 7 #[true, true, true, true, true, true, true, true, false, false, true, false, false] rfl rfl rfl rfl (by kernel_rfl) rfl ⟨[1, 2, 3], by decide, rfl⟩ (qt_rd (rd_move rfl)) ?_
            refine ga_first 8 #[true, true, true, true, true, true, true, true, true, false, true, false, false] rfl rfl rfl rfl (by kernel_rfl) rfl ⟨[1, 2, 3], by decide, rfl⟩ (qt_rd (rd_extract rfl rfl)) ?_
            refine ga_first 9 #[true, true, true, true, true, true, true, true, true, true, true, false, false] rfl rfl rfl rfl (by kernel_rfl) rfl ⟨[1, 2, 3], by decide, rfl⟩ (qt_rd (rd_extract rfl rfl)) ?_
            first | refine ga_only 11 #[true, true, true, true, true, true, true, true, true, true, true, true, false] rfl rfl (by kernel_rfl) rfl (.inr ⟨[1, 2, 3], by decide, rfl⟩) (op_storeAgg 0 ty_91 rfl rfl rfl rfl rfl rfl (by first | rfl | (simp only [List.set_cons_succ, List.set_cons_zero]; exact rfl)) ?_) | refine ga_only 11 #[true, true, true, true, true, true, true, true, true, true, true, true, false] rfl rfl (by kernel_rfl) rfl (.inr ⟨[1, 2, 3], by decide, rfl⟩) (op_storeAgg 2 ty_91 rfl rfl rfl rfl rfl rfl (by first | rfl | (simp only [List.set_cons_succ, List.set_cons_zero]; exact rfl)) ?_) | refine ga_only 11 #[true, true, true, true, true, true, true, true, true, true, true, true, false] rfl rfl (by kernel_rfl) rfl (.inr ⟨[1, 2, 3], by decide, rfl⟩) (op_storeAgg 3 ty_91 rfl rfl rfl rfl rfl rfl (by first | rfl | (simp only [List.set_cons_succ, List.set_cons_zero]; exact rfl)) ?_)
            refine ga_only 12 #[true, true, true, true, true, true, true, true, true, true, true, true, true] rfl rfl (by kernel_rfl) rfl (.inr ⟨[1, 2, 3], by decide, rfl⟩) (op_rd rfl (rd_assign rfl) ?_)
            refine ga_end (by kernel_rfl) (.inl (by kernel_rfl)) ?_
            refine gx_then ?_
            refine gc_seq ?_
            refine gc_region ?_
            refine gl_op (op_rd rfl (rd_move rfl) ?_)
            refine gl_op (op_rd rfl (rd_fieldAddr rfl (fa_91_0 _)) ?_)
            refine gl_op (op_rd rfl (rd_load Try.underlying23 rfl rfl (by first | exact ld_blk 0 rfl rfl | exact ld_blk 2 rfl rfl | exact ld_blk 3 rfl rfl | exact ld_old (by assumption) (by simp) | exact ld_cells (by assumption) (by simp) rfl)) ?_)
            refine gl_op (op_rd rfl (rd_lenSlice Try.underlying23 rfl) ?_)
            refine gl_op (op_rd rfl (by first | exact rd_addN rfl rfl (by omega) | exact rd_add rfl rfl (by omega) (by omega)) ?_)
            refine gl_op (op_rd rfl (rd_assign rfl) ?_)
            refine gl_nil ?_
            refine gx_then ?_
            refine gc_seq ?_
            refine gc_seq ?_
            refine gc_region ?_
            refine gl_op (op_rd rfl (rd_move rfl) ?_)
            refine gl_op (op_rd rfl (rd_neq rfl rfl) (gk_dec (fun he => ?_) (fun he => ?_)))
            · skip
              refine gl_op (op_rd rfl (rd_move rfl) ?_)
              refine gl_no rfl rfl rfl ?_
              refine gl_no rfl rfl rfl ?_
              refine gl_op (op_rd rfl (rd_pick_t rfl rfl) ?_)
              refine gl_nil ?_
              refine gx_then ?_
              refine gc_cond_t rfl ?_
              refine gc_seq ?_
              refine gk_nil 3 1 ?_
              refine gk_nil 3 1 ?_
              refine gc_region ?_
              refine gl_op (op_rd rfl (rd_build rfl (fun _ => bd_50_)) ?_)
              first | refine gl_op (op_storeAgg 2 ty_50 rfl rfl rfl rfl rfl rfl (by first | rfl | (simp only [List.set_cons_succ, List.set_cons_zero]; exact rfl)) ?_) | refine gl_op (op_storeAgg 4 ty_50 rfl rfl rfl rfl rfl rfl (by first | rfl | (simp only [List.set_cons_succ, List.set_cons_zero]; exact rfl)) ?_) | refine gl_op (op_storeAgg 5 ty_50 rfl rfl rfl rfl rfl rfl (by first | rfl | (simp only [List.set_cons_succ, List.set_cons_zero]; exact rfl)) ?_)
              refine gl_op (op_rd rfl (rd_assign rfl) ?_)
              refine gl_nil ?_
              refine gx_then ?_
              refine gc_ret ?_
              refine gx_then_ret ?_
              refine gx_block_ret ?_
              refine gx_then_ret ?_
              refine gx_then_ret ?_
              refine gx_block_ret ?_
              refine gx_block_ret ?_
              refine gx_then_ret ?_
              refine gx_then_ret ?_
              refine gx_block_ret ?_
              refine gx_then_ret ?_
              refine gx_retV2 (.inl rfl) Try.results30 (rv_agg Try.underlying50 rfl ty_50 rfl (by rfl) (cs_blk 4 (off := 0) (k := 6) rfl rfl)) (rv_tmp rfl) [0, 1] (by decide) ?_
              rw [hA, ← hgo2, show 2 ^ ci - im = (2 ^ ci - (im + 1)) + 1 by omega, accIn_full hre]
              exact ⟨none, 0, none, 0, rfl, rfl⟩
            · skip
              exact absurd he (by simp)
          · skip
            exact absurd hrdy hr
      · skip
        refine gl_nil ?_
        refine gx_then ?_
        refine gc_cond_f rfl ?_
        refine gc_exit ?_
        refine gx_then_exit ?_
        refine gx_then_exit ?_
        refine gx_block_exit ?_
        refine gx_block ?_
        refine gx_then ?_
        refine gc_region ?_
        refine gl_op (op_rd rfl (rd_move rfl) ?_)
        refine gl_op (op_rd rfl (by first | exact rd_addN (b := 1) rfl rfl (by omega) | exact rd_add rfl rfl (by omega) (by omega)) ?_)
        refine gl_op (op_rd rfl (rd_assign rfl) ?_)
        refine gl_nil ?_
        refine gx_then ?_
        exact gx_cut ((i + 1, l, wk, rl, cl)) ⟨⟨hil, by simp only; rw [← hgo2, show 2 ^ ci - im = 0 by omega, show 5000 - (i + 1) = 4999 - i by omega]; rfl, hnd, hlt, hwk⟩, by simp only; omega⟩ ⟨rfl, rfl, rfl, rfl, rfl, trivial⟩ ⟨[0, 1, 2], by decide, rfl⟩
    · skip
      refine gl_nil ?_
      refine gx_then ?_
      refine gc_cond_f rfl ?_
      refine gc_exit ?_
      refine gx_then_exit ?_
      refine gx_then_exit ?_
      refine gx_block_exit ?_
      refine gx_then ?_
      refine gc_seq ?_
      refine gk_nil 3 1 ?_
      refine gk_nil 3 1 ?_
      refine gc_region ?_
      refine gl_op (op_rd rfl (rd_build rfl (fun _ => bd_50_0 _)) ?_)
      first | refine gl_op (op_storeAgg 3 ty_50 rfl rfl rfl rfl rfl rfl (by first | rfl | (simp only [List.set_cons_succ, List.set_cons_zero]; exact rfl)) ?_) | refine gl_op (op_storeAgg 4 ty_50 rfl rfl rfl rfl rfl rfl (by first | rfl | (simp only [List.set_cons_succ, List.set_cons_zero]; exact rfl)) ?_)
      refine gl_op (op_rd rfl (rd_assign rfl) ?_)
      refine gl_nil ?_
      refine gx_then ?_
      refine gc_ret ?_
      refine gx_retV2 (.inl rfl) Try.results30 (rv_agg Try.underlying50 rfl ty_50 rfl (by rfl) (cs_blk 3 (off := 0) (k := 6) rfl rfl)) (rv_tmp rfl) [0, 1] (by decide) ?_
      rw [hA, ← hgo, accGo_end (by omega)]
      exact ⟨none, 0, none, 0, rfl, rfl⟩

end Go.Proofs.Yteocjpnckciboaa
