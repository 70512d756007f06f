import Derived.Test.YteocjpnckciboaaWb
import Derived.Test.YteocjpnckciboaaOp
/- This text proves RelaysNextsSaid: for every circuit, state and input RelaysNexts returns true, and its arguments read as before. -/
set_option linter.unusedSimpArgs false
set_option linter.unusedVariables false
set_option linter.unnecessarySimpa false
set_option autoImplicit false
set_option linter.unusedVariables false
namespace Go.Proofs.Yteocjpnckciboaa
open Go.Gv
open Go.RowKit
open Ry
theorem oldNil (w : World) : OldSl w [] none 0 1 (([] : List Nat).map natV) := ⟨rfl, fun h => absurd h (by decide), fun j v hv => by simp at hv, fun h => absurd h (by decide)⟩
theorem sameNats_t (xs ys : List Nat) (a b : Option Addr) (cp cq : Nat) (w0 : World) (hxs : OldSl w0 [] a xs.length 1 (xs.map natV)) (hys : OldSl w0 [] b ys.length 1 (ys.map natV)) (hb : xs.length ≤ 140737488355328) (he : xs = ys) : Sp Try.prog 25 [.slice a xs.length cp, .slice b ys.length cq] w0 [] (RV (.bool true)) := by
  have h := sameNats_ok xs ys a b cp cq w0 hxs hys hb
  rw [decide_eq_true he] at h
  exact h

set_option maxRecDepth 100000 in
set_option maxHeartbeats 1000000 in
theorem RelaysNexts_ok (c : Circ) (st inn : Int) (w0 : World) (hc : c.In w0 []) (hst : st ≤ 9223372036854775807) (hin : inn ≤ 9223372036854775807) (hF : ∀ (c : Circ) (im : Nat), im < 2 ^ c.inputs.toNat → c.Good → Facts c im) : Sp Try.prog 5 [c.val, .int .i64 st, .int .i64 inn] w0 [] (RV (.bool true)) := by
  have hg12 : c.ready st inn = 0 → c.gates.length ≤ 12 := fun h => (Circ.good (Circ.of_ready h).1).g12
  refine spec_enter Try.func5 rfl Try.ntmps5 rfl (Own.refl _) ?_
  simp only [argEnv]
  refine gc_seq ?_
  refine gc_region ?_
  refine gl_op (op_box rfl rfl rfl (fun b3 => ?_))
  refine gl_op (op_rd rfl (rd_assign rfl) ?_)
  refine gl_nil ?_
  refine gx_then ?_
  refine gc_seq ?_
  refine gc_region ?_
  refine gl_op (op_rd rfl (rd_loadAgg Try.underlying25 rfl ty_25 rfl (by first | exact cs_blk 0 (off := 0) (k := 3) rfl rfl | exact cs_old (by assumption) (by simp)) rfl) ?_)
  refine gl_op (op_rd rfl (rd_move rfl) ?_)
  refine gl_op (op_rd rfl (rd_move rfl) ?_)
  refine gl_op (op_call rfl (vf := []) (vc := []) rfl rfl Try.call19 (fun w ho => Next_ok c st inn w (hc.at ho) hst hin) ?_)
  rintro _ _ (⟨hr, r1, cp1, rfl, rfl⟩ | ⟨hr, rfl, rfl⟩)
  · skip
    refine gl_op (op_rd rfl (rd_move rfl) ?_)
    refine gl_op (op_rd rfl (rd_extract rfl rfl) ?_)
    refine gl_op (op_rd rfl (rd_extract rfl rfl) ?_)
    refine gl_op (op_rd rfl (rd_assign rfl) ?_)
    refine gl_op (op_rd rfl (rd_assign rfl) ?_)
    refine gl_nil ?_
    refine gx_then ?_
    refine gc_seq ?_
    refine gc_region ?_
    refine gl_op (op_rd rfl (rd_loadAgg Try.underlying25 rfl ty_25 rfl (by first | exact cs_blk 1 (off := 0) (k := 3) rfl rfl | exact cs_old (by assumption) (by simp)) rfl) ?_)
    refine gl_op (op_rd rfl (rd_move rfl) ?_)
    refine gl_op (op_rd rfl (rd_move rfl) ?_)
    refine gl_op (op_call rfl (vf := []) (vc := []) rfl rfl Try.call20 (fun w ho => rNext_ok c st inn w (hc.at ho) hst hin) ?_)
    rintro _ _ (⟨hr2, r2, cp2, rfl, rfl⟩ | ⟨hr2, rfl, rfl⟩)
    · skip
      refine gl_op (op_rd rfl (rd_move rfl) ?_)
      refine gl_op (op_rd rfl (rd_extract rfl rfl) ?_)
      refine gl_op (op_rd rfl (rd_extract rfl rfl) ?_)
      refine gl_op (op_rd rfl (rd_assign rfl) ?_)
      refine gl_op (op_rd rfl (rd_assign rfl) ?_)
      refine gl_nil ?_
      refine gx_then ?_
      refine gc_seq ?_
      refine gc_region ?_
      refine gl_op (op_rd rfl (rd_loadAgg Try.underlying25 rfl ty_25 rfl (by first | exact cs_blk 2 (off := 0) (k := 3) rfl rfl | exact cs_old (by assumption) (by simp)) rfl) ?_)
      refine gl_op (op_rd rfl (rd_move rfl) ?_)
      refine gl_op (op_rd rfl (rd_move rfl) ?_)
      refine gl_op (op_call rfl (vf := []) (vc := []) rfl rfl Try.call21 (fun w ho => Outputs_ok c st inn w (hc.at ho) hst hin) ?_)
      rintro _ _ ⟨rfl, rfl⟩
      refine gl_op (op_rd rfl (rd_move rfl) ?_)
      refine gl_op (op_rd rfl (rd_extract rfl rfl) ?_)
      refine gl_op (op_rd rfl (rd_extract rfl rfl) ?_)
      refine gl_op (op_rd rfl (rd_assign rfl) ?_)
      refine gl_op (op_rd rfl (rd_assign rfl) ?_)
      refine gl_nil ?_
      refine gx_then ?_
      refine gc_seq ?_
      refine gc_region ?_
      refine gl_op (op_rd rfl (rd_loadAgg Try.underlying25 rfl ty_25 rfl (by first | exact cs_blk 2 (off := 0) (k := 3) rfl rfl | exact cs_old (by assumption) (by simp)) rfl) ?_)
      refine gl_op (op_rd rfl (rd_move rfl) ?_)
      refine gl_op (op_rd rfl (rd_move rfl) ?_)
      refine gl_op (op_call rfl (vf := []) (vc := []) rfl rfl Try.call22 (fun w ho => rOutputs_ok c st inn w (hc.at ho) hst hin) ?_)
      rintro _ _ ⟨rfl, rfl⟩
      refine gl_op (op_rd rfl (rd_move rfl) ?_)
      refine gl_op (op_rd rfl (rd_extract rfl rfl) ?_)
      refine gl_op (op_rd rfl (rd_extract rfl rfl) ?_)
      refine gl_op (op_rd rfl (rd_assign rfl) ?_)
      refine gl_op (op_rd rfl (rd_assign rfl) ?_)
      refine gl_nil ?_
      refine gx_then ?_
      refine gc_seq ?_
      refine gc_drawP [0, 1, 2] true 28 rfl ?_
      refine ga_first 0 #[true, false, false, false, false, false, false, false, false, false, false, false, false, false, false, false, false, false, false, false, false, false, false, false, false, false, false, false, false] rfl rfl rfl rfl (by kernel_rfl) rfl ⟨[0, 1, 2], by decide, rfl⟩ (qt_rd (rd_loadAgg Try.underlying25 rfl ty_25 rfl (by first | exact cs_blk 2 (off := 0) (k := 3) rfl rfl | exact cs_old (by assumption) (by simp)) rfl)) ?_
      refine ga_first 1 #[true, true, false, false, false, false, false, false, false, false, false, false, false, false, false, false, false, false, false, false, false, false, false, false, false, false, false, false, false] rfl rfl rfl rfl (by kernel_rfl) rfl ⟨[0, 1, 2], by decide, rfl⟩ (qt_call (vf := []) (vc := []) rfl rfl Try.call23 (fun w ho => check_ok c w (hc.at ho)) (by rintro _ _ ⟨h, _⟩; exact h)) ?_
      refine ga_first 2 #[true, true, true, false, false, false, false, false, false, false, false, false, false, false, false, false, false, false, false, false, false, false, false, false, false, false, false, false, false] rfl rfl rfl rfl (by kernel_rfl) rfl ⟨[0, 1, 2], by decide, rfl⟩ (qt_rd (rd_loadAgg Try.underlying25 rfl ty_25 rfl (by first | exact cs_blk 2 (off := 0) (k := 3) rfl rfl | exact cs_old (by assumption) (by simp)) rfl)) ?_
      refine ga_first 3 #[true, true, true, true, false, false, false, false, false, false, false, false, false, false, false, false, false, false, false, false, false, false, false, false, false, false, false, false, false] rfl rfl rfl rfl (by kernel_rfl) rfl ⟨[0, 1, 2], by decide, rfl⟩ (qt_call (vf := []) (vc := []) rfl rfl Try.call24 (fun w ho => rcheck_ok c w (hc.at ho)) (by rintro _ _ ⟨h, _⟩; exact h)) ?_
      refine ga_first 4 #[true, true, true, true, true, false, false, false, false, false, false, false, false, false, false, false, false, false, false, false, false, false, false, false, false, false, false, false, false] rfl rfl rfl rfl (by kernel_rfl) rfl ⟨[0, 1, 2], by decide, rfl⟩ (qt_rd (rd_eql rfl rfl)) (gk_dec (fun h47 => ?_) (fun h47 => ?_))
      · skip
        refine ga_first 5 #[true, true, true, true, true, true, false, false, false, false, false, false, false, false, false, false, false, false, false, false, false, false, false, false, false, false, false, false, false] rfl rfl rfl rfl (by kernel_rfl) rfl ⟨[0, 1, 2], by decide, rfl⟩ (qt_rd (rd_move rfl)) ?_
        refine ga_firstY 6 #[true, true, true, true, true, true, true, false, false, false, false, false, false, false, false, false, false, false, false, false, false, false, false, false, false, false, false, false, false] rfl rfl rfl rfl rfl rfl (by kernel_rfl) rfl ⟨[0, 1, 2], by decide, rfl⟩ (qt_rd (rd_move rfl)) ?_
        refine ga_firstY 7 #[true, true, true, true, true, true, true, true, false, false, false, false, false, false, false, false, false, false, false, false, false, false, false, false, false, false, false, false, false] rfl rfl rfl rfl rfl rfl (by kernel_rfl) rfl ⟨[0, 1, 2], by decide, rfl⟩ (qt_rd (rd_move rfl)) ?_
        refine ga_firstY 8 #[true, true, true, true, true, true, true, true, true, false, false, false, false, false, false, false, false, false, false, false, false, false, false, false, false, false, false, false, false] rfl rfl rfl rfl rfl rfl (by kernel_rfl) rfl ⟨[0, 1, 2], by decide, rfl⟩ (qt_call (vf := []) (vc := []) rfl rfl Try.call25 (fun w ho => sameNats_t _ _ _ _ _ _ w (ho.rowSl 1 rfl) (ho.rowSl 0 rfl) (by have := nextL_len c st.toNat inn.toNat; have := hg12 hr; omega) rfl) (by rintro _ _ ⟨h, _⟩; exact h)) ?_
        refine ga_first 9 #[true, true, true, true, true, true, true, true, true, true, false, false, false, false, false, false, false, false, false, false, false, false, false, false, false, false, false, false, false] rfl rfl rfl rfl (by kernel_rfl) rfl ⟨[0, 1, 2], by decide, rfl⟩ (qt_rd (rd_pick_t rfl rfl)) ?_
        refine ga_first 10 #[true, true, true, true, true, true, true, true, true, true, true, false, false, false, false, false, false, false, false, false, false, false, false, false, false, false, false, false, false] rfl rfl rfl rfl (by kernel_rfl) rfl ⟨[0, 1, 2], by decide, rfl⟩ (qt_rd (rd_move rfl)) ?_
        refine ga_firstY 11 #[true, true, true, true, true, true, true, true, true, true, true, true, false, false, false, false, false, false, false, false, false, false, false, false, false, false, false, false, false] rfl rfl rfl rfl rfl rfl (by kernel_rfl) rfl ⟨[0, 1, 2], by decide, rfl⟩ (qt_rd (rd_move rfl)) ?_
        refine ga_firstY 12 #[true, true, true, true, true, true, true, true, true, true, true, true, true, false, false, false, false, false, false, false, false, false, false, false, false, false, false, false, false] rfl rfl rfl rfl rfl rfl (by kernel_rfl) rfl ⟨[0, 1, 2], by decide, rfl⟩ (qt_rd (rd_move rfl)) ?_
        refine ga_firstY 13 #[true, true, true, true, true, true, true, true, true, true, true, true, true, true, false, false, false, false, false, false, false, false, false, false, false, false, false, false, false] rfl rfl rfl rfl rfl rfl (by kernel_rfl) rfl ⟨[0, 1, 2], by decide, rfl⟩ (qt_rd (rd_eql rfl rfl)) (gk_dec (fun h56 => ?_) (fun h56 => ?_))
        · skip
          refine ga_first 14 #[true, true, true, true, true, true, true, true, true, true, true, true, true, true, true, false, false, false, false, false, false, false, false, false, false, false, false, false, false] rfl rfl rfl rfl (by kernel_rfl) rfl ⟨[0, 1, 2], by decide, rfl⟩ (qt_rd (rd_pick_t rfl rfl)) ?_
          refine ga_first 15 #[true, true, true, true, true, true, true, true, true, true, true, true, true, true, true, true, false, false, false, false, false, false, false, false, false, false, false, false, false] rfl rfl rfl rfl (by kernel_rfl) rfl ⟨[0, 1, 2], by decide, rfl⟩ (qt_rd (rd_move rfl)) ?_
          refine ga_firstY 16 #[true, true, true, true, true, true, true, true, true, true, true, true, true, true, true, true, true, false, false, false, false, false, false, false, false, false, false, false, false] rfl rfl rfl rfl rfl rfl (by kernel_rfl) rfl ⟨[0, 1, 2], by decide, rfl⟩ (qt_rd (rd_move rfl)) ?_
          refine ga_firstY 17 #[true, true, true, true, true, true, true, true, true, true, true, true, true, true, true, true, true, true, false, false, false, false, false, false, false, false, false, false, false] rfl rfl rfl rfl rfl rfl (by kernel_rfl) rfl ⟨[0, 1, 2], by decide, rfl⟩ (qt_rd (rd_move rfl)) ?_
          refine ga_firstY 18 #[true, true, true, true, true, true, true, true, true, true, true, true, true, true, true, true, true, true, true, false, false, false, false, false, false, false, false, false, false] rfl rfl rfl rfl rfl rfl (by kernel_rfl) rfl ⟨[0, 1, 2], by decide, rfl⟩ (qt_rd (rd_eql rfl rfl)) (gk_dec (fun h61 => ?_) (fun h61 => ?_))
          · skip
            refine ga_first 19 #[true, true, true, true, true, true, true, true, true, true, true, true, true, true, true, true, true, true, true, true, false, false, false, false, false, false, false, false, false] rfl rfl rfl rfl (by kernel_rfl) rfl ⟨[0, 1, 2], by decide, rfl⟩ (qt_rd (rd_pick_t rfl rfl)) ?_
            refine ga_first 20 #[true, true, true, true, true, true, true, true, true, true, true, true, true, true, true, true, true, true, true, true, true, false, false, false, false, false, false, false, false] rfl rfl rfl rfl (by kernel_rfl) rfl ⟨[0, 1, 2], by decide, rfl⟩ (qt_rd (rd_move rfl)) ?_
            refine ga_firstY 21 #[true, true, true, true, true, true, true, true, true, true, true, true, true, true, true, true, true, true, true, true, true, true, false, false, false, false, false, false, false] rfl rfl rfl rfl rfl rfl (by kernel_rfl) rfl ⟨[0, 1, 2], by decide, rfl⟩ (qt_rd (rd_move rfl)) ?_
            refine ga_firstY 22 #[true, true, true, true, true, true, true, true, true, true, true, true, true, true, true, true, true, true, true, true, true, true, true, false, false, false, false, false, false] rfl rfl rfl rfl rfl rfl (by kernel_rfl) rfl ⟨[0, 1, 2], by decide, rfl⟩ (qt_rd (rd_move rfl)) ?_
            refine ga_firstY 23 #[true, true, true, true, true, true, true, true, true, true, true, true, true, true, true, true, true, true, true, true, true, true, true, true, false, false, false, false, false] rfl rfl rfl rfl rfl rfl (by kernel_rfl) rfl ⟨[0, 1, 2], by decide, rfl⟩ (qt_rd (rd_eql rfl rfl)) (gk_dec (fun h66 => ?_) (fun h66 => ?_))
            · skip
              refine ga_first 24 #[true, true, true, true, true, true, true, true, true, true, true, true, true, true, true, true, true, true, true, true, true, true, true, true, true, false, false, false, false] rfl rfl rfl rfl (by kernel_rfl) rfl ⟨[0, 1, 2], by decide, rfl⟩ (qt_rd (rd_pick_t rfl rfl)) ?_
              refine ga_first 25 #[true, true, true, true, true, true, true, true, true, true, true, true, true, true, true, true, true, true, true, true, true, true, true, true, true, true, false, false, false] rfl rfl rfl rfl (by kernel_rfl) rfl ⟨[0, 1, 2], by decide, rfl⟩ (qt_rd (rd_move rfl)) ?_
              refine ga_firstY 26 #[true, true, true, true, true, true, true, true, true, true, true, true, true, true, true, true, true, true, true, true, true, true, true, true, true, true, true, false, false] rfl rfl rfl rfl rfl rfl (by kernel_rfl) rfl ⟨[0, 1, 2], by decide, rfl⟩ (qt_call (vf := []) (vc := []) rfl rfl Try.call12 (fun w ho => awake_ok w hF) (by rintro _ _ ⟨h, _⟩; exact h)) ?_
              refine ga_first 27 #[true, true, true, true, true, true, true, true, true, true, true, true, true, true, true, true, true, true, true, true, true, true, true, true, true, true, true, true, false] rfl rfl rfl rfl (by kernel_rfl) rfl ⟨[0, 1, 2], by decide, rfl⟩ (qt_rd (rd_pick_t rfl rfl)) ?_
              refine ga_first 28 #[true, true, true, true, true, true, true, true, true, true, true, true, true, true, true, true, true, true, true, true, true, true, true, true, true, true, true, true, true] rfl rfl rfl rfl (by kernel_rfl) rfl ⟨[0, 1, 2], by decide, rfl⟩ (qt_rd (rd_assign rfl)) ?_
              refine ga_end (by kernel_rfl) (.inr ⟨[0, 1, 2], by decide, rfl⟩) ?_
              refine gx_then ?_
              refine gc_ret ?_
              refine gx_ret1 (.inl rfl) Try.results5 rfl [] (by decide) ?_
              exact ⟨rfl, rfl⟩
            · skip
              exact absurd rfl h66
          · skip
            exact absurd rfl h61
        · skip
          exact absurd rfl h56
      · skip
        exact absurd rfl h47
    · skip
      exact absurd hr hr2
  · skip
    refine gl_op (op_rd rfl (rd_move rfl) ?_)
    refine gl_op (op_rd rfl (rd_extract rfl rfl) ?_)
    refine gl_op (op_rd rfl (rd_extract rfl rfl) ?_)
    refine gl_op (op_rd rfl (rd_assign rfl) ?_)
    refine gl_op (op_rd rfl (rd_assign rfl) ?_)
    refine gl_nil ?_
    refine gx_then ?_
    refine gc_seq ?_
    refine gc_region ?_
    refine gl_op (op_rd rfl (rd_loadAgg Try.underlying25 rfl ty_25 rfl (by first | exact cs_blk 0 (off := 0) (k := 3) rfl rfl | exact cs_old (by assumption) (by simp)) rfl) ?_)
    refine gl_op (op_rd rfl (rd_move rfl) ?_)
    refine gl_op (op_rd rfl (rd_move rfl) ?_)
    refine gl_op (op_call rfl (vf := []) (vc := []) rfl rfl Try.call20 (fun w ho => rNext_ok c st inn w (hc.at ho) hst hin) ?_)
    rintro _ _ (⟨hr2, r2, cp2, rfl, rfl⟩ | ⟨hr2, rfl, rfl⟩)
    · skip
      exact absurd hr2 hr
    · skip
      refine gl_op (op_rd rfl (rd_move rfl) ?_)
      refine gl_op (op_rd rfl (rd_extract rfl rfl) ?_)
      refine gl_op (op_rd rfl (rd_extract rfl rfl) ?_)
      refine gl_op (op_rd rfl (rd_assign rfl) ?_)
      refine gl_op (op_rd rfl (rd_assign rfl) ?_)
      refine gl_nil ?_
      refine gx_then ?_
      refine gc_seq ?_
      refine gc_region ?_
      refine gl_op (op_rd rfl (rd_loadAgg Try.underlying25 rfl ty_25 rfl (by first | exact cs_blk 0 (off := 0) (k := 3) rfl rfl | exact cs_old (by assumption) (by simp)) rfl) ?_)
      refine gl_op (op_rd rfl (rd_move rfl) ?_)
      refine gl_op (op_rd rfl (rd_move rfl) ?_)
      refine gl_op (op_call rfl (vf := []) (vc := []) rfl rfl Try.call21 (fun w ho => Outputs_ok c st inn w (hc.at ho) hst hin) ?_)
      rintro _ _ ⟨rfl, rfl⟩
      refine gl_op (op_rd rfl (rd_move rfl) ?_)
      refine gl_op (op_rd rfl (rd_extract rfl rfl) ?_)
      refine gl_op (op_rd rfl (rd_extract rfl rfl) ?_)
      refine gl_op (op_rd rfl (rd_assign rfl) ?_)
      refine gl_op (op_rd rfl (rd_assign rfl) ?_)
      refine gl_nil ?_
      refine gx_then ?_
      refine gc_seq ?_
      refine gc_region ?_
      refine gl_op (op_rd rfl (rd_loadAgg Try.underlying25 rfl ty_25 rfl (by first | exact cs_blk 0 (off := 0) (k := 3) rfl rfl | exact cs_old (by assumption) (by simp)) rfl) ?_)
      refine gl_op (op_rd rfl (rd_move rfl) ?_)
      refine gl_op (op_rd rfl (rd_move rfl) ?_)
      refine gl_op (op_call rfl (vf := []) (vc := []) rfl rfl Try.call22 (fun w ho => rOutputs_ok c st inn w (hc.at ho) hst hin) ?_)
      rintro _ _ ⟨rfl, rfl⟩
      refine gl_op (op_rd rfl (rd_move rfl) ?_)
      refine gl_op (op_rd rfl (rd_extract rfl rfl) ?_)
      refine gl_op (op_rd rfl (rd_extract rfl rfl) ?_)
      refine gl_op (op_rd rfl (rd_assign rfl) ?_)
      refine gl_op (op_rd rfl (rd_assign rfl) ?_)
      refine gl_nil ?_
      refine gx_then ?_
      refine gc_seq ?_
      refine gc_drawP [0] true 28 rfl ?_
      refine ga_first 0 #[true, false, false, false, false, false, false, false, false, false, false, false, false, false, false, false, false, false, false, false, false, false, false, false, false, false, false, false, false] rfl rfl rfl rfl (by kernel_rfl) rfl ⟨[0], by decide, rfl⟩ (qt_rd (rd_loadAgg Try.underlying25 rfl ty_25 rfl (by first | exact cs_blk 0 (off := 0) (k := 3) rfl rfl | exact cs_old (by assumption) (by simp)) rfl)) ?_
      refine ga_first 1 #[true, true, false, false, false, false, false, false, false, false, false, false, false, false, false, false, false, false, false, false, false, false, false, false, false, false, false, false, false] rfl rfl rfl rfl (by kernel_rfl) rfl ⟨[0], by decide, rfl⟩ (qt_call (vf := []) (vc := []) rfl rfl Try.call23 (fun w ho => check_ok c w (hc.at ho)) (by rintro _ _ ⟨h, _⟩; exact h)) ?_
      refine ga_first 2 #[true, true, true, false, false, false, false, false, false, false, false, false, false, false, false, false, false, false, false, false, false, false, false, false, false, false, false, false, false] rfl rfl rfl rfl (by kernel_rfl) rfl ⟨[0], by decide, rfl⟩ (qt_rd (rd_loadAgg Try.underlying25 rfl ty_25 rfl (by first | exact cs_blk 0 (off := 0) (k := 3) rfl rfl | exact cs_old (by assumption) (by simp)) rfl)) ?_
      refine ga_first 3 #[true, true, true, true, false, false, false, false, false, false, false, false, false, false, false, false, false, false, false, false, false, false, false, false, false, false, false, false, false] rfl rfl rfl rfl (by kernel_rfl) rfl ⟨[0], by decide, rfl⟩ (qt_call (vf := []) (vc := []) rfl rfl Try.call24 (fun w ho => rcheck_ok c w (hc.at ho)) (by rintro _ _ ⟨h, _⟩; exact h)) ?_
      refine ga_first 4 #[true, true, true, true, true, false, false, false, false, false, false, false, false, false, false, false, false, false, false, false, false, false, false, false, false, false, false, false, false] rfl rfl rfl rfl (by kernel_rfl) rfl ⟨[0], by decide, rfl⟩ (qt_rd (rd_eql rfl rfl)) (gk_dec (fun h47 => ?_) (fun h47 => ?_))
      · skip
        refine ga_first 5 #[true, true, true, true, true, true, false, false, false, false, false, false, false, false, false, false, false, false, false, false, false, false, false, false, false, false, false, false, false] rfl rfl rfl rfl (by kernel_rfl) rfl ⟨[0], by decide, rfl⟩ (qt_rd (rd_move rfl)) ?_
        refine ga_firstY 6 #[true, true, true, true, true, true, true, false, false, false, false, false, false, false, false, false, false, false, false, false, false, false, false, false, false, false, false, false, false] rfl rfl rfl rfl rfl rfl (by kernel_rfl) rfl ⟨[0], by decide, rfl⟩ (qt_rd (rd_move rfl)) ?_
        refine ga_firstY 7 #[true, true, true, true, true, true, true, true, false, false, false, false, false, false, false, false, false, false, false, false, false, false, false, false, false, false, false, false, false] rfl rfl rfl rfl rfl rfl (by kernel_rfl) rfl ⟨[0], by decide, rfl⟩ (qt_rd (rd_move rfl)) ?_
        refine ga_firstY 8 #[true, true, true, true, true, true, true, true, true, false, false, false, false, false, false, false, false, false, false, false, false, false, false, false, false, false, false, false, false] rfl rfl rfl rfl rfl rfl (by kernel_rfl) rfl ⟨[0], by decide, rfl⟩ (qt_call (vf := []) (vc := []) rfl rfl Try.call25 (fun w ho => sameNats_t [] [] none none 0 0 w (oldNil w) (oldNil w) (by decide) rfl) (by rintro _ _ ⟨h, _⟩; exact h)) ?_
        refine ga_first 9 #[true, true, true, true, true, true, true, true, true, true, false, false, false, false, false, false, false, false, false, false, false, false, false, false, false, false, false, false, false] rfl rfl rfl rfl (by kernel_rfl) rfl ⟨[0], by decide, rfl⟩ (qt_rd (rd_pick_t rfl rfl)) ?_
        refine ga_first 10 #[true, true, true, true, true, true, true, true, true, true, true, false, false, false, false, false, false, false, false, false, false, false, false, false, false, false, false, false, false] rfl rfl rfl rfl (by kernel_rfl) rfl ⟨[0], by decide, rfl⟩ (qt_rd (rd_move rfl)) ?_
        refine ga_firstY 11 #[true, true, true, true, true, true, true, true, true, true, true, true, false, false, false, false, false, false, false, false, false, false, false, false, false, false, false, false, false] rfl rfl rfl rfl rfl rfl (by kernel_rfl) rfl ⟨[0], by decide, rfl⟩ (qt_rd (rd_move rfl)) ?_
        refine ga_firstY 12 #[true, true, true, true, true, true, true, true, true, true, true, true, true, false, false, false, false, false, false, false, false, false, false, false, false, false, false, false, false] rfl rfl rfl rfl rfl rfl (by kernel_rfl) rfl ⟨[0], by decide, rfl⟩ (qt_rd (rd_move rfl)) ?_
        refine ga_firstY 13 #[true, true, true, true, true, true, true, true, true, true, true, true, true, true, false, false, false, false, false, false, false, false, false, false, false, false, false, false, false] rfl rfl rfl rfl rfl rfl (by kernel_rfl) rfl ⟨[0], by decide, rfl⟩ (qt_rd (rd_eql rfl rfl)) (gk_dec (fun h56 => ?_) (fun h56 => ?_))
        · skip
          refine ga_first 14 #[true, true, true, true, true, true, true, true, true, true, true, true, true, true, true, false, false, false, false, false, false, false, false, false, false, false, false, false, false] rfl rfl rfl rfl (by kernel_rfl) rfl ⟨[0], by decide, rfl⟩ (qt_rd (rd_pick_t rfl rfl)) ?_
          refine ga_first 15 #[true, true, true, true, true, true, true, true, true, true, true, true, true, true, true, true, false, false, false, false, false, false, false, false, false, false, false, false, false] rfl rfl rfl rfl (by kernel_rfl) rfl ⟨[0], by decide, rfl⟩ (qt_rd (rd_move rfl)) ?_
          refine ga_firstY 16 #[true, true, true, true, true, true, true, true, true, true, true, true, true, true, true, true, true, false, false, false, false, false, false, false, false, false, false, false, false] rfl rfl rfl rfl rfl rfl (by kernel_rfl) rfl ⟨[0], by decide, rfl⟩ (qt_rd (rd_move rfl)) ?_
          refine ga_firstY 17 #[true, true, true, true, true, true, true, true, true, true, true, true, true, true, true, true, true, true, false, false, false, false, false, false, false, false, false, false, false] rfl rfl rfl rfl rfl rfl (by kernel_rfl) rfl ⟨[0], by decide, rfl⟩ (qt_rd (rd_move rfl)) ?_
          refine ga_firstY 18 #[true, true, true, true, true, true, true, true, true, true, true, true, true, true, true, true, true, true, true, false, false, false, false, false, false, false, false, false, false] rfl rfl rfl rfl rfl rfl (by kernel_rfl) rfl ⟨[0], by decide, rfl⟩ (qt_rd (rd_eql rfl rfl)) (gk_dec (fun h61 => ?_) (fun h61 => ?_))
          · skip
            refine ga_first 19 #[true, true, true, true, true, true, true, true, true, true, true, true, true, true, true, true, true, true, true, true, false, false, false, false, false, false, false, false, false] rfl rfl rfl rfl (by kernel_rfl) rfl ⟨[0], by decide, rfl⟩ (qt_rd (rd_pick_t rfl rfl)) ?_
            refine ga_first 20 #[true, true, true, true, true, true, true, true, true, true, true, true, true, true, true, true, true, true, true, true, true, false, false, false, false, false, false, false, false] rfl rfl rfl rfl (by kernel_rfl) rfl ⟨[0], by decide, rfl⟩ (qt_rd (rd_move rfl)) ?_
            refine ga_firstY 21 #[true, true, true, true, true, true, true, true, true, true, true, true, true, true, true, true, true, true, true, true, true, true, false, false, false, false, false, false, false] rfl rfl rfl rfl rfl rfl (by kernel_rfl) rfl ⟨[0], by decide, rfl⟩ (qt_rd (rd_move rfl)) ?_
            refine ga_firstY 22 #[true, true, true, true, true, true, true, true, true, true, true, true, true, true, true, true, true, true, true, true, true, true, true, false, false, false, false, false, false] rfl rfl rfl rfl rfl rfl (by kernel_rfl) rfl ⟨[0], by decide, rfl⟩ (qt_rd (rd_move rfl)) ?_
            refine ga_firstY 23 #[true, true, true, true, true, true, true, true, true, true, true, true, true, true, true, true, true, true, true, true, true, true, true, true, false, false, false, false, false] rfl rfl rfl rfl rfl rfl (by kernel_rfl) rfl ⟨[0], by decide, rfl⟩ (qt_rd (rd_eql rfl rfl)) (gk_dec (fun h66 => ?_) (fun h66 => ?_))
            · skip
              refine ga_first 24 #[true, true, true, true, true, true, true, true, true, true, true, true, true, true, true, true, true, true, true, true, true, true, true, true, true, false, false, false, false] rfl rfl rfl rfl (by kernel_rfl) rfl ⟨[0], by decide, rfl⟩ (qt_rd (rd_pick_t rfl rfl)) ?_
              refine ga_first 25 #[true, true, true, true, true, true, true, true, true, true, true, true, true, true, true, true, true, true, true, true, true, true, true, true, true, true, false, false, false] rfl rfl rfl rfl (by kernel_rfl) rfl ⟨[0], by decide, rfl⟩ (qt_rd (rd_move rfl)) ?_
              refine ga_firstY 26 #[true, true, true, true, true, true, true, true, true, true, true, true, true, true, true, true, true, true, true, true, true, true, true, true, true, true, true, false, false] rfl rfl rfl rfl rfl rfl (by kernel_rfl) rfl ⟨[0], by decide, rfl⟩ (qt_call (vf := []) (vc := []) rfl rfl Try.call12 (fun w ho => awake_ok w hF) (by rintro _ _ ⟨h, _⟩; exact h)) ?_
              refine ga_first 27 #[true, true, true, true, true, true, true, true, true, true, true, true, true, true, true, true, true, true, true, true, true, true, true, true, true, true, true, true, false] rfl rfl rfl rfl (by kernel_rfl) rfl ⟨[0], by decide, rfl⟩ (qt_rd (rd_pick_t rfl rfl)) ?_
              refine ga_first 28 #[true, true, true, true, true, true, true, true, true, true, true, true, true, true, true, true, true, true, true, true, true, true, true, true, true, true, true, true, true] rfl rfl rfl rfl (by kernel_rfl) rfl ⟨[0], by decide, rfl⟩ (qt_rd (rd_assign rfl)) ?_
              refine ga_end (by kernel_rfl) (.inr ⟨[0], by decide, rfl⟩) ?_
              refine gx_then ?_
              refine gc_ret ?_
              refine gx_ret1 (.inl rfl) Try.results5 rfl [] (by decide) ?_
              exact ⟨rfl, rfl⟩
            · skip
              exact absurd rfl h66
          · skip
            exact absurd rfl h61
        · skip
          exact absurd rfl h56
      · skip
        exact absurd rfl h47

end Go.Proofs.Yteocjpnckciboaa

set_option autoImplicit false
set_option linter.unusedVariables false
namespace Go.Proofs.Yteocjpnckciboaa
open Go.Gv
open Go.RowKit Go.ChangeShapes Go.WideShapes
open Ry
set_option maxHeartbeats 1000000 in
set_option maxRecDepth 100000 in
theorem nexts_lifted (os : Os) (started : os.Started) (H : Type) (enc : TypeId × Value → H) :
    ReturnsInHanded {} Try.checked os 5 .any (Rows.relaysNextsSpec.pre6 enc Try.prog Try.f5 Rows.relaysNextsRow.domain false) (Rows.relaysNextsSpec.post enc Try.prog Try.f5 false true false false) := by
  refine returnsInHanded_of_change_sized (C := Try.checked) tryOwn started (by kernel_rfl) Try.func5
    (ChangeSpec.witness6 (enc := enc) (C := Try.checked) false ⟨#[], #[.agg #[.int .i64 0, .slice none 0 0, .slice none 0 0], .int .i64 0, .int .i64 0], []⟩ 8 (by kernel_rfl) (by kernel_rfl) (by kernel_rfl) (by kernel_rfl)) ?_
  intro W base args ds gs before hval0 hW _ hwt _
  have hval : ∀ (j : Nat) t v, Try.f5.params[j]? = some t → args[j]? = some v → Value.okWide Try.prog W .any base t v := hval0
  have hW' := hW
  obtain ⟨p, q, hA0, hV, rfl, hfz, hnd⟩ := hW
  have hA : DataW.TrodAll enc Try.prog W 0 (fun _ => true) true Try.f5.params.toList args.toList ds p := hA0
  rw [Try.params5] at hA hval
  obtain ⟨v0, vs0, d0, ds0, p0, q0, hargs, rfl, rfl, h0, r0⟩ := trodAll_cons hA
  obtain ⟨v1, vs1, d1, ds1, p1, q1, rfl, rfl, rfl, h1, r1⟩ := trodAll_cons r0
  obtain ⟨v2, vs2, d2, ds2, p2, q2, rfl, rfl, rfl, h2, r2⟩ := trodAll_cons r1
  obtain ⟨rfl, rfl, rfl⟩ := trodAll_nil r2
  obtain rfl : args = #[v0, v1, v2] := Array.toList_inj.1 hargs
  obtain ⟨rfl, rfl⟩ := trodVars_none hV
  obtain ⟨a1, rfl, rfl, rfl, w1⟩ := open_int Try.underlying3 (hval 1 3 v1 rfl rfl) h1
  obtain ⟨a2, rfl, rfl, rfl, w2⟩ := open_int Try.underlying3 (hval 2 3 v2 rfl rfl) h2
  obtain ⟨cs, rfl, _⟩ := okWide_struct Try.underlying25 (hval 0 25 v0 rfl rfl)
  obtain ⟨fuel, hf⟩ := h0
  obtain ⟨c, hc, hin⟩ := openCirc hf fun b hb => by
    have := List.all_eq_true.1 hwt b (DataW.weights_mem_each (j := 0) (t := 25) rfl rfl b hb)
    simpa using this
  have e0 : Value.agg cs = c.val := by
    have : cs = c.cells.toArray := by rw [← hc]; simp [Value.cells]
    rw [this]
  have b1 := bounds_i64 w1
  have b2 := bounds_i64 w2
  have hcall := RelaysNexts_ok c a1 a2 W hin b1.2 b2.2 (fun c im h hg => facts c im h hg)
  rw [e0]
  rw [e0] at hW'
  unfold Sp at hcall
  refine Calls.mono hcall fun e W' ⟨v, l, he, hR, ho⟩ => ⟨v, he, ?_⟩
  obtain ⟨rfl, rfl⟩ := hR
  exact law_post hW' rfl ho.below rfl rfl rfl rfl (by rw [Try.params5]; intro t ht; simp at ht; rcases ht with rfl | rfl <;> exact ⟨by kernel_rfl, of_decide_eq_true (by kernel_rfl)⟩)
theorem nexts_over : Rows.relaysNextsRow.holds Try.pinned (OpenSpec.ofChange Rows.relaysNextsSpec) :=
  OpenClaim.holds_of_wide 5 Try.f5 rfl rfl rfl rfl rfl rfl rfl ⟨rfl, rfl, rfl, rfl, rfl⟩ rfl rfl rfl rfl rfl (by kernel_rfl) Try.func5 (by kernel_rfl)
    (of_decide_eq_true (by kernel_rfl)) (by unfold Func.isWrapper; first | (rw [if_pos (by decide +kernel)]; kernel_rfl) | (rw [if_neg (by decide +kernel)]; exact ⟨rfl, rfl⟩))
    (fun os started H enc _ => nexts_lifted os started H enc)
theorem relaysNexts_proved : Rows.RelaysNextsSaid := nexts_over
end Go.Proofs.Yteocjpnckciboaa
