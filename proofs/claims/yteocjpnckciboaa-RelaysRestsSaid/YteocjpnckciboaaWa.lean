import Derived.Test.YteocjpnckciboaaMd
/- The walks of Check, Next, Outputs and of their references. -/
set_option linter.unusedSimpArgs false
set_option linter.unusedVariables false
set_option linter.unnecessarySimpa false
set_option autoImplicit false
set_option linter.unusedVariables false
namespace Go.Proofs.Yteocjpnckciboaa
open Go.Gv
open Go.RowKit
open Ry
set_option maxRecDepth 100000 in
set_option maxHeartbeats 1000000 in
theorem signals_ok (k : Int) (n : Nat) (w0 : World) : Sp Try.prog 55 [.int .i64 k, natV n] w0 [] (RV (.bool (sigs k n))) := by
  refine spec_enter Try.func55 rfl Try.ntmps55 rfl (Own.refl _) ?_
  simp only [argEnv]
  refine gc_seq ?_
  refine gc_region ?_
  refine gl_op (op_rd rfl (rd_assign rfl) ?_)
  refine gl_nil ?_
  refine gx_then ?_
  refine gc_seq ?_
  refine gc_seq ?_
  refine gc_region ?_
  refine gl_op (op_rd rfl (rd_move rfl) ?_)
  refine gl_nil ?_
  refine gx_then ?_
  refine gc_block ?_
  refine gc_seq ?_
  refine gc_seq ?_
  refine gc_region ?_
  refine gl_op (op_rd rfl (rd_eql rfl rfl) (gk_dec (fun h1 => ?_) (fun h1 => ?_)))
  · skip
    refine gl_op (op_rd rfl (rd_assign rfl) ?_)
    refine gl_nil ?_
    refine gx_then ?_
    refine gc_cond_t rfl ?_
    refine gc_skip ?_
    refine gx_then ?_
    refine gc_cond_t rfl ?_
    refine gc_seq ?_
    refine gc_region ?_
    refine gl_op (op_rd rfl (rd_move rfl) ?_)
    refine gl_op (op_rd rfl (rd_gtr rfl rfl) ?_)
    refine gl_op (op_rd rfl (rd_assign rfl) ?_)
    refine gl_nil ?_
    refine gx_then ?_
    refine gc_ret ?_
    refine gx_block_ret ?_
    refine gx_then_ret ?_
    refine gx_ret1 (.inl rfl) Try.results55 rfl [] (by decide) ?_
    refine ⟨?_, rfl⟩
    simp [sigs, *] <;> omega
  · skip
    refine gl_op (op_rd rfl (rd_assign rfl) ?_)
    refine gl_nil ?_
    refine gx_then ?_
    refine gc_cond_f rfl ?_
    refine gc_seq ?_
    refine gc_region ?_
    refine gl_op (op_rd rfl (rd_eql rfl rfl) (gk_dec (fun h2 => ?_) (fun h2 => ?_)))
    · skip
      refine gl_op (op_rd rfl (rd_assign rfl) ?_)
      refine gl_nil ?_
      refine gx_then ?_
      refine gc_cond_t rfl ?_
      refine gc_skip ?_
      refine gx_then ?_
      refine gc_cond_t rfl ?_
      refine gc_seq ?_
      refine gc_region ?_
      refine gl_op (op_rd rfl (rd_move rfl) ?_)
      refine gl_op (op_rd rfl (rd_gtr rfl rfl) ?_)
      refine gl_op (op_rd rfl (rd_assign rfl) ?_)
      refine gl_nil ?_
      refine gx_then ?_
      refine gc_ret ?_
      refine gx_block_ret ?_
      refine gx_then_ret ?_
      refine gx_ret1 (.inl rfl) Try.results55 rfl [] (by decide) ?_
      refine ⟨?_, rfl⟩
      simp [sigs, *] <;> omega
    · skip
      refine gl_op (op_rd rfl (rd_assign rfl) ?_)
      refine gl_nil ?_
      refine gx_then ?_
      refine gc_cond_f rfl ?_
      refine gc_seq ?_
      refine gc_region ?_
      refine gl_op (op_rd rfl (rd_eql rfl rfl) (gk_dec (fun h4 => ?_) (fun h4 => ?_)))
      · skip
        refine gl_op (op_rd rfl (rd_assign rfl) ?_)
        refine gl_nil ?_
        refine gx_then ?_
        refine gc_cond_t rfl ?_
        refine gc_skip ?_
        refine gx_then ?_
        refine gc_cond_t rfl ?_
        refine gc_seq ?_
        refine gc_region ?_
        refine gl_op (op_rd rfl (rd_move rfl) ?_)
        refine gl_op (op_rd rfl (rd_gtr rfl rfl) ?_)
        refine gl_op (op_rd rfl (rd_assign rfl) ?_)
        refine gl_nil ?_
        refine gx_then ?_
        refine gc_ret ?_
        refine gx_block_ret ?_
        refine gx_then_ret ?_
        refine gx_ret1 (.inl rfl) Try.results55 rfl [] (by decide) ?_
        refine ⟨?_, rfl⟩
        simp [sigs, *] <;> omega
      · skip
        refine gl_op (op_rd rfl (rd_assign rfl) ?_)
        refine gl_nil ?_
        refine gx_then ?_
        refine gc_cond_f rfl ?_
        refine gc_region ?_
        refine gl_op (op_rd rfl (rd_eql rfl rfl) (gk_dec (fun h5 => ?_) (fun h5 => ?_)))
        · skip
          refine gl_op (op_rd rfl (rd_assign rfl) ?_)
          refine gl_nil ?_
          refine gx_then ?_
          refine gc_cond_t rfl ?_
          refine gc_seq ?_
          refine gc_region ?_
          refine gl_op (op_rd rfl (rd_move rfl) ?_)
          refine gl_op (op_rd rfl (rd_gtr rfl rfl) ?_)
          refine gl_op (op_rd rfl (rd_assign rfl) ?_)
          refine gl_nil ?_
          refine gx_then ?_
          refine gc_ret ?_
          refine gx_block_ret ?_
          refine gx_then_ret ?_
          refine gx_ret1 (.inl rfl) Try.results55 rfl [] (by decide) ?_
          refine ⟨?_, rfl⟩
          simp [sigs, *] <;> omega
        · skip
          refine gl_op (op_rd rfl (rd_assign rfl) ?_)
          refine gl_nil ?_
          refine gx_then ?_
          refine gc_cond_f rfl ?_
          refine gc_seq ?_
          refine gc_region ?_
          refine gl_op (op_rd rfl (rd_eql rfl rfl) (gk_dec (fun h3 => ?_) (fun h3 => ?_)))
          · skip
            refine gl_op (op_rd rfl (rd_assign rfl) ?_)
            refine gl_nil ?_
            refine gx_then ?_
            refine gc_cond_t rfl ?_
            refine gc_seq ?_
            refine gc_region ?_
            refine gl_op (op_rd rfl (rd_move rfl) ?_)
            refine gl_op (op_rd rfl (rd_eql rfl rfl) ?_)
            refine gl_op (op_rd rfl (rd_assign rfl) ?_)
            refine gl_nil ?_
            refine gx_then ?_
            refine gc_ret ?_
            refine gx_block_ret ?_
            refine gx_then_ret ?_
            refine gx_ret1 (.inl rfl) Try.results55 rfl [] (by decide) ?_
            refine ⟨?_, rfl⟩
            simp [sigs, *] <;> omega
          · skip
            refine gl_op (op_rd rfl (rd_assign rfl) ?_)
            refine gl_nil ?_
            refine gx_then ?_
            refine gc_cond_f rfl ?_
            refine gc_seq ?_
            refine gc_seq ?_
            refine gc_region ?_
            refine gl_op (op_rd rfl (rd_eql rfl rfl) (gk_dec (fun h6 => ?_) (fun h6 => ?_)))
            · skip
              refine gl_op (op_rd rfl (rd_assign rfl) ?_)
              refine gl_nil ?_
              refine gx_then ?_
              refine gc_cond_t rfl ?_
              refine gc_skip ?_
              refine gx_then ?_
              refine gc_cond_t rfl ?_
              refine gc_seq ?_
              refine gc_region ?_
              refine gl_op (op_rd rfl (rd_move rfl) ?_)
              refine gl_op (op_rd rfl (rd_eql rfl rfl) ?_)
              refine gl_op (op_rd rfl (rd_assign rfl) ?_)
              refine gl_nil ?_
              refine gx_then ?_
              refine gc_ret ?_
              refine gx_block_ret ?_
              refine gx_then_ret ?_
              refine gx_ret1 (.inl rfl) Try.results55 rfl [] (by decide) ?_
              refine ⟨?_, rfl⟩
              simp [sigs, *] <;> omega
            · skip
              refine gl_op (op_rd rfl (rd_assign rfl) ?_)
              refine gl_nil ?_
              refine gx_then ?_
              refine gc_cond_f rfl ?_
              refine gc_region ?_
              refine gl_op (op_rd rfl (rd_eql rfl rfl) (gk_dec (fun h7 => ?_) (fun h7 => ?_)))
              · skip
                refine gl_op (op_rd rfl (rd_assign rfl) ?_)
                refine gl_nil ?_
                refine gx_then ?_
                refine gc_cond_t rfl ?_
                refine gc_seq ?_
                refine gc_region ?_
                refine gl_op (op_rd rfl (rd_move rfl) ?_)
                refine gl_op (op_rd rfl (rd_eql rfl rfl) ?_)
                refine gl_op (op_rd rfl (rd_assign rfl) ?_)
                refine gl_nil ?_
                refine gx_then ?_
                refine gc_ret ?_
                refine gx_block_ret ?_
                refine gx_then_ret ?_
                refine gx_ret1 (.inl rfl) Try.results55 rfl [] (by decide) ?_
                refine ⟨?_, rfl⟩
                simp [sigs, *] <;> omega
              · skip
                refine gl_op (op_rd rfl (rd_assign rfl) ?_)
                refine gl_nil ?_
                refine gx_then ?_
                refine gc_cond_f rfl ?_
                refine gc_skip ?_
                refine gx_block ?_
                refine gx_then ?_
                refine gc_seq ?_
                refine gc_region ?_
                refine gl_op (op_rd rfl (rd_assign rfl) ?_)
                refine gl_nil ?_
                refine gx_then ?_
                refine gc_ret ?_
                refine gx_ret1 (.inl rfl) Try.results55 rfl [] (by decide) ?_
                refine ⟨?_, rfl⟩
                simp [sigs, *] <;> omega

set_option maxRecDepth 100000 in
set_option maxHeartbeats 1000000 in
theorem check1_ok (g : Gate) (w0 : World) : Sp Try.prog 53 [g.val] w0 [] (RV (.bool (decide (4 < g.ins.length)))) := by
  refine spec_enter Try.func53 rfl Try.ntmps53 rfl (Own.refl _) ?_
  simp only [argEnv]
  refine gc_seq ?_
  refine gc_region ?_
  refine gl_op (op_box rfl rfl rfl (fun b1 => ?_))
  refine gl_op (op_rd rfl (rd_assign rfl) ?_)
  refine gl_nil ?_
  refine gx_then ?_
  refine gc_seq ?_
  refine gc_region ?_
  refine gl_op (op_rd rfl (rd_fieldAddr rfl (fa_48_1 _)) ?_)
  refine gl_op (op_rd rfl (rd_load Try.underlying23 rfl rfl (by first | exact ld_blk 0 rfl rfl | exact ld_old (by assumption) (by simp))) ?_)
  refine gl_op (op_rd rfl (rd_lenSlice Try.underlying23 rfl) ?_)
  refine gl_op (op_rd rfl (rd_gtr rfl rfl) ?_)
  refine gl_op (op_rd rfl (rd_assign rfl) ?_)
  refine gl_nil ?_
  refine gx_then ?_
  refine gc_ret ?_
  refine gx_ret1 (.inl rfl) Try.results53 rfl [] (by decide) ?_
  refine ⟨?_, rfl⟩
  simp; omega

set_option maxRecDepth 100000 in
set_option maxHeartbeats 1000000 in
theorem check2_ok (g : Gate) (w0 : World) : Sp Try.prog 54 [g.val] w0 [] (RV (.bool (!sigs g.kind g.ins.length))) := by
  refine spec_enter Try.func54 rfl Try.ntmps54 rfl (Own.refl _) ?_
  simp only [argEnv]
  refine gc_seq ?_
  refine gc_region ?_
  refine gl_op (op_box rfl rfl rfl (fun b1 => ?_))
  refine gl_op (op_rd rfl (rd_assign rfl) ?_)
  refine gl_nil ?_
  refine gx_then ?_
  refine gc_seq ?_
  refine gc_region ?_
  refine gl_op (op_rd rfl (rd_fieldAddr rfl (fa_48_0 _)) ?_)
  refine gl_op (op_rd rfl (rd_load Try.underlying3 rfl rfl (by first | exact ld_blk 0 rfl rfl | exact ld_old (by assumption) (by simp))) ?_)
  refine gl_op (op_rd rfl (rd_fieldAddr rfl (fa_48_1 _)) ?_)
  refine gl_op (op_rd rfl (rd_load Try.underlying23 rfl rfl (by first | exact ld_blk 0 rfl rfl | exact ld_old (by assumption) (by simp))) ?_)
  refine gl_op (op_rd rfl (rd_lenSlice Try.underlying23 rfl) ?_)
  refine gl_op (op_call rfl (vf := []) (vc := []) rfl rfl Try.call55 (fun w ho => signals_ok _ _ w) ?_)
  rintro _ _ ⟨rfl, rfl⟩
  refine gl_op (op_rd rfl (rd_not rfl) ?_)
  refine gl_op (op_rd rfl (rd_assign rfl) ?_)
  refine gl_nil ?_
  refine gx_then ?_
  refine gc_ret ?_
  refine gx_ret1 (.inl rfl) Try.results54 rfl [] (by decide) ?_
  exact ⟨rfl, rfl⟩

set_option maxRecDepth 100000 in
set_option maxHeartbeats 1000000 in
theorem check3_ok (c : Circ) (n : Int) (pc : Addr) (w0 : World) (hp : Cells w0 pc c.cells) (hi : 0 ≤ c.inputs) (hi8 : c.inputs ≤ 8) (hg : c.gates.length ≤ 12) : Sp Try.prog 56 [.int .i64 n, .pointer (some pc)] w0 [] (RV (.bool (c.bad n))) := by
  refine spec_enter Try.func56 rfl Try.ntmps56 rfl (Own.refl _) ?_
  simp only [argEnv]
  refine gc_seq ?_
  refine gc_region ?_
  refine gl_op (op_rd rfl (rd_assign rfl) ?_)
  refine gl_nil ?_
  refine gx_then ?_
  refine gc_seq ?_
  refine gc_region ?_
  refine gl_op (op_rd rfl (rd_move rfl) ?_)
  refine gl_op (op_rd rfl (rd_lss rfl rfl) (gk_dec (fun h0 => ?_) (fun h0 => ?_)))
  · skip
    refine gl_op (op_rd rfl (rd_move rfl) ?_)
    refine gl_no rfl rfl rfl ?_
    refine gl_no rfl rfl rfl ?_
    refine gl_no rfl rfl rfl ?_
    refine gl_no rfl rfl rfl ?_
    refine gl_no rfl rfl rfl ?_
    refine gl_no rfl rfl rfl ?_
    refine gl_no rfl rfl rfl ?_
    refine gl_no rfl rfl rfl ?_
    refine gl_op (op_rd rfl (by first | exact rd_pick_t rfl rfl | exact rd_pick_f rfl rfl) ?_)
    refine gl_op (op_rd rfl (rd_assign rfl) ?_)
    refine gl_nil ?_
    refine gx_then ?_
    refine gc_ret ?_
    refine gx_ret1 (.inl rfl) Try.results56 rfl [] (by decide) ?_
    refine ⟨?_, rfl⟩
    simp [Circ.bad, *]
  · skip
    refine gl_op (op_rd rfl (rd_move rfl) ?_)
    refine gl_yes rfl rfl (op_rd rfl (rd_move rfl) ?_)
    refine gl_yes rfl rfl (op_rd rfl (rd_fieldAddr rfl (fa_25_0 _)) ?_)
    refine gl_yes rfl rfl (op_rd rfl (rd_load Try.underlying3 rfl rfl (ld_cells hp (by simp) rfl)) ?_)
    refine gl_yes rfl rfl (op_rd rfl (rd_fieldAddr rfl (fa_25_1 _)) ?_)
    refine gl_yes rfl rfl (op_rd rfl (rd_load Try.underlying22 rfl rfl (ld_cells hp (by simp) rfl)) ?_)
    refine gl_yes rfl rfl (op_rd rfl (rd_lenSlice Try.underlying22 rfl) ?_)
    refine gl_yes rfl rfl (op_rd rfl (rd_add rfl rfl (by omega) (by omega)) ?_)
    refine gl_yes rfl rfl (op_rd rfl (rd_geq rfl rfl) ?_)
    refine gl_op (op_rd rfl (by first | exact rd_pick_t rfl rfl | exact rd_pick_f rfl rfl) ?_)
    refine gl_op (op_rd rfl (rd_assign rfl) ?_)
    refine gl_nil ?_
    refine gx_then ?_
    refine gc_ret ?_
    refine gx_ret1 (.inl rfl) Try.results56 rfl [] (by decide) ?_
    refine ⟨?_, rfl⟩
    simp [Circ.bad, *]

set_option maxRecDepth 100000 in
set_option maxHeartbeats 1000000 in
theorem indexGates_ok (zs : List Gate) (a : Option Addr) (cp : Nat) (F : Nat) (caps : List Value) (p : Gate → Bool) (w0 : World) (hsl : OldSl w0 [] a zs.length 2 (zs.flatMap Gate.cells)) (hb : zs.length ≤ 140737488355328) (hcall : ∀ args w, (callFunc F args).run Try.prog w = .ok (.enter F args) w) (hf : ∀ k, k < zs.length → ∀ w, Own w0 [] w [] → Sp Try.prog F (Gate.val (zs.getD k default) :: caps) w [] (RV (.bool (p (zs.getD k default))))) : Sp Try.prog 77 [.slice a zs.length cp, .func (.func F) #[] caps.toArray] w0 [] (RV (.int .i64 (idx p zs 0))) := by
  refine spec_enter Try.func77 rfl Try.ntmps77 rfl (Own.refl _) ?_
  simp only [argEnv]
  refine gc_seq ?_
  refine gc_region ?_
  refine gl_op (op_rd rfl (rd_assign rfl) ?_)
  refine gl_nil ?_
  refine gx_then ?_
  refine gc_seq ?_
  refine gc_seq ?_
  refine gc_region ?_
  refine gl_op (op_rd rfl (rd_move rfl) ?_)
  refine gl_op (op_rd rfl (rd_lenSlice Try.underlying22 rfl) ?_)
  refine gl_op (op_rd rfl (rd_move rfl) ?_)
  refine gl_nil ?_
  refine gx_then ?_
  refine gc_block ?_
  refine gc_loop (ι := Nat) (fun j => j ≤ zs.length ∧ ∀ i, i < j → p (zs.getD i default) = false) (fun j => [(0, .slice a zs.length cp), (1, .func (.func F) #[] caps.toArray), (7, natV zs.length), (8, natV j)]) (fun j => []) (fun j => zs.length - j) 0 (⟨Nat.zero_le _, fun i h => absurd h (Nat.not_lt_zero i)⟩) ⟨rfl, rfl, rfl, rfl, trivial⟩ ⟨[], by decide, rfl⟩ ?_
  rintro k ⟨hk, hno⟩
  refine gc_seq ?_
  refine gc_region ?_
  refine gl_op (op_rd rfl (rd_lss rfl rfl) (gk_dec (fun hlt => ?_) (fun hlt => ?_)))
  · skip
    refine gl_nil ?_
    refine gx_then ?_
    refine gc_seq ?_
    refine gc_cond_t rfl ?_
    refine gc_skip ?_
    refine gx_then ?_
    refine gc_seq ?_
    refine gc_block ?_
    refine gc_seq ?_
    refine gc_region ?_
    refine gl_op (op_rd rfl (rd_move rfl) ?_)
    refine gl_op (op_rd rfl (rd_assign rfl) ?_)
    refine gl_nil ?_
    refine gx_then ?_
    refine gc_seq ?_
    refine gc_region ?_
    refine gl_op (op_rd rfl (rd_move rfl) ?_)
    refine gl_op (op_rd rfl (rd_move rfl) ?_)
    refine gl_op (op_rd rfl (rd_move rfl) ?_)
    refine gl_op (op_rd rfl (rd_indexOld hsl Try.underlying22 ty_48 rfl rfl (by omega) (by omega)) ?_)
    refine gl_op (op_rd rfl (rd_loadAgg Try.underlying48 rfl ty_48 rfl (cs_sl hsl (flat_drop Gate.cells 2 (fun _ => rfl) default zs k (by omega))) rfl) ?_)
    refine gl_op (op_call rfl (vf := []) (vc := caps) rfl rfl hcall (fun w ho => hf k (by omega) w (ho.pick [] (by decide))) ?_)
    rintro _ _ ⟨rfl, rfl⟩
    refine gk_bool (fun hp => ?_) (fun hp => ?_)
    · skip
      have hpt : p (zs.getD k default) = true := hp
      refine gl_nil ?_
      refine gx_then ?_
      refine gc_cond_t rfl ?_
      refine gc_seq ?_
      refine gc_region ?_
      refine gl_op (op_rd rfl (rd_move rfl) ?_)
      refine gl_op (op_rd rfl (rd_assign rfl) ?_)
      refine gl_nil ?_
      refine gx_then ?_
      refine gc_ret ?_
      refine gx_block_ret ?_
      refine gx_then_ret ?_
      refine gx_then_ret ?_
      refine gx_block_ret ?_
      refine gx_then_ret ?_
      refine gx_ret1 (.inl rfl) Try.results77 rfl [] (by decide) ?_
      exact ⟨by rw [idx_stop p default zs 0 k (by omega) hno hpt]; simp, rfl⟩
    · skip
      have hpf : p (zs.getD k default) = false := by simpa using hp
      refine gl_nil ?_
      refine gx_then ?_
      refine gc_cond_f rfl ?_
      refine gc_skip ?_
      refine gx_block ?_
      refine gx_then ?_
      refine gc_region ?_
      refine gl_op (op_rd rfl (rd_add rfl rfl (by omega) (by omega)) ?_)
      refine gl_op (op_rd rfl (rd_move rfl) ?_)
      refine gl_nil ?_
      refine gx_then ?_
      exact gx_cut (k + 1) ⟨⟨by omega, fun i hi => by rcases Nat.lt_succ_iff_lt_or_eq.1 hi with h | rfl; exact hno i h; exact hpf⟩, by omega⟩ ⟨rfl, rfl, rfl, rfl, trivial⟩ ⟨[], by decide, rfl⟩
  · skip
    refine gl_nil ?_
    refine gx_then ?_
    refine gc_seq ?_
    refine gc_cond_f rfl ?_
    refine gc_exit ?_
    refine gx_then_exit ?_
    refine gx_then_exit ?_
    refine gx_block_exit ?_
    refine gx_then ?_
    refine gc_seq ?_
    refine gc_region ?_
    refine gl_op (op_rd rfl (rd_assign rfl) ?_)
    refine gl_nil ?_
    refine gx_then ?_
    refine gc_ret ?_
    refine gx_ret1 (.inl rfl) Try.results77 rfl [] (by decide) ?_
    exact ⟨by rw [idx_none p default zs 0 (fun j hj => hno j (by omega))], rfl⟩

set_option maxRecDepth 100000 in
set_option maxHeartbeats 1000000 in
theorem indexInts_ok (zs : List Int) (a : Option Addr) (cp : Nat) (F : Nat) (caps : List Value) (p : Int → Bool) (w0 : World) (hsl : OldSl w0 [] a zs.length 1 (zs.map intV)) (hb : zs.length ≤ 140737488355328) (hcall : ∀ args w, (callFunc F args).run Try.prog w = .ok (.enter F args) w) (hf : ∀ k, k < zs.length → ∀ w, Own w0 [] w [] → Sp Try.prog F (intV (zs.getD k 0) :: caps) w [] (RV (.bool (p (zs.getD k 0))))) : Sp Try.prog 78 [.slice a zs.length cp, .func (.func F) #[] caps.toArray] w0 [] (RV (.int .i64 (idx p zs 0))) := by
  refine spec_enter Try.func78 rfl Try.ntmps78 rfl (Own.refl _) ?_
  simp only [argEnv]
  refine gc_seq ?_
  refine gc_region ?_
  refine gl_op (op_rd rfl (rd_assign rfl) ?_)
  refine gl_nil ?_
  refine gx_then ?_
  refine gc_seq ?_
  refine gc_seq ?_
  refine gc_region ?_
  refine gl_op (op_rd rfl (rd_move rfl) ?_)
  refine gl_op (op_rd rfl (rd_lenSlice Try.underlying23 rfl) ?_)
  refine gl_op (op_rd rfl (rd_move rfl) ?_)
  refine gl_nil ?_
  refine gx_then ?_
  refine gc_block ?_
  refine gc_loop (ι := Nat) (fun j => j ≤ zs.length ∧ ∀ i, i < j → p (zs.getD i 0) = false) (fun j => [(0, .slice a zs.length cp), (1, .func (.func F) #[] caps.toArray), (7, natV zs.length), (8, natV j)]) (fun j => []) (fun j => zs.length - j) 0 (⟨Nat.zero_le _, fun i h => absurd h (Nat.not_lt_zero i)⟩) ⟨rfl, rfl, rfl, rfl, trivial⟩ ⟨[], by decide, rfl⟩ ?_
  rintro k ⟨hk, hno⟩
  refine gc_seq ?_
  refine gc_region ?_
  refine gl_op (op_rd rfl (rd_lss rfl rfl) (gk_dec (fun hlt => ?_) (fun hlt => ?_)))
  · skip
    refine gl_nil ?_
    refine gx_then ?_
    refine gc_seq ?_
    refine gc_cond_t rfl ?_
    refine gc_skip ?_
    refine gx_then ?_
    refine gc_seq ?_
    refine gc_block ?_
    refine gc_seq ?_
    refine gc_region ?_
    refine gl_op (op_rd rfl (rd_move rfl) ?_)
    refine gl_op (op_rd rfl (rd_assign rfl) ?_)
    refine gl_nil ?_
    refine gx_then ?_
    refine gc_seq ?_
    refine gc_region ?_
    refine gl_op (op_rd rfl (rd_move rfl) ?_)
    refine gl_op (op_rd rfl (rd_move rfl) ?_)
    refine gl_op (op_rd rfl (rd_move rfl) ?_)
    refine gl_op (op_rd rfl (rd_indexOld1 hsl Try.underlying23 ty_3 rfl rfl (by omega) (by omega)) ?_)
    refine gl_op (op_rd rfl (rd_load Try.underlying3 rfl rfl (ld_sl hsl (get_ints (by omega)))) ?_)
    refine gl_op (op_call rfl (vf := []) (vc := caps) rfl rfl hcall (fun w ho => hf k (by omega) w (ho.pick [] (by decide))) ?_)
    rintro _ _ ⟨rfl, rfl⟩
    refine gk_bool (fun hp => ?_) (fun hp => ?_)
    · skip
      have hpt : p (zs.getD k 0) = true := hp
      refine gl_nil ?_
      refine gx_then ?_
      refine gc_cond_t rfl ?_
      refine gc_seq ?_
      refine gc_region ?_
      refine gl_op (op_rd rfl (rd_move rfl) ?_)
      refine gl_op (op_rd rfl (rd_assign rfl) ?_)
      refine gl_nil ?_
      refine gx_then ?_
      refine gc_ret ?_
      refine gx_block_ret ?_
      refine gx_then_ret ?_
      refine gx_then_ret ?_
      refine gx_block_ret ?_
      refine gx_then_ret ?_
      refine gx_ret1 (.inl rfl) Try.results78 rfl [] (by decide) ?_
      exact ⟨by rw [idx_stop p 0 zs 0 k (by omega) hno hpt]; simp, rfl⟩
    · skip
      have hpf : p (zs.getD k 0) = false := by simpa using hp
      refine gl_nil ?_
      refine gx_then ?_
      refine gc_cond_f rfl ?_
      refine gc_skip ?_
      refine gx_block ?_
      refine gx_then ?_
      refine gc_region ?_
      refine gl_op (op_rd rfl (rd_add rfl rfl (by omega) (by omega)) ?_)
      refine gl_op (op_rd rfl (rd_move rfl) ?_)
      refine gl_nil ?_
      refine gx_then ?_
      exact gx_cut (k + 1) ⟨⟨by omega, fun i hi => by rcases Nat.lt_succ_iff_lt_or_eq.1 hi with h | rfl; exact hno i h; exact hpf⟩, by omega⟩ ⟨rfl, rfl, rfl, rfl, trivial⟩ ⟨[], by decide, rfl⟩
  · skip
    refine gl_nil ?_
    refine gx_then ?_
    refine gc_seq ?_
    refine gc_cond_f rfl ?_
    refine gc_exit ?_
    refine gx_then_exit ?_
    refine gx_then_exit ?_
    refine gx_block_exit ?_
    refine gx_then ?_
    refine gc_seq ?_
    refine gc_region ?_
    refine gl_op (op_rd rfl (rd_assign rfl) ?_)
    refine gl_nil ?_
    refine gx_then ?_
    refine gc_ret ?_
    refine gx_ret1 (.inl rfl) Try.results78 rfl [] (by decide) ?_
    exact ⟨by rw [idx_none p 0 zs 0 (fun j hj => hno j (by omega))], rfl⟩

set_option maxRecDepth 100000 in
set_option maxHeartbeats 1000000 in
theorem containsGates_ok (zs : List Gate) (a : Option Addr) (cp : Nat) (F : Nat) (caps : List Value) (p : Gate → Bool) (w0 : World) (hsl : OldSl w0 [] a zs.length 2 (zs.flatMap Gate.cells)) (hb : zs.length ≤ 140737488355328) (hcall : ∀ args w, (callFunc F args).run Try.prog w = .ok (.enter F args) w) (hf : ∀ k, k < zs.length → ∀ w, Own w0 [] w [] → Sp Try.prog F (Gate.val (zs.getD k default) :: caps) w [] (RV (.bool (p (zs.getD k default))))) : Sp Try.prog 52 [.slice a zs.length cp, .func (.func F) #[] caps.toArray] w0 [] (RV (.bool (zs.any p))) := by
  refine spec_enter Try.func52 rfl Try.ntmps52 rfl (Own.refl _) ?_
  simp only [argEnv]
  refine gc_seq ?_
  refine gc_region ?_
  refine gl_op (op_rd rfl (rd_assign rfl) ?_)
  refine gl_nil ?_
  refine gx_then ?_
  refine gc_seq ?_
  refine gc_region ?_
  refine gl_op (op_rd rfl (rd_move rfl) ?_)
  refine gl_op (op_rd rfl (rd_move rfl) ?_)
  refine gl_op (op_call rfl (vf := []) (vc := []) rfl rfl Try.call77 (fun w ho => indexGates_ok zs a cp F caps p w (hsl.at ho) hb hcall (fun k hk w2 ho2 => hf k hk w2 (ho.trans ho2))) ?_)
  rintro _ _ ⟨rfl, rfl⟩
  refine gl_op (op_rd rfl (rd_geq rfl rfl) ?_)
  refine gl_op (op_rd rfl (rd_assign rfl) ?_)
  refine gl_nil ?_
  refine gx_then ?_
  refine gc_ret ?_
  refine gx_ret1 (.inl rfl) Try.results52 rfl [] (by decide) ?_
  exact ⟨by rw [idx_any], rfl⟩

set_option maxRecDepth 100000 in
set_option maxHeartbeats 1000000 in
theorem containsInts_ok (zs : List Int) (a : Option Addr) (cp : Nat) (F : Nat) (caps : List Value) (p : Int → Bool) (w0 : World) (hsl : OldSl w0 [] a zs.length 1 (zs.map intV)) (hb : zs.length ≤ 140737488355328) (hcall : ∀ args w, (callFunc F args).run Try.prog w = .ok (.enter F args) w) (hf : ∀ k, k < zs.length → ∀ w, Own w0 [] w [] → Sp Try.prog F (intV (zs.getD k 0) :: caps) w [] (RV (.bool (p (zs.getD k 0))))) : Sp Try.prog 57 [.slice a zs.length cp, .func (.func F) #[] caps.toArray] w0 [] (RV (.bool (zs.any p))) := by
  refine spec_enter Try.func57 rfl Try.ntmps57 rfl (Own.refl _) ?_
  simp only [argEnv]
  refine gc_seq ?_
  refine gc_region ?_
  refine gl_op (op_rd rfl (rd_assign rfl) ?_)
  refine gl_nil ?_
  refine gx_then ?_
  refine gc_seq ?_
  refine gc_region ?_
  refine gl_op (op_rd rfl (rd_move rfl) ?_)
  refine gl_op (op_rd rfl (rd_move rfl) ?_)
  refine gl_op (op_call rfl (vf := []) (vc := []) rfl rfl Try.call78 (fun w ho => indexInts_ok zs a cp F caps p w (hsl.at ho) hb hcall (fun k hk w2 ho2 => hf k hk w2 (ho.trans ho2))) ?_)
  rintro _ _ ⟨rfl, rfl⟩
  refine gl_op (op_rd rfl (rd_geq rfl rfl) ?_)
  refine gl_op (op_rd rfl (rd_assign rfl) ?_)
  refine gl_nil ?_
  refine gx_then ?_
  refine gc_ret ?_
  refine gx_ret1 (.inl rfl) Try.results57 rfl [] (by decide) ?_
  exact ⟨by rw [idx_any], rfl⟩

set_option maxRecDepth 100000 in
set_option maxHeartbeats 1000000 in
theorem check4_ok (c : Circ) (g : Gate) (pc pn : Addr) (w0 : World) (hg0 : OldSl w0 [] g.ia g.ins.length 1 (g.ins.map intV)) (hgb : g.ins.length ≤ 140737488355328) (hn : w0.cell? pn = some (.func (.func 56) #[] #[.pointer (some pc)])) (hp : Cells w0 pc c.cells) (hi : 0 ≤ c.inputs) (hi8 : c.inputs ≤ 8) (hg : c.gates.length ≤ 12) : Sp Try.prog 58 [g.val, .pointer (some pn)] w0 [] (RV (.bool (g.ins.any c.bad))) := by
  refine spec_enter Try.func58 rfl Try.ntmps58 rfl (Own.refl _) ?_
  simp only [argEnv]
  refine gc_seq ?_
  refine gc_region ?_
  refine gl_op (op_box rfl rfl rfl (fun b2 => ?_))
  refine gl_op (op_rd rfl (rd_assign rfl) ?_)
  refine gl_nil ?_
  refine gx_then ?_
  refine gc_seq ?_
  refine gc_region ?_
  refine gl_op (op_rd rfl (rd_fieldAddr rfl (fa_48_1 _)) ?_)
  refine gl_op (op_rd rfl (rd_load Try.underlying23 rfl rfl (by first | exact ld_blk 0 rfl rfl | exact ld_old (by assumption) (by simp))) ?_)
  refine gl_op (op_rd rfl (rd_load Try.underlying88 rfl rfl (ld_old hn (by simp))) ?_)
  refine gl_op (op_call rfl (vf := []) (vc := []) rfl rfl Try.call57 (fun w ho => containsInts_ok g.ins g.ia g.ic 56 [.pointer (some pc)] c.bad w (hg0.at ho) hgb Try.call56 (fun k hk w2 ho2 => check3_ok c _ pc w2 (hp.at (ho.trans ho2)) hi hi8 hg)) ?_)
  rintro _ _ ⟨rfl, rfl⟩
  refine gl_op (op_rd rfl (rd_assign rfl) ?_)
  refine gl_nil ?_
  refine gx_then ?_
  refine gc_ret ?_
  refine gx_ret1 (.inl rfl) Try.results58 rfl [] (by decide) ?_
  exact ⟨rfl, rfl⟩

set_option maxRecDepth 100000 in
set_option maxHeartbeats 1000000 in
theorem check_ok (c : Circ) (w0 : World) (hc : c.In w0 []) : Sp Try.prog 23 [c.val] w0 [] (RV (.int .i64 c.check)) := by
  refine spec_enter Try.func23 rfl Try.ntmps23 rfl (Own.refl _) ?_
  simp only [argEnv]
  refine gc_seq ?_
  refine gc_region ?_
  refine gl_op (op_box rfl rfl rfl (fun b1 => ?_))
  refine gl_op (op_rd rfl (rd_assign rfl) ?_)
  refine gl_nil ?_
  refine gx_then ?_
  refine gc_seq ?_
  refine gc_seq ?_
  refine gc_region ?_
  refine gl_op (op_rd rfl (rd_fieldAddr rfl (fa_25_0 _)) ?_)
  refine gl_op (op_rd rfl (rd_load Try.underlying3 rfl rfl (by first | exact ld_blk 0 rfl rfl | exact ld_old (by assumption) (by simp))) ?_)
  refine gl_op (op_rd rfl (rd_gtr rfl rfl) (gk_dec (fun a1 => ?_) (fun a1 => ?_)))
  · skip
    refine gl_op (op_rd rfl (rd_move rfl) ?_)
    refine gl_no rfl rfl rfl ?_
    refine gl_no rfl rfl rfl ?_
    refine gl_no rfl rfl rfl ?_
    refine gl_no rfl rfl rfl ?_
    refine gl_op (op_rd rfl (rd_pick_t rfl rfl) ?_)
    refine gl_op (op_rd rfl (rd_move rfl) ?_)
    refine gl_no rfl rfl rfl ?_
    refine gl_no rfl rfl rfl ?_
    refine gl_no rfl rfl rfl ?_
    refine gl_no rfl rfl rfl ?_
    refine gl_op (op_rd rfl (rd_pick_t rfl rfl) ?_)
    refine gl_op (op_rd rfl (rd_move rfl) ?_)
    refine gl_no rfl rfl rfl ?_
    refine gl_no rfl rfl rfl ?_
    refine gl_no rfl rfl rfl ?_
    refine gl_op (op_rd rfl (rd_pick_t rfl rfl) ?_)
    refine gl_nil ?_
    refine gx_then ?_
    refine gc_cond_t rfl ?_
    refine gc_seq ?_
    refine gc_region ?_
    refine gl_op (op_rd rfl (rd_assign rfl) ?_)
    refine gl_nil ?_
    refine gx_then ?_
    refine gc_ret ?_
    refine gx_then_ret ?_
    refine gx_ret1 (.inl rfl) Try.results23 rfl [] (by decide) ?_
    refine ⟨congrArg (Value.int .i64) (Circ.check_long c ?_).symm, rfl⟩
    simp [Circ.long, *] <;> omega
  · skip
    refine gl_op (op_rd rfl (rd_move rfl) ?_)
    refine gl_yes rfl rfl (op_rd rfl (rd_fieldAddr rfl (fa_25_1 _)) ?_)
    refine gl_yes rfl rfl (op_rd rfl (rd_load Try.underlying22 rfl rfl (by first | exact ld_blk 0 rfl rfl | exact ld_old (by assumption) (by simp))) ?_)
    refine gl_yes rfl rfl (op_rd rfl (rd_lenSlice Try.underlying22 rfl) ?_)
    refine gl_yes rfl rfl (op_rd rfl (rd_gtr rfl rfl) (gk_dec (fun a2 => ?_) (fun a2 => ?_)))
    · skip
      refine gl_op (op_rd rfl (rd_pick_f rfl rfl) ?_)
      refine gl_op (op_rd rfl (rd_move rfl) ?_)
      refine gl_no rfl rfl rfl ?_
      refine gl_no rfl rfl rfl ?_
      refine gl_no rfl rfl rfl ?_
      refine gl_no rfl rfl rfl ?_
      refine gl_op (op_rd rfl (rd_pick_t rfl rfl) ?_)
      refine gl_op (op_rd rfl (rd_move rfl) ?_)
      refine gl_no rfl rfl rfl ?_
      refine gl_no rfl rfl rfl ?_
      refine gl_no rfl rfl rfl ?_
      refine gl_op (op_rd rfl (rd_pick_t rfl rfl) ?_)
      refine gl_nil ?_
      refine gx_then ?_
      refine gc_cond_t rfl ?_
      refine gc_seq ?_
      refine gc_region ?_
      refine gl_op (op_rd rfl (rd_assign rfl) ?_)
      refine gl_nil ?_
      refine gx_then ?_
      refine gc_ret ?_
      refine gx_then_ret ?_
      refine gx_ret1 (.inl rfl) Try.results23 rfl [] (by decide) ?_
      refine ⟨congrArg (Value.int .i64) (Circ.check_long c ?_).symm, rfl⟩
      simp [Circ.long, *] <;> omega
    · skip
      refine gl_op (op_rd rfl (rd_pick_f rfl rfl) ?_)
      refine gl_op (op_rd rfl (rd_move rfl) ?_)
      refine gl_yes rfl rfl (op_rd rfl (rd_fieldAddr rfl (fa_25_2 _)) ?_)
      refine gl_yes rfl rfl (op_rd rfl (rd_load Try.underlying23 rfl rfl (by first | exact ld_blk 0 rfl rfl | exact ld_old (by assumption) (by simp))) ?_)
      refine gl_yes rfl rfl (op_rd rfl (rd_lenSlice Try.underlying23 rfl) ?_)
      refine gl_yes rfl rfl (op_rd rfl (rd_gtr rfl rfl) (gk_dec (fun a3 => ?_) (fun a3 => ?_)))
      · skip
        refine gl_op (op_rd rfl (rd_pick_f rfl rfl) ?_)
        refine gl_op (op_rd rfl (rd_move rfl) ?_)
        refine gl_no rfl rfl rfl ?_
        refine gl_no rfl rfl rfl ?_
        refine gl_no rfl rfl rfl ?_
        refine gl_op (op_rd rfl (rd_pick_t rfl rfl) ?_)
        refine gl_nil ?_
        refine gx_then ?_
        refine gc_cond_t rfl ?_
        refine gc_seq ?_
        refine gc_region ?_
        refine gl_op (op_rd rfl (rd_assign rfl) ?_)
        refine gl_nil ?_
        refine gx_then ?_
        refine gc_ret ?_
        refine gx_then_ret ?_
        refine gx_ret1 (.inl rfl) Try.results23 rfl [] (by decide) ?_
        refine ⟨congrArg (Value.int .i64) (Circ.check_long c ?_).symm, rfl⟩
        simp [Circ.long, *] <;> omega
      · skip
        refine gl_op (op_rd rfl (rd_pick_f rfl rfl) ?_)
        refine gl_op (op_rd rfl (rd_move rfl) ?_)
        refine gl_yes rfl rfl (op_rd rfl (rd_fieldAddr rfl (fa_25_1 _)) ?_)
        refine gl_yes rfl rfl (op_rd rfl (rd_load Try.underlying22 rfl rfl (by first | exact ld_blk 0 rfl rfl | exact ld_old (by assumption) (by simp))) ?_)
        refine gl_yes rfl rfl (op_call rfl (vf := []) (vc := []) rfl rfl Try.call52 (fun w ho => containsGates_ok c.gates c.ga c.gc 53 [] (fun g => decide (4 < g.ins.length)) w (hc.gates.at ho) hc.gb Try.call53 (fun k hk w2 ho2 => check1_ok _ w2)) ?_)
        rintro _ _ ⟨rfl, rfl⟩
        refine gk_bool (fun a4 => ?_) (fun a4 => ?_)
        · skip
          refine gl_op (op_rd rfl (rd_pick_f rfl rfl) ?_)
          refine gl_nil ?_
          refine gx_then ?_
          refine gc_cond_t rfl ?_
          refine gc_seq ?_
          refine gc_region ?_
          refine gl_op (op_rd rfl (rd_assign rfl) ?_)
          refine gl_nil ?_
          refine gx_then ?_
          refine gc_ret ?_
          refine gx_then_ret ?_
          refine gx_ret1 (.inl rfl) Try.results23 rfl [] (by decide) ?_
          refine ⟨congrArg (Value.int .i64) (Circ.check_long c ?_).symm, rfl⟩
          simp [Circ.long, *] <;> omega
        · skip
          have hlong : c.long = false := Circ.long_f c a1 a2 a3 a4
          refine gl_op (op_rd rfl (rd_pick_f rfl rfl) ?_)
          refine gl_nil ?_
          refine gx_then ?_
          refine gc_cond_f rfl ?_
          refine gc_skip ?_
          refine gx_then ?_
          refine gc_seq ?_
          refine gc_seq ?_
          refine gc_region ?_
          refine gl_op (op_rd rfl (rd_fieldAddr rfl (fa_25_0 _)) ?_)
          refine gl_op (op_rd rfl (rd_load Try.underlying3 rfl rfl (by first | exact ld_blk 0 rfl rfl | exact ld_old (by assumption) (by simp))) ?_)
          refine gl_op (op_rd rfl (rd_lss rfl rfl) (gk_dec (fun q1 => ?_) (fun q1 => ?_)))
          · skip
            refine gl_op (op_rd rfl (rd_move rfl) ?_)
            refine gl_no rfl rfl rfl ?_
            refine gl_no rfl rfl rfl ?_
            refine gl_no rfl rfl rfl ?_
            refine gl_no rfl rfl rfl ?_
            refine gl_op (op_rd rfl (rd_pick_t rfl rfl) ?_)
            refine gl_op (op_rd rfl (rd_move rfl) ?_)
            refine gl_no rfl rfl rfl ?_
            refine gl_no rfl rfl rfl ?_
            refine gl_no rfl rfl rfl ?_
            refine gl_op (op_rd rfl (rd_pick_t rfl rfl) ?_)
            refine gl_nil ?_
            refine gx_then ?_
            refine gc_cond_t rfl ?_
            refine gc_seq ?_
            refine gc_region ?_
            refine gl_op (op_rd rfl (rd_assign rfl) ?_)
            refine gl_nil ?_
            refine gx_then ?_
            refine gc_ret ?_
            refine gx_then_ret ?_
            refine gx_ret1 (.inl rfl) Try.results23 rfl [] (by decide) ?_
            refine ⟨congrArg (Value.int .i64) (Circ.check_wrong c hlong ?_).symm, rfl⟩
            first | exact Circ.wrong_t c (by omega) | (simp [Circ.wrong, *]; done)
          · skip
            refine gl_op (op_rd rfl (rd_move rfl) ?_)
            refine gl_yes rfl rfl (op_rd rfl (rd_fieldAddr rfl (fa_25_1 _)) ?_)
            refine gl_yes rfl rfl (op_rd rfl (rd_load Try.underlying22 rfl rfl (by first | exact ld_blk 0 rfl rfl | exact ld_old (by assumption) (by simp))) ?_)
            refine gl_yes rfl rfl (op_rd rfl (rd_lenSlice Try.underlying22 rfl) ?_)
            refine gl_yes rfl rfl (op_rd rfl (rd_eql rfl rfl) (gk_dec (fun q2 => ?_) (fun q2 => ?_)))
            · skip
              refine gl_op (op_rd rfl (rd_pick_f rfl rfl) ?_)
              refine gl_op (op_rd rfl (rd_move rfl) ?_)
              refine gl_no rfl rfl rfl ?_
              refine gl_no rfl rfl rfl ?_
              refine gl_no rfl rfl rfl ?_
              refine gl_op (op_rd rfl (rd_pick_t rfl rfl) ?_)
              refine gl_nil ?_
              refine gx_then ?_
              refine gc_cond_t rfl ?_
              refine gc_seq ?_
              refine gc_region ?_
              refine gl_op (op_rd rfl (rd_assign rfl) ?_)
              refine gl_nil ?_
              refine gx_then ?_
              refine gc_ret ?_
              refine gx_then_ret ?_
              refine gx_ret1 (.inl rfl) Try.results23 rfl [] (by decide) ?_
              refine ⟨congrArg (Value.int .i64) (Circ.check_wrong c hlong ?_).symm, rfl⟩
              first | exact Circ.wrong_t c (by omega) | (simp [Circ.wrong, *]; done)
            · skip
              refine gl_op (op_rd rfl (rd_pick_f rfl rfl) ?_)
              refine gl_op (op_rd rfl (rd_move rfl) ?_)
              refine gl_yes rfl rfl (op_rd rfl (rd_fieldAddr rfl (fa_25_1 _)) ?_)
              refine gl_yes rfl rfl (op_rd rfl (rd_load Try.underlying22 rfl rfl (by first | exact ld_blk 0 rfl rfl | exact ld_old (by assumption) (by simp))) ?_)
              refine gl_yes rfl rfl (op_call rfl (vf := []) (vc := []) rfl rfl Try.call52 (fun w ho => containsGates_ok c.gates c.ga c.gc 54 [] (fun g => !sigs g.kind g.ins.length) w (hc.gates.at ho) hc.gb Try.call54 (fun k hk w2 ho2 => check2_ok _ w2)) ?_)
              rintro _ _ ⟨rfl, rfl⟩
              refine gk_bool (fun q3 => ?_) (fun q3 => ?_)
              · skip
                refine gl_op (op_rd rfl (rd_pick_f rfl rfl) ?_)
                refine gl_nil ?_
                refine gx_then ?_
                refine gc_cond_t rfl ?_
                refine gc_seq ?_
                refine gc_region ?_
                refine gl_op (op_rd rfl (rd_assign rfl) ?_)
                refine gl_nil ?_
                refine gx_then ?_
                refine gc_ret ?_
                refine gx_then_ret ?_
                refine gx_ret1 (.inl rfl) Try.results23 rfl [] (by decide) ?_
                refine ⟨congrArg (Value.int .i64) (Circ.check_wrong c hlong ?_).symm, rfl⟩
                first | exact Circ.wrong_t c (by omega) | (simp [Circ.wrong, *]; done)
              · skip
                have hwrong : c.wrong = false := Circ.wrong_f c q1 q2 q3
                refine gl_op (op_rd rfl (rd_pick_f rfl rfl) ?_)
                refine gl_nil ?_
                refine gx_then ?_
                refine gc_cond_f rfl ?_
                refine gc_skip ?_
                refine gx_then ?_
                refine gc_seq ?_
                refine gc_region ?_
                refine gl_op (op_rd rfl (rd_makeFunc (fs := []) rfl rfl) ?_)
                refine gl_op (op_alloc ty_88 rfl rfl (fun b3 => ?_))
                first | refine gl_op (op_store 0 ty_88 rfl rfl rfl rfl rfl (by first | rfl | (simp only [List.set_cons_succ, List.set_cons_zero]; exact rfl)) (by first | rfl | (simp only [List.set_cons_succ, List.set_cons_zero]; exact rfl)) ?_) | refine gl_op (op_store 1 ty_88 rfl rfl rfl rfl rfl (by first | rfl | (simp only [List.set_cons_succ, List.set_cons_zero]; exact rfl)) (by first | rfl | (simp only [List.set_cons_succ, List.set_cons_zero]; exact rfl)) ?_)
                refine gl_nil ?_
                refine gx_then ?_
                refine gc_seq ?_
                refine gc_seq ?_
                refine gc_region ?_
                refine gl_op (op_rd rfl (rd_fieldAddr rfl (fa_25_2 _)) ?_)
                refine gl_op (op_rd rfl (rd_load Try.underlying23 rfl rfl (by first | exact ld_blk 0 rfl rfl | exact ld_blk 1 rfl rfl | exact ld_old (by assumption) (by simp))) ?_)
                refine gl_op (op_rd rfl (rd_load Try.underlying88 rfl rfl (by first | exact ld_blk 0 rfl rfl | exact ld_blk 1 rfl rfl | exact ld_old (by assumption) (by simp))) ?_)
                refine gl_op (op_call rfl (vf := []) (vc := []) rfl rfl Try.call57 (fun w ho => containsInts_ok c.outs c.oa c.oc 56 [.pointer (some ⟨b1, 0, none⟩)] c.bad w (hc.outs.at ho) hc.ob Try.call56 (fun k hk w2 ho2 => check3_ok c _ ⟨b1, 0, none⟩ w2 ((Own.blkCells ho 1 rfl).at ho2) (by omega) (by omega) (by omega))) ?_)
                rintro _ _ ⟨rfl, rfl⟩
                refine gk_bool (fun e1 => ?_) (fun e1 => ?_)
                · skip
                  refine gl_op (op_rd rfl (rd_move rfl) ?_)
                  refine gl_no rfl rfl rfl ?_
                  refine gl_no rfl rfl rfl ?_
                  refine gl_no rfl rfl rfl ?_
                  refine gl_no rfl rfl rfl ?_
                  refine gl_op (op_rd rfl (rd_pick_t rfl rfl) ?_)
                  refine gl_nil ?_
                  refine gx_then ?_
                  refine gc_cond_t rfl ?_
                  refine gc_seq ?_
                  refine gc_region ?_
                  refine gl_op (op_rd rfl (rd_assign rfl) ?_)
                  refine gl_nil ?_
                  refine gx_then ?_
                  refine gc_ret ?_
                  refine gx_then_ret ?_
                  refine gx_ret1 (.inl rfl) Try.results23 rfl [] (by decide) ?_
                  refine ⟨congrArg (Value.int .i64) (Circ.check_out c hlong hwrong ?_).symm, rfl⟩
                  simp [Circ.out, *]
                · skip
                  refine gl_op (op_rd rfl (rd_move rfl) ?_)
                  refine gl_yes rfl rfl (op_rd rfl (rd_fieldAddr rfl (fa_25_1 _)) ?_)
                  refine gl_yes rfl rfl (op_rd rfl (rd_load Try.underlying22 rfl rfl (by first | exact ld_blk 0 rfl rfl | exact ld_blk 1 rfl rfl | exact ld_old (by assumption) (by simp))) ?_)
                  refine gl_yes rfl rfl (op_rd rfl (rd_makeFunc (fs := []) rfl rfl) ?_)
                  refine gl_yes rfl rfl (op_call rfl (vf := []) (vc := []) rfl rfl Try.call52 (fun w ho => containsGates_ok c.gates c.ga c.gc 58 [.pointer (some ⟨b3, 0, none⟩)] (fun g => g.ins.any c.bad) w (hc.gates.at ho) hc.gb Try.call58 (fun k hk w2 ho2 => check4_ok c _ ⟨b1, 0, none⟩ ⟨b3, 0, none⟩ w2 ((hc.ins _ (mem_getD hk)).at (ho.trans ho2)) (hc.ib _ (mem_getD hk)) ((Own.blkCells ho 0 rfl).at ho2 0 _ rfl) ((Own.blkCells ho 1 rfl).at ho2) (by omega) (by omega) (by omega))) ?_)
                  rintro _ _ ⟨rfl, rfl⟩
                  refine gk_bool (fun e2 => ?_) (fun e2 => ?_)
                  · skip
                    refine gl_op (op_rd rfl (rd_pick_f rfl rfl) ?_)
                    refine gl_nil ?_
                    refine gx_then ?_
                    refine gc_cond_t rfl ?_
                    refine gc_seq ?_
                    refine gc_region ?_
                    refine gl_op (op_rd rfl (rd_assign rfl) ?_)
                    refine gl_nil ?_
                    refine gx_then ?_
                    refine gc_ret ?_
                    refine gx_then_ret ?_
                    refine gx_ret1 (.inl rfl) Try.results23 rfl [] (by decide) ?_
                    refine ⟨congrArg (Value.int .i64) (Circ.check_out c hlong hwrong ?_).symm, rfl⟩
                    simp [Circ.out, *]
                  · skip
                    refine gl_op (op_rd rfl (rd_pick_f rfl rfl) ?_)
                    refine gl_nil ?_
                    refine gx_then ?_
                    refine gc_cond_f rfl ?_
                    refine gc_skip ?_
                    refine gx_then ?_
                    refine gc_seq ?_
                    refine gc_region ?_
                    refine gl_op (op_rd rfl (rd_assign rfl) ?_)
                    refine gl_nil ?_
                    refine gx_then ?_
                    refine gc_ret ?_
                    refine gx_ret1 (.inl rfl) Try.results23 rfl [] (by decide) ?_
                    refine ⟨congrArg (Value.int .i64) (Circ.check_ok c hlong hwrong ?_).symm, rfl⟩
                    simp [Circ.out, *]

set_option maxRecDepth 100000 in
set_option maxHeartbeats 1000000 in
theorem lay_ok (c : Circ) (pc : Addr) (st inn : Int) (w0 : World) (hc : c.In w0 []) (hp : Cells w0 pc c.cells) (hst : st ≤ 9223372036854775807) (hin : inn ≤ 9223372036854775807) : Sp Try.prog 45 [.pointer (some pc), .int .i64 st, .int .i64 inn] w0 [] (fun v l => (c.ready st inn = 0 ∧ ∃ b, v = .tuple #[.pointer (some ⟨b, 0, none⟩), .int .i64 0] ∧ l = [.blk b [.pointer (some pc), .int .i64 inn] 97]) ∨ (c.ready st inn ≠ 0 ∧ v = .tuple #[.pointer none, .int .i64 (c.ready st inn)] ∧ l = [])) := by
  refine spec_enter Try.func45 rfl Try.ntmps45 rfl (Own.refl _) ?_
  simp only [argEnv]
  refine gc_seq ?_
  refine gc_region ?_
  refine gl_op (op_rd rfl (rd_assign rfl) ?_)
  refine gl_op (op_rd rfl (rd_assign rfl) ?_)
  refine gl_nil ?_
  refine gx_then ?_
  refine gc_seq ?_
  refine gc_seq ?_
  refine gc_region ?_
  refine gl_op (op_rd rfl (rd_move rfl) ?_)
  refine gl_op (op_rd rfl (rd_nilCheck rfl) ?_)
  refine gl_op (op_rd rfl (rd_loadAgg Try.underlying25 rfl ty_25 rfl (cs_cells hp (by simp)) rfl) ?_)
  refine gl_op (op_call rfl (vf := []) (vc := []) rfl rfl Try.call23 (fun w ho => check_ok c w (hc.at ho)) ?_)
  rintro _ _ ⟨rfl, rfl⟩
  refine gl_op (op_rd rfl (rd_assign rfl) ?_)
  refine gl_nil ?_
  refine gx_then ?_
  refine gc_seq ?_
  refine gc_region ?_
  refine gl_op (op_rd rfl (rd_move rfl) ?_)
  refine gl_op (op_rd rfl (rd_neq rfl rfl) (gk_dec (fun hck => ?_) (fun hck => ?_)))
  · skip
    refine gl_nil ?_
    refine gx_then ?_
    refine gc_cond_t rfl ?_
    refine gc_seq ?_
    refine gc_region ?_
    refine gl_op (op_rd rfl (rd_move rfl) ?_)
    refine gl_op (op_rd rfl (rd_assign rfl) ?_)
    refine gl_op (op_rd rfl (rd_assign rfl) ?_)
    refine gl_nil ?_
    refine gx_then ?_
    refine gc_ret ?_
    refine gx_then_ret ?_
    refine gx_ret2 (.inl rfl) Try.results45 rfl rfl [] (by decide) ?_
    exact .inr ⟨by rw [Circ.ready_bad hck]; exact hck, by rw [Circ.ready_bad hck], rfl⟩
  · skip
    have hck0 : c.check = 0 := by omega
    have hgd := Circ.good hck0
    refine gl_nil ?_
    refine gx_then ?_
    refine gc_cond_f rfl ?_
    refine gc_skip ?_
    refine gx_then ?_
    refine gc_seq ?_
    refine gc_seq ?_
    refine gc_region ?_
    refine gl_op (op_rd rfl (rd_move rfl) ?_)
    refine gl_op (op_rd rfl (rd_lss rfl rfl) (gk_dec (fun hs0 => ?_) (fun hs0 => ?_)))
    · skip
      refine gl_op (op_rd rfl (rd_move rfl) ?_)
      refine gl_no rfl rfl rfl ?_
      refine gl_no rfl rfl rfl ?_
      refine gl_no rfl rfl rfl ?_
      refine gl_no rfl rfl rfl ?_
      refine gl_no rfl rfl rfl ?_
      refine gl_no rfl rfl rfl ?_
      refine gl_no rfl rfl rfl ?_
      refine gl_no rfl rfl rfl ?_
      refine gl_op (op_rd rfl (rd_pick_t rfl rfl) ?_)
      refine gl_op (op_rd rfl (rd_move rfl) ?_)
      refine gl_no rfl rfl rfl ?_
      refine gl_no rfl rfl rfl ?_
      refine gl_op (op_rd rfl (rd_pick_t rfl rfl) ?_)
      refine gl_op (op_rd rfl (rd_move rfl) ?_)
      refine gl_no rfl rfl rfl ?_
      refine gl_no rfl rfl rfl ?_
      refine gl_no rfl rfl rfl ?_
      refine gl_no rfl rfl rfl ?_
      refine gl_no rfl rfl rfl ?_
      refine gl_no rfl rfl rfl ?_
      refine gl_no rfl rfl rfl ?_
      refine gl_op (op_rd rfl (rd_pick_t rfl rfl) ?_)
      refine gl_nil ?_
      refine gx_then ?_
      refine gc_cond_t rfl ?_
      refine gc_seq ?_
      refine gc_region ?_
      refine gl_op (op_rd rfl (rd_assign rfl) ?_)
      refine gl_op (op_rd rfl (rd_assign rfl) ?_)
      refine gl_nil ?_
      refine gx_then ?_
      refine gc_ret ?_
      refine gx_then_ret ?_
      refine gx_ret2 (.inl rfl) Try.results45 rfl rfl [] (by decide) ?_
      have hr := Circ.ready_7 (c := c) (st := st) (inn := inn) hck0 (.inl hs0)
      exact .inr ⟨by rw [hr]; decide, by rw [hr], rfl⟩
    · skip
      obtain ⟨sn, rfl⟩ : ∃ n : Nat, st = n := ⟨st.toNat, by omega⟩
      refine gl_op (op_rd rfl (rd_move rfl) ?_)
      refine gl_yes rfl rfl (op_rd rfl (rd_move rfl) ?_)
      refine gl_yes rfl rfl (op_rd rfl (rd_move rfl) ?_)
      refine gl_yes rfl rfl (op_rd rfl (rd_nilCheck rfl) ?_)
      refine gl_yes rfl rfl (op_rd rfl (rd_fieldAddr rfl (fa_25_1 _)) ?_)
      refine gl_yes rfl rfl (op_rd rfl (rd_load Try.underlying22 rfl rfl (ld_cells hp (by simp) rfl)) ?_)
      refine gl_yes rfl rfl (op_rd rfl (rd_lenSlice Try.underlying22 rfl) ?_)
      refine gl_yes rfl rfl (op_rd rfl (rd_shr rfl rfl (by omega)) ?_)
      refine gl_yes rfl rfl (op_rd rfl (rd_gtr rfl rfl) (gk_dec (fun hs1 => ?_) (fun hs1 => ?_)))
      · skip
        refine gl_op (op_rd rfl (rd_pick_f rfl rfl) ?_)
        refine gl_op (op_rd rfl (rd_move rfl) ?_)
        refine gl_no rfl rfl rfl ?_
        refine gl_no rfl rfl rfl ?_
        refine gl_op (op_rd rfl (rd_pick_t rfl rfl) ?_)
        refine gl_op (op_rd rfl (rd_move rfl) ?_)
        refine gl_no rfl rfl rfl ?_
        refine gl_no rfl rfl rfl ?_
        refine gl_no rfl rfl rfl ?_
        refine gl_no rfl rfl rfl ?_
        refine gl_no rfl rfl rfl ?_
        refine gl_no rfl rfl rfl ?_
        refine gl_no rfl rfl rfl ?_
        refine gl_op (op_rd rfl (rd_pick_t rfl rfl) ?_)
        refine gl_nil ?_
        refine gx_then ?_
        refine gc_cond_t rfl ?_
        refine gc_seq ?_
        refine gc_region ?_
        refine gl_op (op_rd rfl (rd_assign rfl) ?_)
        refine gl_op (op_rd rfl (rd_assign rfl) ?_)
        refine gl_nil ?_
        refine gx_then ?_
        refine gc_ret ?_
        refine gx_then_ret ?_
        refine gx_ret2 (.inl rfl) Try.results45 rfl rfl [] (by decide) ?_
        have hr := Circ.ready_7 (c := c) (st := (sn : Int)) (inn := inn) hck0 (.inr (.inl (shr_pos.1 (Int.natCast_pos.1 hs1))))
        exact .inr ⟨by rw [hr]; decide, by rw [hr], rfl⟩
      · skip
        refine gl_op (op_rd rfl (rd_pick_f rfl rfl) ?_)
        refine gl_op (op_rd rfl (rd_move rfl) ?_)
        refine gl_yes rfl rfl (op_rd rfl (rd_move rfl) ?_)
        refine gl_yes rfl rfl (op_rd rfl (rd_lss rfl rfl) (gk_dec (fun hi0 => ?_) (fun hi0 => ?_)))
        · skip
          refine gl_op (op_rd rfl (rd_pick_f rfl rfl) ?_)
          refine gl_op (op_rd rfl (rd_move rfl) ?_)
          refine gl_no rfl rfl rfl ?_
          refine gl_no rfl rfl rfl ?_
          refine gl_no rfl rfl rfl ?_
          refine gl_no rfl rfl rfl ?_
          refine gl_no rfl rfl rfl ?_
          refine gl_no rfl rfl rfl ?_
          refine gl_no rfl rfl rfl ?_
          refine gl_op (op_rd rfl (rd_pick_t rfl rfl) ?_)
          refine gl_nil ?_
          refine gx_then ?_
          refine gc_cond_t rfl ?_
          refine gc_seq ?_
          refine gc_region ?_
          refine gl_op (op_rd rfl (rd_assign rfl) ?_)
          refine gl_op (op_rd rfl (rd_assign rfl) ?_)
          refine gl_nil ?_
          refine gx_then ?_
          refine gc_ret ?_
          refine gx_then_ret ?_
          refine gx_ret2 (.inl rfl) Try.results45 rfl rfl [] (by decide) ?_
          have hr := Circ.ready_7 (c := c) (st := (sn : Int)) (inn := inn) hck0 (.inr (.inr (.inl hi0)))
          exact .inr ⟨by rw [hr]; decide, by rw [hr], rfl⟩
        · skip
          obtain ⟨im, rfl⟩ : ∃ n : Nat, inn = n := ⟨inn.toNat, by omega⟩
          obtain ⟨ci, hci⟩ : ∃ n : Nat, c.inputs = n := ⟨c.inputs.toNat, by have := hgd.i0; omega⟩
          refine gl_op (op_rd rfl (rd_pick_f rfl rfl) ?_)
          refine gl_op (op_rd rfl (rd_move rfl) ?_)
          refine gl_yes rfl rfl (op_rd rfl (rd_move rfl) ?_)
          refine gl_yes rfl rfl (op_rd rfl (rd_move rfl) ?_)
          refine gl_yes rfl rfl (op_rd rfl (rd_nilCheck rfl) ?_)
          refine gl_yes rfl rfl (op_rd rfl (rd_fieldAddr rfl (fa_25_0 _)) ?_)
          refine gl_yes rfl rfl (op_rd rfl (rd_load Try.underlying3 rfl rfl (ld_cells hp (by simp) rfl)) ?_)
          simp only [hci]
          refine gl_yes rfl rfl (op_rd rfl (rd_shr rfl rfl (by omega)) ?_)
          refine gl_yes rfl rfl (op_rd rfl (rd_gtr rfl rfl) (gk_dec (fun hi1 => ?_) (fun hi1 => ?_)))
          · skip
            refine gl_op (op_rd rfl (rd_pick_f rfl rfl) ?_)
            refine gl_nil ?_
            refine gx_then ?_
            refine gc_cond_t rfl ?_
            refine gc_seq ?_
            refine gc_region ?_
            refine gl_op (op_rd rfl (rd_assign rfl) ?_)
            refine gl_op (op_rd rfl (rd_assign rfl) ?_)
            refine gl_nil ?_
            refine gx_then ?_
            refine gc_ret ?_
            refine gx_then_ret ?_
            refine gx_ret2 (.inl rfl) Try.results45 rfl rfl [] (by decide) ?_
            have hr := Circ.ready_7 (c := c) (st := (sn : Int)) (inn := (im : Int)) hck0 (.inr (.inr (.inr (by rw [hci]; exact shr_pos.1 (Int.natCast_pos.1 hi1)))))
            exact .inr ⟨by rw [hr]; decide, by rw [hr], rfl⟩
          · skip
            refine gl_op (op_rd rfl (rd_pick_f rfl rfl) ?_)
            refine gl_nil ?_
            refine gx_then ?_
            refine gc_cond_f rfl ?_
            refine gc_skip ?_
            refine gx_then ?_
            refine gc_seq ?_
            refine gc_region ?_
            refine gl_op (op_rd rfl (rd_move rfl) ?_)
            refine gl_op (op_rd rfl (rd_move rfl) ?_)
            refine gl_op (op_rd rfl (rd_build rfl (fun _ => bd_97_0_1 _ _)) ?_)
            refine gl_op (op_box rfl rfl rfl (fun b44 => ?_))
            refine gl_op (op_rd rfl (rd_assign rfl) ?_)
            refine gl_op (op_rd rfl (rd_assign rfl) ?_)
            refine gl_nil ?_
            refine gx_then ?_
            refine gc_ret ?_
            refine gx_ret2 (.inl rfl) Try.results45 rfl rfl [0] (by decide) ?_
            have e1 : ¬ 2 ^ c.gates.length ≤ sn := fun h => by have := shr_pos.2 h; omega
            have e2 : ¬ 2 ^ c.inputs.toNat ≤ im := fun h => by rw [hci] at h; have := shr_pos.2 h; simp at this; omega
            exact .inl ⟨Circ.ready_0 hck0 (by simp only [Int.toNat_natCast]; omega), _, rfl, rfl⟩

end Go.Proofs.Yteocjpnckciboaa

set_option autoImplicit false
set_option linter.unusedVariables false
namespace Go.Proofs.Yteocjpnckciboaa
open Go.Gv
open Go.RowKit
open Ry
set_option maxRecDepth 100000 in
set_option maxHeartbeats 1000000 in
theorem bits_ok (m : Nat) (hm : m < 4096) (w0 : World) : Sp Try.prog 46 [natV m] w0 [] (fun v l => ∃ r c, v = .slice (rowA r) (upTo m 12).length c ∧ l = [.row 3 1 r (upTo m 12).length c ((upTo m 12).map natV)]) := by
  refine spec_enter Try.func46 rfl Try.ntmps46 rfl (Own.refl _) ?_
  simp only [argEnv]
  refine gc_seq ?_
  refine gc_region ?_
  refine gl_op (op_rd rfl (rd_assign rfl) ?_)
  refine gl_nil ?_
  refine gx_then ?_
  refine gc_seq ?_
  refine gc_region ?_
  refine gl_op (op_rd rfl (rd_assign rfl) ?_)
  refine gl_nil ?_
  refine gx_then ?_
  refine gc_seq ?_
  refine gc_seq ?_
  refine gc_region ?_
  refine gl_op (op_rd rfl (rd_assign rfl) ?_)
  refine gl_nil ?_
  refine gx_then ?_
  refine gc_block ?_
  refine gk_nil 3 1 ?_
  refine gc_loop (ι := Nat × Option Nat × Nat × Nat × List Value) (fun j => j.1 ≤ 12 ∧ j.2.2.1 = (upTo m j.1).length ∧ j.2.2.2.2 = (upTo m j.1).map natV) (fun j => [(0, natV m), (3, .slice (rowA j.2.1) j.2.2.1 j.2.2.2.1), (4, natV j.1)]) (fun j => [.row 3 1 j.2.1 j.2.2.1 j.2.2.2.1 j.2.2.2.2]) (fun j => 13 - j.1) (0, none, 0, 0, []) (⟨by decide, rfl, rfl⟩) ⟨rfl, rfl, rfl, trivial⟩ ⟨[0], by decide, rfl⟩ ?_
  rintro ⟨k, r, nn, c, cs⟩ ⟨hk, hn, hcs⟩
  simp only at hk hn hcs ⊢
  have hlen := upTo_len m k
  have hsr := Nat.shiftRight_le m k
  have hsx := upTo_succ m k
  refine gc_seq ?_
  refine gc_seq ?_
  refine gc_region ?_
  refine gl_op (op_rd rfl (rd_move rfl) ?_)
  refine gl_op (op_rd rfl (rd_move rfl) ?_)
  refine gl_op (op_rd rfl (rd_shr rfl rfl (by omega)) ?_)
  refine gl_op (op_rd rfl (rd_gtr rfl rfl) (gk_dec (fun hpos => ?_) (fun hpos => ?_)))
  · skip
    have hk2 : k < 12 := by
      apply Nat.lt_of_not_le; intro h
      have h1 : m >>> k = 0 := by rw [Nat.shiftRight_eq_div_pow]; exact Nat.div_eq_of_lt (Nat.lt_of_lt_of_le hm (Nat.pow_le_pow_right (n := 2) (by decide) h))
      omega
    refine gl_nil ?_
    refine gx_then ?_
    refine gc_cond_t rfl ?_
    refine gc_skip ?_
    refine gx_then ?_
    refine gc_seq ?_
    refine gc_block ?_
    refine gc_seq ?_
    refine gc_region ?_
    refine gl_op (op_rd rfl (rd_move rfl) ?_)
    refine gl_op (op_rd rfl (rd_move rfl) ?_)
    refine gl_op (op_rd rfl (rd_shr rfl rfl (by omega)) ?_)
    refine gl_op (op_rd rfl (rd_and (b := 1) rfl rfl (by omega) (by omega)) ?_)
    refine gl_op (op_rd rfl (rd_eql rfl rfl) (gk_dec (fun hbit => ?_) (fun hbit => ?_)))
    · skip
      have htb : m.testBit k = true := by
        rw [and1] at hbit; cases h : m.testBit k with
        | true => rfl
        | false => simp [h] at hbit
      refine gl_nil ?_
      refine gx_then ?_
      refine gc_cond_t rfl ?_
      refine gc_region ?_
      refine gl_op (op_rd rfl (rd_move rfl) ?_)
      refine gl_op (op_rd rfl (rd_move rfl) ?_)
      refine gl_op (op_buildSlice (sz := 1) rfl rfl (fun _ => bs_23_1_0 _) rfl rfl (fun b18 => ?_))
      refine gl_op (op_appendRow 1 0 Try.underlying23 ty_3 rfl (by decide) rfl rfl rfl rfl rfl (by simp [Value.oneCell']) (by omega) (by omega) (fun _ => (by first | rfl | (simp only [List.set_cons_succ, List.set_cons_zero]; exact rfl))) (fun r19 c19 => ?_))
      refine gl_op (op_rd rfl (rd_assign rfl) ?_)
      refine gl_nil ?_
      refine gx_block ?_
      refine gx_then ?_
      refine gc_region ?_
      refine gl_op (op_rd rfl (rd_move rfl) ?_)
      refine gl_op (op_rd rfl (rd_add rfl rfl (by omega) (by omega)) ?_)
      refine gl_op (op_rd rfl (rd_assign rfl) ?_)
      refine gl_nil ?_
      refine gx_then ?_
      exact gx_cut ((k + 1, r19, nn + 1, c19, cs ++ [natV k])) ⟨⟨by omega, by simp only [hsx, htb, if_true, List.length_append, hn]; rfl, by simp only [hsx, htb, if_true, List.map_append, hcs]; rfl⟩, by simp only; omega⟩ ⟨rfl, rfl, rfl, trivial⟩ ⟨[1], by decide, rfl⟩
    · skip
      have htb : m.testBit k = false := by
        rw [and1] at hbit; cases h : m.testBit k with
        | false => rfl
        | true => simp [h] at hbit
      refine gl_nil ?_
      refine gx_then ?_
      refine gc_cond_f rfl ?_
      refine gc_skip ?_
      refine gx_block ?_
      refine gx_then ?_
      refine gc_region ?_
      refine gl_op (op_rd rfl (rd_move rfl) ?_)
      refine gl_op (op_rd rfl (rd_add rfl rfl (by omega) (by omega)) ?_)
      refine gl_op (op_rd rfl (rd_assign rfl) ?_)
      refine gl_nil ?_
      refine gx_then ?_
      exact gx_cut ((k + 1, r, nn, c, cs)) ⟨⟨by omega, by simp [hsx, htb, hn], by simp [hsx, htb, hcs]⟩, by simp only; omega⟩ ⟨rfl, rfl, rfl, trivial⟩ ⟨[0], by decide, rfl⟩
  · skip
    have hdone := upTo_done m k (Nat.eq_zero_of_not_pos fun h => hpos (Int.natCast_pos.2 h)) hk
    refine gl_nil ?_
    refine gx_then ?_
    refine gc_cond_f rfl ?_
    refine gc_exit ?_
    refine gx_then_exit ?_
    refine gx_then_exit ?_
    refine gx_block_exit ?_
    refine gx_then ?_
    refine gc_seq ?_
    refine gc_region ?_
    refine gl_op (op_rd rfl (rd_move rfl) ?_)
    refine gl_op (op_rd rfl (rd_assign rfl) ?_)
    refine gl_nil ?_
    refine gx_then ?_
    refine gc_ret ?_
    refine gx_ret1 (.inl rfl) Try.results46 rfl [0] (by decide) ?_
    exact ⟨r, c, by rw [← hdone, hn], by rw [← hdone, hn, hcs]; rfl⟩

set_option maxRecDepth 100000 in
set_option maxHeartbeats 1000000 in
theorem value_ok (c : Circ) (pb pc : Addr) (inn : Nat) (k st : Nat) (g : Gate) (w0 : World) (hbd : BoardIn c pb pc inn w0) (hgd : c.Good) (hst : st < 2 ^ c.gates.length) (hin : inn < 2 ^ c.inputs.toNat) (hg : c.gates[k]? = some g) : Sp Try.prog 74 [.pointer (some pb), natV k, natV st] w0 [] (RV (.bool (valueG (st <<< c.inputs.toNat ||| inn) st k g))) := by
  obtain ⟨ci, hci⟩ : ∃ n : Nat, c.inputs = n := ⟨c.inputs.toNat, by have := hgd.i0; omega⟩
  have hci8 : ci ≤ 8 := by have := hgd.i8; omega
  have hall := all_lt hgd hst hin
  have hst2 := st_lt hgd hst
  have hin2 := in_lt hgd hin
  rw [hci] at hall
  simp only [Int.toNat_natCast] at hall
  obtain ⟨hb, hp, hc⟩ := hbd
  refine spec_enter Try.func74 rfl Try.ntmps74 rfl (Own.refl _) ?_
  simp only [argEnv]
  refine gc_seq ?_
  refine gc_region ?_
  refine gl_op (op_rd rfl (rd_assign rfl) ?_)
  refine gl_nil ?_
  refine gx_then ?_
  refine gc_seq ?_
  refine gc_drawP [] true 14 rfl ?_
  refine ga_first 0 #[true, false, false, false, false, false, false, false, false, false, false, false, false, false, false] rfl rfl rfl rfl (by kernel_rfl) rfl ⟨[], by decide, rfl⟩ (qt_rd (rd_move rfl)) ?_
  refine ga_first 1 #[true, true, false, false, false, false, false, false, false, false, false, false, false, false, false] rfl rfl rfl rfl (by kernel_rfl) rfl ⟨[], by decide, rfl⟩ (qt_rd (rd_move rfl)) ?_
  refine ga_first 2 #[true, true, true, false, false, false, false, false, false, false, false, false, false, false, false] rfl rfl rfl rfl (by kernel_rfl) rfl ⟨[], by decide, rfl⟩ (qt_rd (rd_nilCheck rfl)) ?_
  refine ga_first 3 #[true, true, true, true, false, false, false, false, false, false, false, false, false, false, false] rfl rfl rfl rfl (by kernel_rfl) rfl ⟨[], by decide, rfl⟩ (qt_rd (rd_fieldAddr rfl (fa_97_0 _))) ?_
  refine ga_first 4 #[true, true, true, true, true, false, false, false, false, false, false, false, false, false, false] rfl rfl rfl rfl (by kernel_rfl) rfl ⟨[], by decide, rfl⟩ (qt_rd (rd_load Try.underlying64 rfl rfl (ld_cells hb (by simp) rfl))) ?_
  refine ga_first 5 #[true, true, true, true, true, true, false, false, false, false, false, false, false, false, false] rfl rfl rfl rfl (by kernel_rfl) rfl ⟨[], by decide, rfl⟩ (qt_rd (rd_nilCheck rfl)) ?_
  refine ga_first 6 #[true, true, true, true, true, true, true, false, false, false, false, false, false, false, false] rfl rfl rfl rfl (by kernel_rfl) rfl ⟨[], by decide, rfl⟩ (qt_rd (rd_fieldAddr rfl (fa_25_0 _))) ?_
  refine ga_first 7 #[true, true, true, true, true, true, true, true, false, false, false, false, false, false, false] rfl rfl rfl rfl (by kernel_rfl) rfl ⟨[], by decide, rfl⟩ (qt_rd (rd_load Try.underlying3 rfl rfl (ld_cells hp (by simp) rfl))) ?_
  simp only [hci]
  refine ga_first 8 #[true, true, true, true, true, true, true, true, true, false, false, false, false, false, false] rfl rfl rfl rfl (by kernel_rfl) rfl ⟨[], by decide, rfl⟩ (qt_rd (rd_shl rfl rfl (by first | omega | (have := shl_lt hst2 hci8; omega)) (by first | omega | (have := shl_lt hst2 hci8; omega)))) ?_
  refine ga_first 9 #[true, true, true, true, true, true, true, true, true, true, false, false, false, false, false] rfl rfl rfl rfl (by kernel_rfl) rfl ⟨[], by decide, rfl⟩ (qt_rd (rd_move rfl)) ?_
  refine ga_first 10 #[true, true, true, true, true, true, true, true, true, true, true, false, false, false, false] rfl rfl rfl rfl (by kernel_rfl) rfl ⟨[], by decide, rfl⟩ (qt_rd (rd_nilCheck rfl)) ?_
  refine ga_first 11 #[true, true, true, true, true, true, true, true, true, true, true, true, false, false, false] rfl rfl rfl rfl (by kernel_rfl) rfl ⟨[], by decide, rfl⟩ (qt_rd (rd_fieldAddr rfl (fa_97_1 _))) ?_
  refine ga_first 12 #[true, true, true, true, true, true, true, true, true, true, true, true, true, false, false] rfl rfl rfl rfl (by kernel_rfl) rfl ⟨[], by decide, rfl⟩ (qt_rd (rd_load Try.underlying3 rfl rfl (ld_cells hb (by simp) rfl))) ?_
  refine ga_first 13 #[true, true, true, true, true, true, true, true, true, true, true, true, true, true, false] rfl rfl rfl rfl (by kernel_rfl) rfl ⟨[], by decide, rfl⟩ (qt_rd (rd_or rfl rfl (by first | omega | (rw [Nat.shiftLeft_eq]; have := shl_lt hst2 hci8; omega)) (by first | omega | (rw [Nat.shiftLeft_eq]; have := shl_lt hst2 hci8; omega)))) ?_
  refine ga_first 14 #[true, true, true, true, true, true, true, true, true, true, true, true, true, true, true] rfl rfl rfl rfl (by kernel_rfl) rfl ⟨[], by decide, rfl⟩ (qt_rd (rd_assign rfl)) ?_
  refine ga_end (by kernel_rfl) (.inr ⟨[], by decide, rfl⟩) ?_
  refine gx_then ?_
  refine gc_seq ?_
  have hkl : k < c.gates.length := (List.getElem?_eq_some_iff.1 hg).1
  have hgm : g ∈ c.gates := List.mem_of_getElem? hg
  have hsig := hgd.sigs g hgm
  have hi4 := hgd.in4 g hgm
  have hgi := hgd.ins g hgm
  have hi0 := sigs_pos hsig
  have hins := hc.ins g hgm
  have hglb := hc.gb
  have hg12 := hgd.g12
  rw [hci] at *
  simp only [Int.toNat_natCast]
  generalize st <<< ci ||| inn = all at *
  refine gc_region ?_
  refine gl_op (op_rd rfl (rd_move rfl) ?_)
  refine gl_op (op_rd rfl (rd_nilCheck rfl) ?_)
  refine gl_op (op_rd rfl (rd_fieldAddr rfl (fa_97_0 _)) ?_)
  refine gl_op (op_rd rfl (rd_load Try.underlying64 rfl rfl (ld_cells hb (by simp) rfl)) ?_)
  refine gl_op (op_rd rfl (rd_nilCheck rfl) ?_)
  refine gl_op (op_rd rfl (rd_fieldAddr rfl (fa_25_1 _)) ?_)
  refine gl_op (op_rd rfl (rd_load Try.underlying22 rfl rfl (ld_cells hp (by simp) rfl)) ?_)
  refine gl_op (op_rd rfl (rd_move rfl) ?_)
  refine gl_op (op_rd rfl (rd_indexOld hc.gates Try.underlying22 ty_48 rfl rfl (by omega) (by omega)) ?_)
  refine gl_op (op_rd rfl (rd_assign rfl) ?_)
  refine gl_nil ?_
  refine gx_then ?_
  refine gc_seq ?_
  refine gc_region ?_
  refine gl_op (op_rd rfl (rd_assign rfl) ?_)
  refine gl_nil ?_
  refine gx_then ?_
  refine gc_seq ?_
  refine gc_seq ?_
  refine gc_region ?_
  refine gl_op (op_rd rfl (rd_move rfl) ?_)
  refine gl_op (op_rd rfl (rd_nilCheck rfl) ?_)
  refine gl_op (op_rd rfl (rd_fieldAddr rfl (fa_48_1 _)) ?_)
  refine gl_op (op_rd rfl (rd_load Try.underlying23 rfl rfl (ld_slf hc.gates (get_flat Gate.cells 2 (fun _ => rfl) hg (j := 1) (by decide) rfl))) ?_)
  refine gl_op (op_rd rfl (rd_lenSlice Try.underlying23 rfl) ?_)
  refine gl_op (op_rd rfl (rd_move rfl) ?_)
  refine gl_nil ?_
  refine gx_then ?_
  refine gc_block ?_
  refine gc_loop (ι := Nat × Nat) (fun j => j.1 ≤ g.ins.length ∧ j.2 = cnt all (g.ins.take j.1)) (fun j => [(0, .pointer (some pb)), (1, natV k), (2, natV st), (7, natV all), (8, .pointer (some ((adr c.ga).add (k * 2)))), (9, natV j.2), (40, .slice g.ia g.ins.length g.ic), (41, natV g.ins.length), (42, natV j.1)]) (fun j => []) (fun j => g.ins.length - j.1) (0, 0) (⟨Nat.zero_le _, rfl⟩) ⟨rfl, rfl, rfl, rfl, rfl, rfl, rfl, rfl, rfl, trivial⟩ ⟨[], by decide, rfl⟩ ?_
  rintro ⟨j, mm⟩ ⟨hj, hm⟩
  simp only at hj hm ⊢
  have hmle := cnt_le all (g.ins.take j)
  have htk : (g.ins.take j).length ≤ 4 := by rw [List.length_take]; omega
  refine gc_seq ?_
  refine gc_region ?_
  refine gl_op (op_rd rfl (rd_lss rfl rfl) (gk_dec (fun hlt => ?_) (fun hlt => ?_)))
  · skip
    refine gl_nil ?_
    refine gx_then ?_
    refine gc_seq ?_
    refine gc_cond_t rfl ?_
    refine gc_skip ?_
    refine gx_then ?_
    refine gc_seq ?_
    refine gc_block ?_
    refine gc_seq ?_
    refine gc_region ?_
    refine gl_op (op_rd rfl (rd_indexOld1 hins Try.underlying23 ty_3 rfl rfl (by omega) (by omega)) ?_)
    refine gl_op (op_rd rfl (rd_load Try.underlying3 rfl rfl (ld_sl hins (get_ints (by omega)))) ?_)
    refine gl_op (op_rd rfl (rd_assign rfl) ?_)
    refine gl_nil ?_
    refine gx_then ?_
    refine gc_region ?_
    refine gl_op (op_rd rfl (rd_move rfl) ?_)
    refine gl_op (op_rd rfl (rd_move rfl) ?_)
    refine gl_op (op_rd rfl (rd_move rfl) ?_)
    obtain ⟨nj, hnj⟩ : ∃ n : Nat, g.ins.getD j 0 = n := ⟨(g.ins.getD j 0).toNat, by have := hgi _ (mem_getD (d := 0) (show j < g.ins.length by omega)); omega⟩
    have hnj' : g.ins.getD ((j : Nat) : Int).toNat 0 = nj := hnj
    simp only [hnj']
    refine gl_op (op_rd rfl (rd_shr rfl rfl (by omega)) ?_)
    have hsr := Nat.shiftRight_le all nj
    refine gl_op (op_rd rfl (rd_and (b := 1) rfl rfl (by omega) (by omega)) ?_)
    have hal := and1 all nj
    have hal2 : (all >>> nj) &&& 1 ≤ 1 := by rw [hal]; split <;> omega
    refine gl_op (op_rd rfl (rd_add rfl rfl (by omega) (by omega)) ?_)
    refine gl_op (op_rd rfl (rd_assign rfl) ?_)
    refine gl_nil ?_
    refine gx_block ?_
    refine gx_then ?_
    refine gc_region ?_
    refine gl_op (op_rd rfl (rd_add rfl rfl (by omega) (by omega)) ?_)
    refine gl_op (op_rd rfl (rd_move rfl) ?_)
    refine gl_nil ?_
    refine gx_then ?_
    exact gx_cut ((j + 1, mm + ((all >>> nj) &&& 1))) ⟨⟨by omega, by rw [cnt_take_succ all g.ins j (by omega), hm, and1]; simp only [sigA, hnj, Int.toNat_natCast]⟩, by simp only; omega⟩ ⟨rfl, rfl, rfl, rfl, rfl, rfl, rfl, rfl, rfl, trivial⟩ ⟨[], by decide, rfl⟩
  · skip
    have hdone : mm = cnt all g.ins := by rw [hm, List.take_of_length_le (by omega)]
    refine gl_nil ?_
    refine gx_then ?_
    refine gc_seq ?_
    refine gc_cond_f rfl ?_
    refine gc_exit ?_
    refine gx_then_exit ?_
    refine gx_then_exit ?_
    refine gx_block_exit ?_
    refine gx_then ?_
    refine gc_seq ?_
    refine gc_region ?_
    refine gl_op (op_rd rfl (rd_move rfl) ?_)
    refine gl_op (op_rd rfl (rd_move rfl) ?_)
    refine gl_op (op_rd rfl (rd_nilCheck rfl) ?_)
    refine gl_op (op_rd rfl (rd_fieldAddr rfl (fa_48_1 _)) ?_)
    refine gl_op (op_rd rfl (rd_load Try.underlying23 rfl rfl (ld_slf hc.gates (get_flat Gate.cells 2 (fun _ => rfl) hg (j := 1) (by decide) rfl))) ?_)
    refine gl_op (op_rd rfl (rd_indexOld1 hins Try.underlying23 ty_3 rfl rfl (by omega) (by omega)) ?_)
    refine gl_op (op_rd rfl (rd_load Try.underlying3 rfl rfl (ld_sl hins (get_ints (k := (0 : Int).toNat) (by have : (0 : Int).toNat = 0 := rfl; omega)))) ?_)
    obtain ⟨n0, hn0⟩ : ∃ n : Nat, g.ins.getD 0 0 = n := ⟨(g.ins.getD 0 0).toNat, by have := hgi _ (mem_getD (d := 0) (show 0 < g.ins.length by omega)); omega⟩
    have hn0' : g.ins.getD (0 : Int).toNat 0 = n0 := hn0
    simp only [hn0']
    refine gl_op (op_rd rfl (rd_shr rfl rfl (by omega)) ?_)
    have hsr0 := Nat.shiftRight_le all n0
    refine gl_op (op_rd rfl (rd_and (b := 1) rfl rfl (by omega) (by omega)) ?_)
    refine gl_op (op_rd rfl (rd_eql rfl rfl) ?_)
    refine gl_op (op_rd rfl (rd_assign rfl) ?_)
    refine gl_nil ?_
    refine gx_then ?_
    refine gc_seq ?_
    refine gc_region ?_
    refine gl_op (op_rd rfl (rd_assign rfl) ?_)
    refine gl_nil ?_
    refine gx_then ?_
    refine gc_seq ?_
    refine gc_seq ?_
    refine gc_region ?_
    refine gl_op (op_rd rfl (rd_move rfl) ?_)
    refine gl_op (op_rd rfl (rd_nilCheck rfl) ?_)
    refine gl_op (op_rd rfl (rd_fieldAddr rfl (fa_48_0 _)) ?_)
    refine gl_op (op_rd rfl (rd_load Try.underlying3 rfl rfl (ld_slf hc.gates (get_flat Gate.cells 2 (fun _ => rfl) hg (j := 0) (by decide) rfl))) ?_)
    refine gl_nil ?_
    refine gx_then ?_
    refine gc_block ?_
    refine gc_seq ?_
    refine gc_block ?_
    refine gc_seq ?_
    refine gc_block ?_
    refine gc_seq ?_
    refine gc_block ?_
    refine gc_seq ?_
    refine gc_block ?_
    refine gc_seq ?_
    refine gc_block ?_
    refine gc_seq ?_
    refine gc_seq ?_
    refine gc_seq ?_
    refine gc_region ?_
    refine gl_op (op_rd rfl (rd_eql rfl rfl) (gk_dec (fun h4 => ?_) (fun h4 => ?_)))
    · skip
      refine gl_op (op_rd rfl (rd_assign rfl) ?_)
      refine gl_nil ?_
      refine gx_then ?_
      refine gc_cond_t rfl ?_
      refine gc_exit ?_
      refine gx_then_exit ?_
      refine gx_then_exit ?_
      refine gx_block_exit ?_
      refine gx_then ?_
      refine gc_region ?_
      refine gl_op (op_rd rfl (rd_assign rfl) ?_)
      refine gl_nil ?_
      refine gx_block ?_
      refine gx_then ?_
      refine gc_seq ?_
      refine gc_seq ?_
      refine gc_region ?_
      refine gl_op (op_rd rfl (rd_move rfl) ?_)
      refine gl_op (op_rd rfl (rd_move rfl) ?_)
      refine gl_op (op_rd rfl (rd_nilCheck rfl) ?_)
      refine gl_op (op_rd rfl (rd_fieldAddr rfl (fa_48_1 _)) ?_)
      refine gl_op (op_rd rfl (rd_load Try.underlying23 rfl rfl (ld_slf hc.gates (get_flat Gate.cells 2 (fun _ => rfl) hg (j := 1) (by decide) rfl))) ?_)
      refine gl_op (op_rd rfl (rd_lenSlice Try.underlying23 rfl) ?_)
      refine gl_op (op_rd rfl (rd_eql rfl rfl) ?_)
      refine gl_op (op_rd rfl (rd_move rfl) ?_)
      refine gl_op (op_rd rfl (rd_neqb Try.runUnderlying4 rfl rfl) ?_)
      refine gl_op (op_rd rfl (rd_assign rfl) ?_)
      refine gl_nil ?_
      refine gx_then ?_
      refine gc_ret ?_
      refine gx_then_ret ?_
      refine gx_block_ret ?_
      refine gx_then_ret ?_
      refine gx_block_ret ?_
      refine gx_then_ret ?_
      refine gx_block_ret ?_
      refine gx_then_ret ?_
      refine gx_block_ret ?_
      refine gx_then_ret ?_
      refine gx_ret1 (.inl rfl) Try.results74 rfl [] (by decide) ?_
      refine ⟨congrArg Value.bool ?_, rfl⟩
      rw [valueG_and2 h4, hdone, cnt_beq]; simp
    · skip
      refine gl_op (op_rd rfl (rd_assign rfl) ?_)
      refine gl_nil ?_
      refine gx_then ?_
      refine gc_cond_f rfl ?_
      refine gc_skip ?_
      refine gx_then ?_
      refine gc_seq ?_
      refine gc_seq ?_
      refine gc_region ?_
      refine gl_op (op_rd rfl (rd_eql rfl rfl) (gk_dec (fun h1 => ?_) (fun h1 => ?_)))
      · skip
        refine gl_op (op_rd rfl (rd_assign rfl) ?_)
        refine gl_nil ?_
        refine gx_then ?_
        refine gc_cond_t rfl ?_
        refine gc_exit ?_
        refine gx_then_exit ?_
        refine gx_then_exit ?_
        refine gx_block_pass rfl ?_
        refine gx_then_exit ?_
        refine gx_block_exit ?_
        refine gx_then ?_
        refine gc_seq ?_
        refine gc_seq ?_
        refine gc_region ?_
        refine gl_op (op_rd rfl (rd_move rfl) ?_)
        refine gl_op (op_rd rfl (rd_move rfl) ?_)
        refine gl_op (op_rd rfl (rd_nilCheck rfl) ?_)
        refine gl_op (op_rd rfl (rd_fieldAddr rfl (fa_48_1 _)) ?_)
        refine gl_op (op_rd rfl (rd_load Try.underlying23 rfl rfl (ld_slf hc.gates (get_flat Gate.cells 2 (fun _ => rfl) hg (j := 1) (by decide) rfl))) ?_)
        refine gl_op (op_rd rfl (rd_lenSlice Try.underlying23 rfl) ?_)
        refine gl_op (op_rd rfl (rd_eql rfl rfl) ?_)
        refine gl_op (op_rd rfl (rd_move rfl) ?_)
        refine gl_op (op_rd rfl (rd_neqb Try.runUnderlying4 rfl rfl) ?_)
        refine gl_op (op_rd rfl (rd_assign rfl) ?_)
        refine gl_nil ?_
        refine gx_then ?_
        refine gc_ret ?_
        refine gx_then_ret ?_
        refine gx_block_ret ?_
        refine gx_then_ret ?_
        refine gx_block_ret ?_
        refine gx_then_ret ?_
        refine gx_block_ret ?_
        refine gx_then_ret ?_
        refine gx_block_ret ?_
        refine gx_then_ret ?_
        refine gx_ret1 (.inl rfl) Try.results74 rfl [] (by decide) ?_
        refine ⟨congrArg Value.bool ?_, rfl⟩
        rw [valueG_and h1, hdone, cnt_beq]; simp
      · skip
        refine gl_op (op_rd rfl (rd_assign rfl) ?_)
        refine gl_nil ?_
        refine gx_then ?_
        refine gc_cond_f rfl ?_
        refine gc_skip ?_
        refine gx_then ?_
        refine gc_seq ?_
        refine gc_seq ?_
        refine gc_seq ?_
        refine gc_region ?_
        refine gl_op (op_rd rfl (rd_eql rfl rfl) (gk_dec (fun h5 => ?_) (fun h5 => ?_)))
        · skip
          refine gl_op (op_rd rfl (rd_assign rfl) ?_)
          refine gl_nil ?_
          refine gx_then ?_
          refine gc_cond_t rfl ?_
          refine gc_skip ?_
          refine gx_then ?_
          refine gc_cond_t rfl ?_
          refine gc_exit ?_
          refine gx_then_exit ?_
          refine gx_then_exit ?_
          refine gx_block_pass rfl ?_
          refine gx_then_exit ?_
          refine gx_block_pass rfl ?_
          refine gx_then_exit ?_
          refine gx_block_exit ?_
          refine gx_then ?_
          refine gc_region ?_
          refine gl_op (op_rd rfl (rd_assign rfl) ?_)
          refine gl_nil ?_
          refine gx_block ?_
          refine gx_then ?_
          refine gc_seq ?_
          refine gc_seq ?_
          refine gc_region ?_
          refine gl_op (op_rd rfl (rd_move rfl) ?_)
          refine gl_op (op_rd rfl (rd_gtr rfl rfl) ?_)
          refine gl_op (op_rd rfl (rd_move rfl) ?_)
          refine gl_op (op_rd rfl (rd_neqb Try.runUnderlying4 rfl rfl) ?_)
          refine gl_op (op_rd rfl (rd_assign rfl) ?_)
          refine gl_nil ?_
          refine gx_then ?_
          refine gc_ret ?_
          refine gx_then_ret ?_
          refine gx_block_ret ?_
          refine gx_then_ret ?_
          refine gx_block_ret ?_
          refine gx_then_ret ?_
          refine gx_ret1 (.inl rfl) Try.results74 rfl [] (by decide) ?_
          refine ⟨congrArg Value.bool ?_, rfl⟩
          rw [valueG_or2 h5, hdone, cnt_bpos]; simp
        · skip
          refine gl_op (op_rd rfl (rd_assign rfl) ?_)
          refine gl_nil ?_
          refine gx_then ?_
          refine gc_cond_f rfl ?_
          refine gc_region ?_
          refine gl_op (op_rd rfl (rd_eql rfl rfl) (gk_dec (fun h3 => ?_) (fun h3 => ?_)))
          · skip
            refine gl_op (op_rd rfl (rd_assign rfl) ?_)
            refine gl_nil ?_
            refine gx_then ?_
            refine gc_cond_t rfl ?_
            refine gc_exit ?_
            refine gx_then_exit ?_
            refine gx_then_exit ?_
            refine gx_block_pass rfl ?_
            refine gx_then_exit ?_
            refine gx_block_pass rfl ?_
            refine gx_then_exit ?_
            refine gx_block_exit ?_
            refine gx_then ?_
            refine gc_region ?_
            refine gl_op (op_rd rfl (rd_assign rfl) ?_)
            refine gl_nil ?_
            refine gx_block ?_
            refine gx_then ?_
            refine gc_seq ?_
            refine gc_seq ?_
            refine gc_region ?_
            refine gl_op (op_rd rfl (rd_move rfl) ?_)
            refine gl_op (op_rd rfl (rd_gtr rfl rfl) ?_)
            refine gl_op (op_rd rfl (rd_move rfl) ?_)
            refine gl_op (op_rd rfl (rd_neqb Try.runUnderlying4 rfl rfl) ?_)
            refine gl_op (op_rd rfl (rd_assign rfl) ?_)
            refine gl_nil ?_
            refine gx_then ?_
            refine gc_ret ?_
            refine gx_then_ret ?_
            refine gx_block_ret ?_
            refine gx_then_ret ?_
            refine gx_block_ret ?_
            refine gx_then_ret ?_
            refine gx_ret1 (.inl rfl) Try.results74 rfl [] (by decide) ?_
            refine ⟨congrArg Value.bool ?_, rfl⟩
            rw [valueG_not h3 hsig, hdone, cnt_bpos]; simp
          · skip
            refine gl_op (op_rd rfl (rd_assign rfl) ?_)
            refine gl_nil ?_
            refine gx_then ?_
            refine gc_cond_f rfl ?_
            refine gc_skip ?_
            refine gx_then ?_
            refine gc_seq ?_
            refine gc_seq ?_
            refine gc_region ?_
            refine gl_op (op_rd rfl (rd_eql rfl rfl) (gk_dec (fun h2 => ?_) (fun h2 => ?_)))
            · skip
              refine gl_op (op_rd rfl (rd_assign rfl) ?_)
              refine gl_nil ?_
              refine gx_then ?_
              refine gc_cond_t rfl ?_
              refine gc_exit ?_
              refine gx_then_exit ?_
              refine gx_then_exit ?_
              refine gx_block_pass rfl ?_
              refine gx_then_exit ?_
              refine gx_block_pass rfl ?_
              refine gx_then_exit ?_
              refine gx_block_pass rfl ?_
              refine gx_then_exit ?_
              refine gx_block_exit ?_
              refine gx_then ?_
              refine gc_seq ?_
              refine gc_seq ?_
              refine gc_region ?_
              refine gl_op (op_rd rfl (rd_move rfl) ?_)
              refine gl_op (op_rd rfl (rd_gtr rfl rfl) ?_)
              refine gl_op (op_rd rfl (rd_move rfl) ?_)
              refine gl_op (op_rd rfl (rd_neqb Try.runUnderlying4 rfl rfl) ?_)
              refine gl_op (op_rd rfl (rd_assign rfl) ?_)
              refine gl_nil ?_
              refine gx_then ?_
              refine gc_ret ?_
              refine gx_then_ret ?_
              refine gx_block_ret ?_
              refine gx_then_ret ?_
              refine gx_block_ret ?_
              refine gx_then_ret ?_
              refine gx_ret1 (.inl rfl) Try.results74 rfl [] (by decide) ?_
              refine ⟨congrArg Value.bool ?_, rfl⟩
              rw [valueG_or h2, hdone, cnt_bpos]; simp
            · skip
              refine gl_op (op_rd rfl (rd_assign rfl) ?_)
              refine gl_nil ?_
              refine gx_then ?_
              refine gc_cond_f rfl ?_
              refine gc_skip ?_
              refine gx_then ?_
              refine gc_seq ?_
              refine gc_region ?_
              refine gl_op (op_rd rfl (rd_eql rfl rfl) (gk_dec (fun h6 => ?_) (fun h6 => ?_)))
              · skip
                refine gl_op (op_rd rfl (rd_assign rfl) ?_)
                refine gl_nil ?_
                refine gx_then ?_
                refine gc_cond_t rfl ?_
                refine gc_exit ?_
                refine gx_then_exit ?_
                refine gx_block_pass rfl ?_
                refine gx_then_exit ?_
                refine gx_block_pass rfl ?_
                refine gx_then_exit ?_
                refine gx_block_pass rfl ?_
                refine gx_then_exit ?_
                refine gx_block_pass rfl ?_
                refine gx_then_exit ?_
                refine gx_block_exit ?_
                refine gx_then ?_
                refine gc_seq ?_
                refine gc_seq ?_
                refine gc_region ?_
                refine gl_op (op_rd rfl (rd_move rfl) ?_)
                refine gl_op (op_rd rfl (rd_eql rfl rfl) ?_)
                refine gl_op (op_rd rfl (rd_assign rfl) ?_)
                refine gl_nil ?_
                refine gx_then ?_
                refine gc_ret ?_
                refine gx_then_ret ?_
                refine gx_block_ret ?_
                refine gx_then_ret ?_
                refine gx_ret1 (.inl rfl) Try.results74 rfl [] (by decide) ?_
                refine ⟨congrArg Value.bool ?_, rfl⟩
                rw [valueG_xor h6 hsig, hdone]; simp only [decide_eq_decide]; omega
              · skip
                refine gl_op (op_rd rfl (rd_assign rfl) ?_)
                refine gl_nil ?_
                refine gx_then ?_
                refine gc_cond_f rfl ?_
                refine gc_skip ?_
                refine gx_then ?_
                refine gc_exit ?_
                refine gx_block_pass rfl ?_
                refine gx_then_exit ?_
                refine gx_block_pass rfl ?_
                refine gx_then_exit ?_
                refine gx_block_pass rfl ?_
                refine gx_then_exit ?_
                refine gx_block_pass rfl ?_
                refine gx_then_exit ?_
                refine gx_block_pass rfl ?_
                refine gx_then_exit ?_
                refine gx_block_exit ?_
                refine gx_then ?_
                refine gc_seq ?_
                refine gc_region ?_
                refine gl_op (op_rd rfl (rd_move rfl) ?_)
                refine gl_op (op_rd rfl (rd_move rfl) ?_)
                refine gk_bool (fun hfirst => ?_) (fun hfirst => ?_)
                · skip
                  refine gl_no rfl rfl rfl ?_
                  refine gl_no rfl rfl rfl ?_
                  refine gl_no rfl rfl rfl ?_
                  refine gl_no rfl rfl rfl ?_
                  refine gl_no rfl rfl rfl ?_
                  refine gl_no rfl rfl rfl ?_
                  refine gl_noU rfl rfl rfl ?_
                  refine gl_noU rfl rfl rfl ?_
                  refine gl_noU rfl rfl rfl ?_
                  refine gl_noU rfl rfl rfl ?_
                  refine gl_noU rfl rfl rfl ?_
                  refine gl_noU rfl rfl rfl ?_
                  refine gl_noU rfl rfl rfl ?_
                  refine gl_noU rfl rfl rfl ?_
                  refine gl_noU rfl rfl rfl ?_
                  refine gl_noU rfl rfl rfl ?_
                  refine gl_no rfl rfl rfl ?_
                  refine gl_op (op_rd rfl (rd_pick_t rfl rfl) ?_)
                  refine gl_op (op_rd rfl (rd_assign rfl) ?_)
                  refine gl_nil ?_
                  refine gx_then ?_
                  refine gc_ret ?_
                  refine gx_ret1 (.inl rfl) Try.results74 rfl [] (by decide) ?_
                  refine ⟨congrArg Value.bool ?_, rfl⟩
                  rw [valueG_hold h1 h2 h3 h4 h5 h6]
                  have hf := (bit1 all n0).1 (Int.ofNat.inj (of_decide_eq_true hfirst))
                  simp only [sigA, hn0, Int.toNat_natCast, hf, Bool.true_or]
                · skip
                  refine gl_yes rfl rfl (op_rd rfl (rd_move rfl) ?_)
                  refine gl_yes rfl rfl (op_rd rfl (rd_move rfl) ?_)
                  refine gl_yes rfl rfl (op_rd rfl (rd_shr rfl rfl (by omega)) ?_)
                  have hsrs := Nat.shiftRight_le st k
                  refine gl_yes rfl rfl (op_rd rfl (rd_and (b := 1) rfl rfl (by omega) (by omega)) ?_)
                  refine gl_yes rfl rfl (op_rd rfl (rd_eql rfl rfl) (gk_dec (fun hself => ?_) (fun hself => ?_)))
                  · skip
                    refine gl_yes rfl rfl (op_rd rfl (rd_move rfl) ?_)
                    refine gl_yes rfl rfl (op_rd rfl (rd_move rfl) ?_)
                    refine gl_yes rfl rfl (op_rd rfl (rd_move rfl) ?_)
                    refine gl_yes rfl rfl (op_rd rfl (rd_nilCheck rfl) ?_)
                    refine gl_yes rfl rfl (op_rd rfl (rd_fieldAddr rfl (fa_48_1 _)) ?_)
                    refine gl_yes rfl rfl (op_rd rfl (rd_load Try.underlying23 rfl rfl (ld_slf hc.gates (get_flat Gate.cells 2 (fun _ => rfl) hg (j := 1) (by decide) rfl))) ?_)
                    have h2i : 1 < g.ins.length := by have := sigs_hold hsig h1 h2 h3 h4 h5 h6; omega
                    refine gl_yes rfl rfl (op_rd rfl (rd_indexOld1 hins Try.underlying23 ty_3 rfl rfl (by omega) (by omega)) ?_)
                    refine gl_yes rfl rfl (op_rd rfl (rd_load Try.underlying3 rfl rfl (ld_sl hins (get_ints (k := (1 : Int).toNat) (by have : (1 : Int).toNat = 1 := rfl; omega)))) ?_)
                    obtain ⟨n1, hn1⟩ : ∃ n : Nat, g.ins.getD 1 0 = n := ⟨(g.ins.getD 1 0).toNat, by have := hgi _ (mem_getD (d := 0) (show 1 < g.ins.length by omega)); omega⟩
                    have hn1' : g.ins.getD (1 : Int).toNat 0 = n1 := hn1
                    simp only [hn1']
                    refine gl_yes rfl rfl (op_rd rfl (rd_shr rfl rfl (by omega)) ?_)
                    have hsr1 := Nat.shiftRight_le all n1
                    refine gl_yes rfl rfl (op_rd rfl (rd_and (b := 1) rfl rfl (by omega) (by omega)) ?_)
                    refine gl_yes rfl rfl (op_rd rfl (rd_eql rfl rfl) ?_)
                    refine gl_yes rfl rfl (op_rd rfl (rd_pick_t rfl rfl) ?_)
                    refine gl_op (op_rd rfl (rd_pick_f rfl rfl) ?_)
                    refine gl_op (op_rd rfl (rd_assign rfl) ?_)
                    refine gl_nil ?_
                    refine gx_then ?_
                    refine gc_ret ?_
                    refine gx_ret1 (.inl rfl) Try.results74 rfl [] (by decide) ?_
                    refine ⟨congrArg Value.bool ?_, rfl⟩
                    rw [valueG_hold h1 h2 h3 h4 h5 h6]
                    have hf := bit0 (of_decide_eq_false hfirst)
                    have hb2 := (bit1 st k).1 (Int.ofNat.inj hself)
                    simp only [sigA, hn0, hn1, Int.toNat_natCast, hf, hb2, bitz, Bool.false_or, Bool.true_and]
                  · skip
                    refine gl_yes rfl rfl (op_rd rfl (rd_move rfl) ?_)
                    refine gl_no rfl rfl rfl ?_
                    refine gl_no rfl rfl rfl ?_
                    refine gl_no rfl rfl rfl ?_
                    refine gl_no rfl rfl rfl ?_
                    refine gl_no rfl rfl rfl ?_
                    refine gl_no rfl rfl rfl ?_
                    refine gl_no rfl rfl rfl ?_
                    refine gl_no rfl rfl rfl ?_
                    refine gl_no rfl rfl rfl ?_
                    refine gl_no rfl rfl rfl ?_
                    refine gl_yes rfl rfl (op_rd rfl (rd_pick_f rfl rfl) ?_)
                    refine gl_op (op_rd rfl (rd_pick_f rfl rfl) ?_)
                    refine gl_op (op_rd rfl (rd_assign rfl) ?_)
                    refine gl_nil ?_
                    refine gx_then ?_
                    refine gc_ret ?_
                    refine gx_ret1 (.inl rfl) Try.results74 rfl [] (by decide) ?_
                    refine ⟨congrArg Value.bool ?_, rfl⟩
                    rw [valueG_hold h1 h2 h3 h4 h5 h6]
                    have hf := bit0 (of_decide_eq_false hfirst)
                    have hb2 := bit0 hself
                    simp only [sigA, hn0, Int.toNat_natCast, hf, hb2, Bool.false_or, Bool.false_and]

set_option maxRecDepth 100000 in
set_option maxHeartbeats 1000000 in
theorem next_ok (c : Circ) (pb pc : Addr) (inn : Nat) (st : Nat) (w0 : World) (hbd : BoardIn c pb pc inn w0) (hgd : c.Good) (hst : st < 2 ^ c.gates.length) (hin : inn < 2 ^ c.inputs.toNat) : Sp Try.prog 47 [.pointer (some pb), natV st] w0 [] (RV (natV (nextM c st inn))) := by
  have hst2 := st_lt hgd hst
  have hin2 := in_lt hgd hin
  have hg12 := hgd.g12
  refine spec_enter Try.func47 rfl Try.ntmps47 rfl (Own.refl _) ?_
  simp only [argEnv]
  refine gc_seq ?_
  refine gc_region ?_
  refine gl_op (op_rd rfl (rd_assign rfl) ?_)
  refine gl_nil ?_
  refine gx_then ?_
  refine gc_seq ?_
  refine gc_region ?_
  refine gl_op (op_rd rfl (rd_assign rfl) ?_)
  refine gl_nil ?_
  refine gx_then ?_
  refine gc_seq ?_
  refine gc_seq ?_
  refine gc_region ?_
  refine gl_op (op_rd rfl (rd_move rfl) ?_)
  refine gl_op (op_rd rfl (rd_nilCheck rfl) ?_)
  refine gl_op (op_rd rfl (rd_fieldAddr rfl (fa_97_0 _)) ?_)
  refine gl_op (op_rd rfl (rd_load Try.underlying64 rfl rfl (ld_cells hbd.b (by simp) rfl)) ?_)
  refine gl_op (op_rd rfl (rd_nilCheck rfl) ?_)
  refine gl_op (op_rd rfl (rd_fieldAddr rfl (fa_25_1 _)) ?_)
  refine gl_op (op_rd rfl (rd_load Try.underlying22 rfl rfl (ld_cells hbd.p (by simp) rfl)) ?_)
  refine gl_op (op_rd rfl (rd_lenSlice Try.underlying22 rfl) ?_)
  refine gl_op (op_rd rfl (rd_move rfl) ?_)
  refine gl_nil ?_
  refine gx_then ?_
  refine gc_block ?_
  refine gc_loop (ι := Nat × Nat) (fun j => j.1 ≤ c.gates.length ∧ j.2 = maskTo (restless c st inn) j.1) (fun j => [(0, .pointer (some pb)), (1, natV st), (5, natV j.2), (14, natV c.gates.length), (15, natV j.1)]) (fun j => []) (fun j => c.gates.length - j.1) (0, 0) (⟨Nat.zero_le _, rfl⟩) ⟨rfl, rfl, rfl, rfl, rfl, trivial⟩ ⟨[], by decide, rfl⟩ ?_
  rintro ⟨k, m⟩ ⟨hk, hm⟩
  simp only at hk hm ⊢
  have hml := maskTo_lt (restless c st inn) k
  have hm2 : m < 4096 := by rw [hm]; have := Nat.pow_le_pow_right (n := 2) (by decide) (Nat.le_trans hk hg12); omega
  refine gc_seq ?_
  refine gc_region ?_
  refine gl_op (op_rd rfl (rd_lss rfl rfl) (gk_dec (fun hlt => ?_) (fun hlt => ?_)))
  · skip
    have hkl : k < c.gates.length := by omega
    have hgk : c.gates[k]? = some c.gates[k] := List.getElem?_eq_getElem hkl
    refine gl_nil ?_
    refine gx_then ?_
    refine gc_seq ?_
    refine gc_cond_t rfl ?_
    refine gc_skip ?_
    refine gx_then ?_
    refine gc_seq ?_
    refine gc_block ?_
    refine gc_seq ?_
    refine gc_region ?_
    refine gl_op (op_rd rfl (rd_move rfl) ?_)
    refine gl_op (op_rd rfl (rd_assign rfl) ?_)
    refine gl_nil ?_
    refine gx_then ?_
    refine gc_seq ?_
    refine gc_drawP [] true 9 rfl ?_
    refine ga_first 0 #[true, false, false, false, false, false, false, false, false, false] rfl rfl rfl rfl (by kernel_rfl) rfl ⟨[], by decide, rfl⟩ (qt_rd (rd_move rfl)) ?_
    refine ga_first 1 #[true, true, false, false, false, false, false, false, false, false] rfl rfl rfl rfl (by kernel_rfl) rfl ⟨[], by decide, rfl⟩ (qt_rd (rd_move rfl)) ?_
    refine ga_first 2 #[true, true, true, false, false, false, false, false, false, false] rfl rfl rfl rfl (by kernel_rfl) rfl ⟨[], by decide, rfl⟩ (qt_rd (rd_move rfl)) ?_
    refine ga_first 3 #[true, true, true, true, false, false, false, false, false, false] rfl rfl rfl rfl (by kernel_rfl) rfl ⟨[], by decide, rfl⟩ (qt_call (vf := []) (vc := []) rfl rfl Try.call74 (fun w ho => value_ok c pb pc inn k st _ w (hbd.at ho) hgd hst hin hgk) (by rintro _ _ ⟨h, _⟩; exact h)) ?_
    refine ga_first 4 #[true, true, true, true, true, false, false, false, false, false] rfl rfl rfl rfl (by kernel_rfl) rfl ⟨[], by decide, rfl⟩ (qt_rd (rd_move rfl)) ?_
    refine ga_first 5 #[true, true, true, true, true, true, false, false, false, false] rfl rfl rfl rfl (by kernel_rfl) rfl ⟨[], by decide, rfl⟩ (qt_rd (rd_move rfl)) ?_
    refine ga_first 6 #[true, true, true, true, true, true, true, false, false, false] rfl rfl rfl rfl (by kernel_rfl) rfl ⟨[], by decide, rfl⟩ (qt_rd (rd_shr rfl rfl (by omega))) ?_
    have hsrs := Nat.shiftRight_le st k
    refine ga_first 7 #[true, true, true, true, true, true, true, true, false, false] rfl rfl rfl rfl (by kernel_rfl) rfl ⟨[], by decide, rfl⟩ (qt_rd (rd_and (b := 1) rfl rfl (by omega) (by omega))) ?_
    refine ga_first 8 #[true, true, true, true, true, true, true, true, true, false] rfl rfl rfl rfl (by kernel_rfl) rfl ⟨[], by decide, rfl⟩ (qt_rd (rd_eql rfl rfl)) ?_
    refine ga_first 9 #[true, true, true, true, true, true, true, true, true, true] rfl rfl rfl rfl (by kernel_rfl) rfl ⟨[], by decide, rfl⟩ (qt_rd (rd_neqb Try.runUnderlying4 rfl rfl)) ?_
    refine ga_end (by kernel_rfl) (.inr ⟨[], by decide, rfl⟩) ?_
    refine gx_then ?_
    refine gc_cond rfl (fun hr0 => ?_) (fun hr0 => ?_)
    · skip
      have hr : restless c st inn k = true := by rw [← hr0]; simp only [restless, valueB_eq hgk, dec_bit]
      refine gc_region ?_
      refine gl_op (op_rd rfl (rd_move rfl) ?_)
      refine gl_op (op_rd rfl (rd_move rfl) ?_)
      have hpw : 2 ^ k < 4096 := by have := Nat.pow_lt_pow_right (a := 2) (by decide) (Nat.lt_of_lt_of_le hkl hg12); omega
      refine gl_op (op_rd rfl (rd_shl (a := 1) rfl rfl (by omega) (by omega)) ?_)
      refine gl_op (op_rd rfl (rd_or rfl rfl (by first | omega | (rw [Nat.shiftLeft_eq]; omega)) (by first | omega | (rw [Nat.shiftLeft_eq]; omega))) ?_)
      refine gl_op (op_rd rfl (rd_assign rfl) ?_)
      refine gl_nil ?_
      refine gx_block ?_
      refine gx_then ?_
      refine gc_region ?_
      refine gl_op (op_rd rfl (rd_add rfl rfl (by omega) (by omega)) ?_)
      refine gl_op (op_rd rfl (rd_move rfl) ?_)
      refine gl_nil ?_
      refine gx_then ?_
      exact gx_cut ((k + 1, m ||| 1 <<< k)) ⟨⟨by omega, by simp [maskTo, hr, hm]⟩, by simp only; omega⟩ ⟨rfl, rfl, rfl, rfl, rfl, trivial⟩ ⟨[], by decide, rfl⟩
    · skip
      have hr : restless c st inn k = false := by rw [← hr0]; simp only [restless, valueB_eq hgk, dec_bit]
      refine gc_skip ?_
      refine gx_block ?_
      refine gx_then ?_
      refine gc_region ?_
      refine gl_op (op_rd rfl (rd_add rfl rfl (by omega) (by omega)) ?_)
      refine gl_op (op_rd rfl (rd_move rfl) ?_)
      refine gl_nil ?_
      refine gx_then ?_
      exact gx_cut ((k + 1, m)) ⟨⟨by omega, by simp [maskTo, hr, hm]⟩, by simp only; omega⟩ ⟨rfl, rfl, rfl, rfl, rfl, trivial⟩ ⟨[], by decide, rfl⟩
  · skip
    refine gl_nil ?_
    refine gx_then ?_
    refine gc_seq ?_
    refine gc_cond_f rfl ?_
    refine gc_exit ?_
    refine gx_then_exit ?_
    refine gx_then_exit ?_
    refine gx_block_exit ?_
    refine gx_then ?_
    refine gc_seq ?_
    refine gc_region ?_
    refine gl_op (op_rd rfl (rd_move rfl) ?_)
    refine gl_op (op_rd rfl (rd_assign rfl) ?_)
    refine gl_nil ?_
    refine gx_then ?_
    refine gc_ret ?_
    refine gx_ret1 (.inl rfl) Try.results47 rfl [] (by decide) ?_
    refine ⟨?_, rfl⟩
    have hke : k = c.gates.length := by omega
    subst hke
    rw [hm]; rfl

set_option maxRecDepth 100000 in
set_option maxHeartbeats 1000000 in
theorem outputs_ok (c : Circ) (pb pc : Addr) (inn : Nat) (st : Nat) (w0 : World) (hbd : BoardIn c pb pc inn w0) (hgd : c.Good) (hst : st < 2 ^ c.gates.length) (hin : inn < 2 ^ c.inputs.toNat) : Sp Try.prog 50 [.pointer (some pb), natV st] w0 [] (RV (natV (outB c st inn))) := by
  obtain ⟨ci, hci⟩ : ∃ n : Nat, c.inputs = n := ⟨c.inputs.toNat, by have := hgd.i0; omega⟩
  have hci8 : ci ≤ 8 := by have := hgd.i8; omega
  have hall := all_lt hgd hst hin
  have hst2 := st_lt hgd hst
  have hin2 := in_lt hgd hin
  rw [hci] at hall
  simp only [Int.toNat_natCast] at hall
  obtain ⟨hb, hp, hc⟩ := hbd
  refine spec_enter Try.func50 rfl Try.ntmps50 rfl (Own.refl _) ?_
  simp only [argEnv]
  refine gc_seq ?_
  refine gc_region ?_
  refine gl_op (op_rd rfl (rd_assign rfl) ?_)
  refine gl_nil ?_
  refine gx_then ?_
  refine gc_seq ?_
  refine gc_region ?_
  refine gl_op (op_rd rfl (rd_assign rfl) ?_)
  refine gl_nil ?_
  refine gx_then ?_
  refine gc_seq ?_
  refine gc_seq ?_
  refine gc_region ?_
  refine gl_op (op_rd rfl (rd_move rfl) ?_)
  refine gl_op (op_rd rfl (rd_nilCheck rfl) ?_)
  refine gl_op (op_rd rfl (rd_fieldAddr rfl (fa_97_0 _)) ?_)
  refine gl_op (op_rd rfl (rd_load Try.underlying64 rfl rfl (ld_cells hb (by simp) rfl)) ?_)
  refine gl_op (op_rd rfl (rd_nilCheck rfl) ?_)
  refine gl_op (op_rd rfl (rd_fieldAddr rfl (fa_25_2 _)) ?_)
  refine gl_op (op_rd rfl (rd_load Try.underlying23 rfl rfl (ld_cells hp (by simp) rfl)) ?_)
  refine gl_op (op_rd rfl (rd_lenSlice Try.underlying23 rfl) ?_)
  refine gl_op (op_rd rfl (rd_move rfl) ?_)
  refine gl_nil ?_
  refine gx_then ?_
  refine gc_block ?_
  refine gc_loop (ι := Nat × Nat) (fun j => j.1 ≤ c.outs.length ∧ j.2 < 2 ^ j.1 ∧ outTo (st <<< ci ||| inn) (c.outs.drop j.1) j.1 j.2 = outTo (st <<< ci ||| inn) c.outs 0 0) (fun j => [(0, .pointer (some pb)), (1, natV st), (5, natV j.2), (14, .slice c.oa c.outs.length c.oc), (15, natV c.outs.length), (16, natV j.1)]) (fun j => []) (fun j => c.outs.length - j.1) (0, 0) (⟨Nat.zero_le _, by decide, rfl⟩) ⟨rfl, rfl, rfl, rfl, rfl, rfl, trivial⟩ ⟨[], by decide, rfl⟩ ?_
  rintro ⟨k, m⟩ ⟨hk, hm, hout⟩
  simp only at hk hm hout ⊢
  have ho16 := hgd.o16
  have hm2 : m < 65536 := by have := Nat.pow_le_pow_right (n := 2) (by decide) (Nat.le_trans hk ho16); omega
  refine gc_seq ?_
  refine gc_region ?_
  refine gl_op (op_rd rfl (rd_lss rfl rfl) (gk_dec (fun hlt => ?_) (fun hlt => ?_)))
  · skip
    have hrng := hgd.outs _ (mem_getD (d := 0) (show k < c.outs.length by omega))
    obtain ⟨s, hs⟩ : ∃ n : Nat, c.outs.getD k 0 = n := ⟨(c.outs.getD k 0).toNat, by omega⟩
    have hs' : c.outs.getD ((k : Nat) : Int).toNat 0 = s := hs
    have hal := and1 (st <<< ci ||| inn) s
    have hb1 : ((st <<< ci ||| inn) >>> s &&& 1) <<< k < 2 ^ (k + 1) := by
      rw [hal, Nat.shiftLeft_eq]; have := Nat.pow_lt_pow_right (a := 2) (by decide) (Nat.lt_succ_self k); split <;> omega
    have hpw : 2 ^ (k + 1) ≤ 65536 := by have := Nat.pow_le_pow_right (n := 2) (by decide) (show k + 1 ≤ 16 by omega); omega
    have hsr := Nat.shiftRight_le (st <<< ci ||| inn) s
    have hsl := shl_lt hst2 hci8
    refine gl_nil ?_
    refine gx_then ?_
    refine gc_seq ?_
    refine gc_cond_t rfl ?_
    refine gc_skip ?_
    refine gx_then ?_
    refine gc_seq ?_
    refine gc_block ?_
    refine gc_seq ?_
    refine gc_region ?_
    refine gl_op (op_rd rfl (rd_move rfl) ?_)
    refine gl_op (op_rd rfl (rd_indexOld1 hc.outs Try.underlying23 ty_3 rfl rfl (by omega) (by omega)) ?_)
    refine gl_op (op_rd rfl (rd_load Try.underlying3 rfl rfl (ld_sl hc.outs (get_ints (by omega)))) ?_)
    refine gl_op (op_rd rfl (rd_assign rfl) ?_)
    refine gl_op (op_rd rfl (rd_assign rfl) ?_)
    refine gl_nil ?_
    refine gx_then ?_
    simp only [hs', hci]
    refine gc_drawP [] true 21 rfl ?_
    refine ga_first 0 #[true, false, false, false, false, false, false, false, false, false, false, false, false, false, false, false, false, false, false, false, false, false] rfl rfl rfl rfl (by kernel_rfl) rfl ⟨[], by decide, rfl⟩ (qt_rd (rd_move rfl)) ?_
    refine ga_first 1 #[true, true, false, false, false, false, false, false, false, false, false, false, false, false, false, false, false, false, false, false, false, false] rfl rfl rfl rfl (by kernel_rfl) rfl ⟨[], by decide, rfl⟩ (qt_rd (rd_move rfl)) ?_
    refine ga_first 2 #[true, true, true, false, false, false, false, false, false, false, false, false, false, false, false, false, false, false, false, false, false, false] rfl rfl rfl rfl (by kernel_rfl) rfl ⟨[], by decide, rfl⟩ (qt_rd (rd_move rfl)) ?_
    refine ga_first 3 #[true, true, true, true, false, false, false, false, false, false, false, false, false, false, false, false, false, false, false, false, false, false] rfl rfl rfl rfl (by kernel_rfl) rfl ⟨[], by decide, rfl⟩ (qt_rd (rd_nilCheck rfl)) ?_
    refine ga_first 4 #[true, true, true, true, true, false, false, false, false, false, false, false, false, false, false, false, false, false, false, false, false, false] rfl rfl rfl rfl (by kernel_rfl) rfl ⟨[], by decide, rfl⟩ (qt_rd (rd_fieldAddr rfl (fa_97_0 _))) ?_
    refine ga_first 5 #[true, true, true, true, true, true, false, false, false, false, false, false, false, false, false, false, false, false, false, false, false, false] rfl rfl rfl rfl (by kernel_rfl) rfl ⟨[], by decide, rfl⟩ (qt_rd (rd_load Try.underlying64 rfl rfl (ld_cells hb (by simp) rfl))) ?_
    refine ga_first 6 #[true, true, true, true, true, true, true, false, false, false, false, false, false, false, false, false, false, false, false, false, false, false] rfl rfl rfl rfl (by kernel_rfl) rfl ⟨[], by decide, rfl⟩ (qt_rd (rd_nilCheck rfl)) ?_
    refine ga_first 7 #[true, true, true, true, true, true, true, true, false, false, false, false, false, false, false, false, false, false, false, false, false, false] rfl rfl rfl rfl (by kernel_rfl) rfl ⟨[], by decide, rfl⟩ (qt_rd (rd_fieldAddr rfl (fa_25_0 _))) ?_
    refine ga_first 8 #[true, true, true, true, true, true, true, true, true, false, false, false, false, false, false, false, false, false, false, false, false, false] rfl rfl rfl rfl (by kernel_rfl) rfl ⟨[], by decide, rfl⟩ (qt_rd (rd_load Try.underlying3 rfl rfl (ld_cells hp (by simp) rfl))) ?_
    simp only [hci]
    refine ga_first 9 #[true, true, true, true, true, true, true, true, true, true, false, false, false, false, false, false, false, false, false, false, false, false] rfl rfl rfl rfl (by kernel_rfl) rfl ⟨[], by decide, rfl⟩ (qt_rd (rd_shl rfl rfl (by omega) (by omega))) ?_
    refine ga_first 10 #[true, true, true, true, true, true, true, true, true, true, true, false, false, false, false, false, false, false, false, false, false, false] rfl rfl rfl rfl (by kernel_rfl) rfl ⟨[], by decide, rfl⟩ (qt_rd (rd_move rfl)) ?_
    refine ga_first 11 #[true, true, true, true, true, true, true, true, true, true, true, true, false, false, false, false, false, false, false, false, false, false] rfl rfl rfl rfl (by kernel_rfl) rfl ⟨[], by decide, rfl⟩ (qt_rd (rd_nilCheck rfl)) ?_
    refine ga_first 12 #[true, true, true, true, true, true, true, true, true, true, true, true, true, false, false, false, false, false, false, false, false, false] rfl rfl rfl rfl (by kernel_rfl) rfl ⟨[], by decide, rfl⟩ (qt_rd (rd_fieldAddr rfl (fa_97_1 _))) ?_
    refine ga_first 13 #[true, true, true, true, true, true, true, true, true, true, true, true, true, true, false, false, false, false, false, false, false, false] rfl rfl rfl rfl (by kernel_rfl) rfl ⟨[], by decide, rfl⟩ (qt_rd (rd_load Try.underlying3 rfl rfl (ld_cells hb (by simp) rfl))) ?_
    refine ga_first 14 #[true, true, true, true, true, true, true, true, true, true, true, true, true, true, true, false, false, false, false, false, false, false] rfl rfl rfl rfl (by kernel_rfl) rfl ⟨[], by decide, rfl⟩ (qt_rd (rd_or rfl rfl (by first | omega | (rw [Nat.shiftLeft_eq]; omega)) (by first | omega | (rw [Nat.shiftLeft_eq]; omega)))) ?_
    refine ga_first 15 #[true, true, true, true, true, true, true, true, true, true, true, true, true, true, true, true, false, false, false, false, false, false] rfl rfl rfl rfl (by kernel_rfl) rfl ⟨[], by decide, rfl⟩ (qt_rd (rd_move rfl)) ?_
    refine ga_first 16 #[true, true, true, true, true, true, true, true, true, true, true, true, true, true, true, true, true, false, false, false, false, false] rfl rfl rfl rfl (by kernel_rfl) rfl ⟨[], by decide, rfl⟩ (qt_rd (rd_shr rfl rfl (by omega))) ?_
    refine ga_first 17 #[true, true, true, true, true, true, true, true, true, true, true, true, true, true, true, true, true, true, false, false, false, false] rfl rfl rfl rfl (by kernel_rfl) rfl ⟨[], by decide, rfl⟩ (qt_rd (rd_and (b := 1) rfl rfl (by omega) (by omega))) ?_
    refine ga_first 18 #[true, true, true, true, true, true, true, true, true, true, true, true, true, true, true, true, true, true, true, false, false, false] rfl rfl rfl rfl (by kernel_rfl) rfl ⟨[], by decide, rfl⟩ (qt_rd (rd_move rfl)) ?_
    refine ga_first 19 #[true, true, true, true, true, true, true, true, true, true, true, true, true, true, true, true, true, true, true, true, false, false] rfl rfl rfl rfl (by kernel_rfl) rfl ⟨[], by decide, rfl⟩ (qt_rd (rd_shl rfl rfl (by first | omega | (rw [← Nat.shiftLeft_eq]; omega)) (by first | omega | (rw [← Nat.shiftLeft_eq]; omega)))) ?_
    refine ga_first 20 #[true, true, true, true, true, true, true, true, true, true, true, true, true, true, true, true, true, true, true, true, true, false] rfl rfl rfl rfl (by kernel_rfl) rfl ⟨[], by decide, rfl⟩ (qt_rd (rd_or rfl rfl (by omega) (by omega))) ?_
    refine ga_first 21 #[true, true, true, true, true, true, true, true, true, true, true, true, true, true, true, true, true, true, true, true, true, true] rfl rfl rfl rfl (by kernel_rfl) rfl ⟨[], by decide, rfl⟩ (qt_rd (rd_assign rfl)) ?_
    refine ga_end (by kernel_rfl) (.inr ⟨[], by decide, rfl⟩) ?_
    refine gx_block ?_
    refine gx_then ?_
    refine gc_region ?_
    refine gl_op (op_rd rfl (rd_add rfl rfl (by omega) (by omega)) ?_)
    refine gl_op (op_rd rfl (rd_move rfl) ?_)
    refine gl_nil ?_
    refine gx_then ?_
    exact gx_cut ((k + 1, m ||| ((st <<< ci ||| inn) >>> s &&& 1) <<< k)) ⟨⟨by omega, Nat.or_lt_two_pow (Nat.lt_of_lt_of_le hm (Nat.pow_le_pow_right (by decide) (by omega))) hb1, by rw [← hout, List.drop_eq_getElem_cons (by omega : k < c.outs.length), outTo]; rw [show c.outs[k] = (s : Int) from by rw [← hs]; simp [List.getD, (by omega : k < c.outs.length)]]; rfl⟩, by simp only; omega⟩ ⟨rfl, rfl, rfl, rfl, rfl, rfl, trivial⟩ ⟨[], by decide, rfl⟩
  · skip
    refine gl_nil ?_
    refine gx_then ?_
    refine gc_seq ?_
    refine gc_cond_f rfl ?_
    refine gc_exit ?_
    refine gx_then_exit ?_
    refine gx_then_exit ?_
    refine gx_block_exit ?_
    refine gx_then ?_
    refine gc_seq ?_
    refine gc_region ?_
    refine gl_op (op_rd rfl (rd_move rfl) ?_)
    refine gl_op (op_rd rfl (rd_assign rfl) ?_)
    refine gl_nil ?_
    refine gx_then ?_
    refine gc_ret ?_
    refine gx_ret1 (.inl rfl) Try.results50 rfl [] (by decide) ?_
    refine ⟨?_, rfl⟩
    have hke : k = c.outs.length := by omega
    subst hke
    rw [List.drop_length] at hout
    simp only [outTo] at hout
    rw [hout, outB, hci]; rfl

set_option maxRecDepth 100000 in
set_option maxHeartbeats 1000000 in
theorem Next_ok (c : Circ) (st inn : Int) (w0 : World) (hc : c.In w0 []) (hst : st ≤ 9223372036854775807) (hin : inn ≤ 9223372036854775807) : Sp Try.prog 19 [c.val, .int .i64 st, .int .i64 inn] w0 [] (fun v l => (c.ready st inn = 0 ∧ ∃ r cp, v = .tuple #[.slice (rowA r) (nextL c st.toNat inn.toNat).length cp, .int .i64 0] ∧ l = [.row 3 1 r (nextL c st.toNat inn.toNat).length cp ((nextL c st.toNat inn.toNat).map natV)]) ∨ (c.ready st inn ≠ 0 ∧ v = .tuple #[.slice none 0 0, .int .i64 (c.ready st inn)] ∧ l = [])) := by
  refine spec_enter Try.func19 rfl Try.ntmps19 rfl (Own.refl _) ?_
  simp only [argEnv]
  refine gc_seq ?_
  refine gc_region ?_
  refine gl_op (op_box rfl rfl rfl (fun b3 => ?_))
  refine gl_op (op_rd rfl (rd_assign rfl) ?_)
  refine gl_op (op_rd rfl (rd_assign rfl) ?_)
  refine gl_nil ?_
  refine gx_then ?_
  refine gc_seq ?_
  refine gc_region ?_
  refine gl_op (op_rd rfl (rd_move rfl) ?_)
  refine gl_op (op_rd rfl (rd_move rfl) ?_)
  refine gl_op (op_call rfl (vf := []) (vc := []) rfl rfl Try.call45 (fun w ho => lay_ok c ⟨b3, 0, none⟩ st inn w (hc.at ho) (Own.blkCells ho 0 rfl) hst hin) ?_)
  rintro _ _ (⟨hr, b, rfl, rfl⟩ | ⟨hr, rfl, rfl⟩)
  · skip
    obtain ⟨hck, h1, h2, h3, h4⟩ := Circ.of_ready hr
    have hgd := Circ.good hck
    obtain ⟨sn, rfl⟩ : ∃ n : Nat, st = n := ⟨st.toNat, by omega⟩
    obtain ⟨im, rfl⟩ : ∃ n : Nat, inn = n := ⟨inn.toNat, by omega⟩
    simp only [Int.toNat_natCast] at h2 h4
    refine gl_op (op_rd rfl (rd_move rfl) ?_)
    refine gl_op (op_rd rfl (rd_extract rfl rfl) ?_)
    refine gl_op (op_rd rfl (rd_extract rfl rfl) ?_)
    refine gl_op (op_rd rfl (rd_assign rfl) ?_)
    refine gl_op (op_rd rfl (rd_assign rfl) ?_)
    refine gl_nil ?_
    refine gx_then ?_
    refine gc_seq ?_
    refine gc_seq ?_
    refine gc_region ?_
    refine gl_op (op_rd rfl (rd_move rfl) ?_)
    refine gl_op (op_rd rfl (rd_neq rfl rfl) (gk_dec (fun he => ?_) (fun he => ?_)))
    · skip
      exfalso; omega
    · skip
      refine gl_nil ?_
      refine gx_then ?_
      refine gc_cond_f rfl ?_
      refine gc_skip ?_
      refine gx_then ?_
      refine gc_seq ?_
      refine gc_region ?_
      refine gl_op (op_rd rfl (rd_move rfl) ?_)
      refine gl_op (op_rd rfl (rd_move rfl) ?_)
      refine gl_op (op_call rfl (vf := []) (vc := []) rfl rfl Try.call47 (fun w ho => next_ok c ⟨b, 0, none⟩ ⟨b3, 0, none⟩ im sn w ⟨Own.blkCells ho 0 rfl, Own.blkCells ho 1 rfl, hc.at ho⟩ hgd h2 h4) ?_)
      rintro _ _ ⟨rfl, rfl⟩
      refine gl_op (op_call rfl (vf := []) (vc := []) rfl rfl Try.call46 (fun w ho => bits_ok (nextM c sn im) (by have := maskTo_lt (restless c sn im) c.gates.length; have := Nat.pow_le_pow_right (n := 2) (by decide) hgd.g12; unfold nextM; omega) w) ?_)
      rintro _ _ ⟨r, cp, rfl, rfl⟩
      refine gl_op (op_rd rfl (rd_assign rfl) ?_)
      refine gl_op (op_rd rfl (rd_assign rfl) ?_)
      refine gl_nil ?_
      refine gx_then ?_
      refine gc_ret ?_
      refine gx_ret2 (.inl rfl) Try.results19 rfl rfl [0] (by decide) ?_
      exact .inl ⟨hr, r, cp, by rw [upTo_next c hgd]; rfl, by rw [upTo_next c hgd]; rfl⟩
  · skip
    refine gl_op (op_rd rfl (rd_move rfl) ?_)
    refine gl_op (op_rd rfl (rd_extract rfl rfl) ?_)
    refine gl_op (op_rd rfl (rd_extract rfl rfl) ?_)
    refine gl_op (op_rd rfl (rd_assign rfl) ?_)
    refine gl_op (op_rd rfl (rd_assign rfl) ?_)
    refine gl_nil ?_
    refine gx_then ?_
    refine gc_seq ?_
    refine gc_seq ?_
    refine gc_region ?_
    refine gl_op (op_rd rfl (rd_move rfl) ?_)
    refine gl_op (op_rd rfl (rd_neq rfl rfl) (gk_dec (fun he => ?_) (fun he => ?_)))
    · skip
      refine gl_nil ?_
      refine gx_then ?_
      refine gc_cond_t rfl ?_
      refine gc_seq ?_
      refine gc_region ?_
      refine gl_op (op_rd rfl (rd_move rfl) ?_)
      refine gl_op (op_rd rfl (rd_assign rfl) ?_)
      refine gl_op (op_rd rfl (rd_assign rfl) ?_)
      refine gl_nil ?_
      refine gx_then ?_
      refine gc_ret ?_
      refine gx_then_ret ?_
      refine gx_ret2 (.inl rfl) Try.results19 rfl rfl [] (by decide) ?_
      exact .inr ⟨hr, rfl, rfl⟩
    · skip
      exfalso; omega

set_option maxRecDepth 100000 in
set_option maxHeartbeats 1000000 in
theorem Outputs_ok (c : Circ) (st inn : Int) (w0 : World) (hc : c.In w0 []) (hst : st ≤ 9223372036854775807) (hin : inn ≤ 9223372036854775807) : Sp Try.prog 21 [c.val, .int .i64 st, .int .i64 inn] w0 [] (RV (.tuple #[natV (if c.ready st inn = 0 then outB c st.toNat inn.toNat else 0), .int .i64 (c.ready st inn)])) := by
  refine spec_enter Try.func21 rfl Try.ntmps21 rfl (Own.refl _) ?_
  simp only [argEnv]
  refine gc_seq ?_
  refine gc_region ?_
  refine gl_op (op_box rfl rfl rfl (fun b3 => ?_))
  refine gl_op (op_rd rfl (rd_assign rfl) ?_)
  refine gl_op (op_rd rfl (rd_assign rfl) ?_)
  refine gl_nil ?_
  refine gx_then ?_
  refine gc_seq ?_
  refine gc_region ?_
  refine gl_op (op_rd rfl (rd_move rfl) ?_)
  refine gl_op (op_rd rfl (rd_move rfl) ?_)
  refine gl_op (op_call rfl (vf := []) (vc := []) rfl rfl Try.call45 (fun w ho => lay_ok c ⟨b3, 0, none⟩ st inn w (hc.at ho) (Own.blkCells ho 0 rfl) hst hin) ?_)
  rintro _ _ (⟨hr, b, rfl, rfl⟩ | ⟨hr, rfl, rfl⟩)
  · skip
    obtain ⟨hck, h1, h2, h3, h4⟩ := Circ.of_ready hr
    have hgd := Circ.good hck
    obtain ⟨sn, rfl⟩ : ∃ n : Nat, st = n := ⟨st.toNat, by omega⟩
    obtain ⟨im, rfl⟩ : ∃ n : Nat, inn = n := ⟨inn.toNat, by omega⟩
    simp only [Int.toNat_natCast] at h2 h4
    refine gl_op (op_rd rfl (rd_move rfl) ?_)
    refine gl_op (op_rd rfl (rd_extract rfl rfl) ?_)
    refine gl_op (op_rd rfl (rd_extract rfl rfl) ?_)
    refine gl_op (op_rd rfl (rd_assign rfl) ?_)
    refine gl_op (op_rd rfl (rd_assign rfl) ?_)
    refine gl_nil ?_
    refine gx_then ?_
    refine gc_seq ?_
    refine gc_seq ?_
    refine gc_region ?_
    refine gl_op (op_rd rfl (rd_move rfl) ?_)
    refine gl_op (op_rd rfl (rd_neq rfl rfl) (gk_dec (fun he => ?_) (fun he => ?_)))
    · skip
      exfalso; omega
    · skip
      refine gl_nil ?_
      refine gx_then ?_
      refine gc_cond_f rfl ?_
      refine gc_skip ?_
      refine gx_then ?_
      refine gc_seq ?_
      refine gc_region ?_
      refine gl_op (op_rd rfl (rd_move rfl) ?_)
      refine gl_op (op_rd rfl (rd_move rfl) ?_)
      refine gl_op (op_call rfl (vf := []) (vc := []) rfl rfl Try.call50 (fun w ho => outputs_ok c ⟨b, 0, none⟩ ⟨b3, 0, none⟩ im sn w ⟨Own.blkCells ho 0 rfl, Own.blkCells ho 1 rfl, hc.at ho⟩ hgd h2 h4) ?_)
      rintro _ _ ⟨rfl, rfl⟩
      refine gl_op (op_rd rfl (rd_assign rfl) ?_)
      refine gl_op (op_rd rfl (rd_assign rfl) ?_)
      refine gl_nil ?_
      refine gx_then ?_
      refine gc_ret ?_
      refine gx_ret2 (.inl rfl) Try.results21 rfl rfl [] (by decide) ?_
      exact ⟨by rw [if_pos hr, hr]; rfl, rfl⟩
  · skip
    refine gl_op (op_rd rfl (rd_move rfl) ?_)
    refine gl_op (op_rd rfl (rd_extract rfl rfl) ?_)
    refine gl_op (op_rd rfl (rd_extract rfl rfl) ?_)
    refine gl_op (op_rd rfl (rd_assign rfl) ?_)
    refine gl_op (op_rd rfl (rd_assign rfl) ?_)
    refine gl_nil ?_
    refine gx_then ?_
    refine gc_seq ?_
    refine gc_seq ?_
    refine gc_region ?_
    refine gl_op (op_rd rfl (rd_move rfl) ?_)
    refine gl_op (op_rd rfl (rd_neq rfl rfl) (gk_dec (fun he => ?_) (fun he => ?_)))
    · skip
      refine gl_nil ?_
      refine gx_then ?_
      refine gc_cond_t rfl ?_
      refine gc_seq ?_
      refine gc_region ?_
      refine gl_op (op_rd rfl (rd_move rfl) ?_)
      refine gl_op (op_rd rfl (rd_assign rfl) ?_)
      refine gl_op (op_rd rfl (rd_assign rfl) ?_)
      refine gl_nil ?_
      refine gx_then ?_
      refine gc_ret ?_
      refine gx_then_ret ?_
      refine gx_ret2 (.inl rfl) Try.results21 rfl rfl [] (by decide) ?_
      exact ⟨by rw [if_neg hr]; rfl, rfl⟩
    · skip
      exfalso; omega

end Go.Proofs.Yteocjpnckciboaa

set_option autoImplicit false
set_option linter.unusedVariables false
namespace Go.Proofs.Yteocjpnckciboaa
open Go.Gv
open Go.RowKit
open Ry
set_option maxRecDepth 100000 in
set_option maxHeartbeats 1000000 in
theorem fits_ok (g : Gate) (w0 : World) (hb : g.ins.length ≤ 140737488355328) : Sp Try.prog 59 [g.val] w0 [] (RV (.bool (sigs g.kind g.ins.length))) := by
  refine spec_enter Try.func59 rfl Try.ntmps59 rfl (Own.refl _) ?_
  simp only [argEnv]
  refine gc_seq ?_
  refine gc_region ?_
  refine gl_op (op_box rfl rfl rfl (fun b1 => ?_))
  refine gl_op (op_rd rfl (rd_assign rfl) ?_)
  refine gl_nil ?_
  refine gx_then ?_
  refine gc_seq ?_
  refine gc_region ?_
  refine gl_op (op_rd rfl (rd_fieldAddr rfl (fa_48_1 _)) ?_)
  refine gl_op (op_rd rfl (rd_load Try.underlying23 rfl rfl (by first | exact ld_blk 0 rfl rfl | exact ld_old (by assumption) (by simp))) ?_)
  refine gl_op (op_rd rfl (rd_lenSlice Try.underlying23 rfl) ?_)
  refine gl_op (op_rd rfl (rd_assign rfl) ?_)
  refine gl_nil ?_
  refine gx_then ?_
  refine gc_seq ?_
  refine gc_seq ?_
  refine gc_region ?_
  refine gl_op (op_rd rfl (rd_fieldAddr rfl (fa_48_0 _)) ?_)
  refine gl_op (op_rd rfl (rd_load Try.underlying3 rfl rfl (by first | exact ld_blk 0 rfl rfl | exact ld_old (by assumption) (by simp))) ?_)
  refine gl_nil ?_
  refine gx_then ?_
  refine gc_block ?_
  refine gc_seq ?_
  refine gc_seq ?_
  refine gc_region ?_
  refine gl_op (op_rd rfl (rd_eql rfl rfl) (gk_dec (fun h1 => ?_) (fun h1 => ?_)))
  · skip
    refine gl_op (op_rd rfl (rd_assign rfl) ?_)
    refine gl_nil ?_
    refine gx_then ?_
    refine gc_cond_t rfl ?_
    refine gc_skip ?_
    refine gx_then ?_
    refine gc_cond_t rfl ?_
    refine gc_seq ?_
    refine gc_region ?_
    refine gl_op (op_rd rfl (rd_move rfl) ?_)
    refine gl_op (op_rd rfl (rd_geq rfl rfl) ?_)
    refine gl_op (op_rd rfl (rd_assign rfl) ?_)
    refine gl_nil ?_
    refine gx_then ?_
    refine gc_ret ?_
    refine gx_block_ret ?_
    refine gx_then_ret ?_
    refine gx_ret1 (.inl rfl) Try.results59 rfl [] (by decide) ?_
    refine ⟨?_, rfl⟩
    simp [sigs, *] <;> omega
  · skip
    refine gl_op (op_rd rfl (rd_assign rfl) ?_)
    refine gl_nil ?_
    refine gx_then ?_
    refine gc_cond_f rfl ?_
    refine gc_seq ?_
    refine gc_region ?_
    refine gl_op (op_rd rfl (rd_eql rfl rfl) (gk_dec (fun h2 => ?_) (fun h2 => ?_)))
    · skip
      refine gl_op (op_rd rfl (rd_assign rfl) ?_)
      refine gl_nil ?_
      refine gx_then ?_
      refine gc_cond_t rfl ?_
      refine gc_skip ?_
      refine gx_then ?_
      refine gc_cond_t rfl ?_
      refine gc_seq ?_
      refine gc_region ?_
      refine gl_op (op_rd rfl (rd_move rfl) ?_)
      refine gl_op (op_rd rfl (rd_geq rfl rfl) ?_)
      refine gl_op (op_rd rfl (rd_assign rfl) ?_)
      refine gl_nil ?_
      refine gx_then ?_
      refine gc_ret ?_
      refine gx_block_ret ?_
      refine gx_then_ret ?_
      refine gx_ret1 (.inl rfl) Try.results59 rfl [] (by decide) ?_
      refine ⟨?_, rfl⟩
      simp [sigs, *] <;> omega
    · skip
      refine gl_op (op_rd rfl (rd_assign rfl) ?_)
      refine gl_nil ?_
      refine gx_then ?_
      refine gc_cond_f rfl ?_
      refine gc_seq ?_
      refine gc_region ?_
      refine gl_op (op_rd rfl (rd_eql rfl rfl) (gk_dec (fun h4 => ?_) (fun h4 => ?_)))
      · skip
        refine gl_op (op_rd rfl (rd_assign rfl) ?_)
        refine gl_nil ?_
        refine gx_then ?_
        refine gc_cond_t rfl ?_
        refine gc_skip ?_
        refine gx_then ?_
        refine gc_cond_t rfl ?_
        refine gc_seq ?_
        refine gc_region ?_
        refine gl_op (op_rd rfl (rd_move rfl) ?_)
        refine gl_op (op_rd rfl (rd_geq rfl rfl) ?_)
        refine gl_op (op_rd rfl (rd_assign rfl) ?_)
        refine gl_nil ?_
        refine gx_then ?_
        refine gc_ret ?_
        refine gx_block_ret ?_
        refine gx_then_ret ?_
        refine gx_ret1 (.inl rfl) Try.results59 rfl [] (by decide) ?_
        refine ⟨?_, rfl⟩
        simp [sigs, *] <;> omega
      · skip
        refine gl_op (op_rd rfl (rd_assign rfl) ?_)
        refine gl_nil ?_
        refine gx_then ?_
        refine gc_cond_f rfl ?_
        refine gc_region ?_
        refine gl_op (op_rd rfl (rd_eql rfl rfl) (gk_dec (fun h5 => ?_) (fun h5 => ?_)))
        · skip
          refine gl_op (op_rd rfl (rd_assign rfl) ?_)
          refine gl_nil ?_
          refine gx_then ?_
          refine gc_cond_t rfl ?_
          refine gc_seq ?_
          refine gc_region ?_
          refine gl_op (op_rd rfl (rd_move rfl) ?_)
          refine gl_op (op_rd rfl (rd_geq rfl rfl) ?_)
          refine gl_op (op_rd rfl (rd_assign rfl) ?_)
          refine gl_nil ?_
          refine gx_then ?_
          refine gc_ret ?_
          refine gx_block_ret ?_
          refine gx_then_ret ?_
          refine gx_ret1 (.inl rfl) Try.results59 rfl [] (by decide) ?_
          refine ⟨?_, rfl⟩
          simp [sigs, *] <;> omega
        · skip
          refine gl_op (op_rd rfl (rd_assign rfl) ?_)
          refine gl_nil ?_
          refine gx_then ?_
          refine gc_cond_f rfl ?_
          refine gc_seq ?_
          refine gc_region ?_
          refine gl_op (op_rd rfl (rd_eql rfl rfl) (gk_dec (fun h3 => ?_) (fun h3 => ?_)))
          · skip
            refine gl_op (op_rd rfl (rd_assign rfl) ?_)
            refine gl_nil ?_
            refine gx_then ?_
            refine gc_cond_t rfl ?_
            refine gc_seq ?_
            refine gc_region ?_
            refine gl_op (op_rd rfl (rd_move rfl) ?_)
            refine gl_op (op_rd rfl (rd_eql rfl rfl) ?_)
            refine gl_op (op_rd rfl (rd_assign rfl) ?_)
            refine gl_nil ?_
            refine gx_then ?_
            refine gc_ret ?_
            refine gx_block_ret ?_
            refine gx_then_ret ?_
            refine gx_ret1 (.inl rfl) Try.results59 rfl [] (by decide) ?_
            refine ⟨?_, rfl⟩
            simp [sigs, *] <;> omega
          · skip
            refine gl_op (op_rd rfl (rd_assign rfl) ?_)
            refine gl_nil ?_
            refine gx_then ?_
            refine gc_cond_f rfl ?_
            refine gc_seq ?_
            refine gc_seq ?_
            refine gc_region ?_
            refine gl_op (op_rd rfl (rd_eql rfl rfl) (gk_dec (fun h6 => ?_) (fun h6 => ?_)))
            · skip
              refine gl_op (op_rd rfl (rd_assign rfl) ?_)
              refine gl_nil ?_
              refine gx_then ?_
              refine gc_cond_t rfl ?_
              refine gc_skip ?_
              refine gx_then ?_
              refine gc_cond_t rfl ?_
              refine gc_seq ?_
              refine gc_region ?_
              refine gl_op (op_rd rfl (rd_move rfl) ?_)
              refine gl_op (op_rd rfl (rd_eql rfl rfl) ?_)
              refine gl_op (op_rd rfl (rd_assign rfl) ?_)
              refine gl_nil ?_
              refine gx_then ?_
              refine gc_ret ?_
              refine gx_block_ret ?_
              refine gx_then_ret ?_
              refine gx_ret1 (.inl rfl) Try.results59 rfl [] (by decide) ?_
              refine ⟨?_, rfl⟩
              simp [sigs, *] <;> omega
            · skip
              refine gl_op (op_rd rfl (rd_assign rfl) ?_)
              refine gl_nil ?_
              refine gx_then ?_
              refine gc_cond_f rfl ?_
              refine gc_region ?_
              refine gl_op (op_rd rfl (rd_eql rfl rfl) (gk_dec (fun h7 => ?_) (fun h7 => ?_)))
              · skip
                refine gl_op (op_rd rfl (rd_assign rfl) ?_)
                refine gl_nil ?_
                refine gx_then ?_
                refine gc_cond_t rfl ?_
                refine gc_seq ?_
                refine gc_region ?_
                refine gl_op (op_rd rfl (rd_move rfl) ?_)
                refine gl_op (op_rd rfl (rd_eql rfl rfl) ?_)
                refine gl_op (op_rd rfl (rd_assign rfl) ?_)
                refine gl_nil ?_
                refine gx_then ?_
                refine gc_ret ?_
                refine gx_block_ret ?_
                refine gx_then_ret ?_
                refine gx_ret1 (.inl rfl) Try.results59 rfl [] (by decide) ?_
                refine ⟨?_, rfl⟩
                simp [sigs, *] <;> omega
              · skip
                refine gl_op (op_rd rfl (rd_assign rfl) ?_)
                refine gl_nil ?_
                refine gx_then ?_
                refine gc_cond_f rfl ?_
                refine gc_skip ?_
                refine gx_block ?_
                refine gx_then ?_
                refine gc_seq ?_
                refine gc_region ?_
                refine gl_op (op_rd rfl (rd_assign rfl) ?_)
                refine gl_nil ?_
                refine gx_then ?_
                refine gc_ret ?_
                refine gx_ret1 (.inl rfl) Try.results59 rfl [] (by decide) ?_
                refine ⟨?_, rfl⟩
                simp [sigs, *] <;> omega

set_option maxRecDepth 100000 in
set_option maxHeartbeats 1000000 in
theorem rcheck_ok (c : Circ) (w0 : World) (hc : c.In w0 []) : Sp Try.prog 24 [c.val] w0 [] (RV (.int .i64 c.check)) := by
  refine spec_enter Try.func24 rfl Try.ntmps24 rfl (Own.refl _) ?_
  simp only [argEnv]
  refine gc_seq ?_
  refine gc_region ?_
  refine gl_op (op_box rfl rfl rfl (fun b1 => ?_))
  refine gl_op (op_rd rfl (rd_assign rfl) ?_)
  refine gl_nil ?_
  refine gx_then ?_
  refine gc_seq ?_
  refine gc_seq ?_
  refine gc_region ?_
  refine gl_op (op_rd rfl (rd_fieldAddr rfl (fa_25_0 _)) ?_)
  refine gl_op (op_rd rfl (rd_load Try.underlying3 rfl rfl (by first | exact ld_blk 0 rfl rfl | exact ld_old (by assumption) (by simp))) ?_)
  refine gl_op (op_rd rfl (rd_gtr rfl rfl) (gk_dec (fun a1 => ?_) (fun a1 => ?_)))
  · skip
    refine gl_op (op_rd rfl (rd_move rfl) ?_)
    refine gl_no rfl rfl rfl ?_
    refine gl_no rfl rfl rfl ?_
    refine gl_no rfl rfl rfl ?_
    refine gl_no rfl rfl rfl ?_
    refine gl_op (op_rd rfl (rd_pick_t rfl rfl) ?_)
    refine gl_op (op_rd rfl (rd_move rfl) ?_)
    refine gl_no rfl rfl rfl ?_
    refine gl_no rfl rfl rfl ?_
    refine gl_no rfl rfl rfl ?_
    refine gl_no rfl rfl rfl ?_
    refine gl_op (op_rd rfl (rd_pick_t rfl rfl) ?_)
    refine gl_nil ?_
    refine gx_then ?_
    refine gc_cond_t rfl ?_
    refine gc_seq ?_
    refine gc_region ?_
    refine gl_op (op_rd rfl (rd_assign rfl) ?_)
    refine gl_nil ?_
    refine gx_then ?_
    refine gc_ret ?_
    refine gx_then_ret ?_
    refine gx_ret1 (.inl rfl) Try.results24 rfl [] (by decide) ?_
    refine ⟨congrArg (Value.int .i64) (Circ.check_long c ?_).symm, rfl⟩
    simp [Circ.long, *] <;> omega
  · skip
    refine gl_op (op_rd rfl (rd_move rfl) ?_)
    refine gl_yes rfl rfl (op_rd rfl (rd_fieldAddr rfl (fa_25_1 _)) ?_)
    refine gl_yes rfl rfl (op_rd rfl (rd_load Try.underlying22 rfl rfl (by first | exact ld_blk 0 rfl rfl | exact ld_old (by assumption) (by simp))) ?_)
    refine gl_yes rfl rfl (op_rd rfl (rd_lenSlice Try.underlying22 rfl) ?_)
    refine gl_yes rfl rfl (op_rd rfl (rd_gtr rfl rfl) (gk_dec (fun a2 => ?_) (fun a2 => ?_)))
    · skip
      refine gl_op (op_rd rfl (rd_pick_f rfl rfl) ?_)
      refine gl_op (op_rd rfl (rd_move rfl) ?_)
      refine gl_no rfl rfl rfl ?_
      refine gl_no rfl rfl rfl ?_
      refine gl_no rfl rfl rfl ?_
      refine gl_no rfl rfl rfl ?_
      refine gl_op (op_rd rfl (rd_pick_t rfl rfl) ?_)
      refine gl_nil ?_
      refine gx_then ?_
      refine gc_cond_t rfl ?_
      refine gc_seq ?_
      refine gc_region ?_
      refine gl_op (op_rd rfl (rd_assign rfl) ?_)
      refine gl_nil ?_
      refine gx_then ?_
      refine gc_ret ?_
      refine gx_then_ret ?_
      refine gx_ret1 (.inl rfl) Try.results24 rfl [] (by decide) ?_
      refine ⟨congrArg (Value.int .i64) (Circ.check_long c ?_).symm, rfl⟩
      simp [Circ.long, *] <;> omega
    · skip
      refine gl_op (op_rd rfl (rd_pick_f rfl rfl) ?_)
      refine gl_op (op_rd rfl (rd_move rfl) ?_)
      refine gl_yes rfl rfl (op_rd rfl (rd_fieldAddr rfl (fa_25_2 _)) ?_)
      refine gl_yes rfl rfl (op_rd rfl (rd_load Try.underlying23 rfl rfl (by first | exact ld_blk 0 rfl rfl | exact ld_old (by assumption) (by simp))) ?_)
      refine gl_yes rfl rfl (op_rd rfl (rd_lenSlice Try.underlying23 rfl) ?_)
      refine gl_yes rfl rfl (op_rd rfl (rd_gtr rfl rfl) (gk_dec (fun a3 => ?_) (fun a3 => ?_)))
      · skip
        refine gl_op (op_rd rfl (rd_pick_f rfl rfl) ?_)
        refine gl_nil ?_
        refine gx_then ?_
        refine gc_cond_t rfl ?_
        refine gc_seq ?_
        refine gc_region ?_
        refine gl_op (op_rd rfl (rd_assign rfl) ?_)
        refine gl_nil ?_
        refine gx_then ?_
        refine gc_ret ?_
        refine gx_then_ret ?_
        refine gx_ret1 (.inl rfl) Try.results24 rfl [] (by decide) ?_
        refine ⟨congrArg (Value.int .i64) (Circ.check_long c ?_).symm, rfl⟩
        simp [Circ.long, *] <;> omega
      · skip
        refine gl_op (op_rd rfl (rd_pick_f rfl rfl) ?_)
        refine gl_nil ?_
        refine gx_then ?_
        refine gc_cond_f rfl ?_
        refine gc_skip ?_
        refine gx_then ?_
        refine gc_seq ?_
        refine gc_seq ?_
        refine gc_region ?_
        refine gl_op (op_rd rfl (rd_assign rfl) ?_)
        refine gl_nil ?_
        refine gx_then ?_
        refine gc_block ?_
        refine gc_loop (ι := Nat) (fun j => j ≤ c.gates.length ∧ ∀ i, i < j → ¬ 4 < (c.gates.getD i default).ins.length) (fun j => [(1, .pointer (some ⟨b1, 0, none⟩)), (3, natV j)]) (fun j => [.blk b1 c.cells 25]) (fun j => c.gates.length - j) 0 (⟨Nat.zero_le _, fun i h => absurd h (Nat.not_lt_zero i)⟩) ⟨rfl, rfl, trivial⟩ ⟨[0], by decide, rfl⟩ ?_
        rintro k ⟨hk, hno⟩
        refine gc_seq ?_
        refine gc_seq ?_
        refine gc_region ?_
        refine gl_op (op_rd rfl (rd_move rfl) ?_)
        refine gl_op (op_rd rfl (rd_fieldAddr rfl (fa_25_1 _)) ?_)
        refine gl_op (op_rd rfl (rd_load Try.underlying22 rfl rfl (by first | exact ld_blk 0 rfl rfl | exact ld_old (by assumption) (by simp))) ?_)
        refine gl_op (op_rd rfl (rd_lenSlice Try.underlying22 rfl) ?_)
        refine gl_op (op_rd rfl (rd_lss rfl rfl) (gk_dec (fun hlt => ?_) (fun hlt => ?_)))
        · skip
          have hk1 : k < c.gates.length := by omega
          have hgb := hc.gb
          refine gl_nil ?_
          refine gx_then ?_
          refine gc_cond_t rfl ?_
          refine gc_skip ?_
          refine gx_then ?_
          refine gc_seq ?_
          refine gc_block ?_
          refine gc_seq ?_
          refine gc_region ?_
          refine gl_op (op_rd rfl (rd_fieldAddr rfl (fa_25_1 _)) ?_)
          refine gl_op (op_rd rfl (rd_load Try.underlying22 rfl rfl (by first | exact ld_blk 0 rfl rfl | exact ld_old (by assumption) (by simp))) ?_)
          refine gl_op (op_rd rfl (rd_move rfl) ?_)
          refine gl_op (op_rd rfl (rd_indexOld hc.gates Try.underlying22 ty_48 rfl rfl (by omega) (by omega)) ?_)
          refine gl_op (op_rd rfl (rd_fieldAddr rfl (fa_48_1 _)) ?_)
          refine gl_op (op_rd rfl (rd_load Try.underlying23 rfl rfl (ld_slf hc.gates (get_flat Gate.cells 2 (fun _ => rfl) (x := c.gates.getD k default) (by simp [hk1]) (j := 1) (by decide) rfl))) ?_)
          refine gl_op (op_rd rfl (rd_lenSlice Try.underlying23 rfl) ?_)
          refine gl_op (op_rd rfl (rd_gtr rfl rfl) (gk_dec (fun hd1 => ?_) (fun hd1 => ?_)))
          · skip
            refine gl_nil ?_
            refine gx_then ?_
            refine gc_cond_t rfl ?_
            refine gc_seq ?_
            refine gc_region ?_
            refine gl_op (op_rd rfl (rd_assign rfl) ?_)
            refine gl_nil ?_
            refine gx_then ?_
            refine gc_ret ?_
            refine gx_block_ret ?_
            refine gx_then_ret ?_
            refine gx_then_ret ?_
            refine gx_block_ret ?_
            refine gx_then_ret ?_
            refine gx_ret1 (.inl rfl) Try.results24 rfl [] (by decide) ?_
            refine ⟨congrArg (Value.int .i64) (Circ.check_long c ?_).symm, rfl⟩
            exact Circ.long_g c (g := c.gates.getD k default) (mem_getD hk1) (by omega)
          · skip
            refine gl_nil ?_
            refine gx_then ?_
            refine gc_cond_f rfl ?_
            refine gc_skip ?_
            refine gx_block ?_
            refine gx_then ?_
            refine gc_region ?_
            refine gl_op (op_rd rfl (rd_move rfl) ?_)
            refine gl_op (op_rd rfl (rd_add rfl rfl (by omega) (by omega)) ?_)
            refine gl_op (op_rd rfl (rd_assign rfl) ?_)
            refine gl_nil ?_
            refine gx_then ?_
            exact gx_cut (k + 1) ⟨⟨by omega, fun i hi => by rcases Nat.lt_succ_iff_lt_or_eq.1 hi with h | rfl; exact hno i h; omega⟩, by omega⟩ ⟨rfl, rfl, trivial⟩ ⟨[0], by decide, rfl⟩
        · skip
          have hke : k = c.gates.length := by omega
          subst hke
          have hlong : c.long = false := Circ.long_f c a1 a2 a3 (by rw [List.any_eq_false]; intro g hg; obtain ⟨i, hi, rfl⟩ := getD_of_mem default hg; simpa using hno i hi)
          clear hno hk
          refine gl_nil ?_
          refine gx_then ?_
          refine gc_cond_f rfl ?_
          refine gc_exit ?_
          refine gx_then_exit ?_
          refine gx_then_exit ?_
          refine gx_block_exit ?_
          refine gx_then ?_
          refine gc_seq ?_
          refine gc_seq ?_
          refine gc_region ?_
          refine gl_op (op_rd rfl (rd_fieldAddr rfl (fa_25_0 _)) ?_)
          refine gl_op (op_rd rfl (rd_load Try.underlying3 rfl rfl (by first | exact ld_blk 0 rfl rfl | exact ld_old (by assumption) (by simp))) ?_)
          refine gl_op (op_rd rfl (rd_lss rfl rfl) (gk_dec (fun q1 => ?_) (fun q1 => ?_)))
          · skip
            refine gl_op (op_rd rfl (rd_move rfl) ?_)
            refine gl_no rfl rfl rfl ?_
            refine gl_no rfl rfl rfl ?_
            refine gl_no rfl rfl rfl ?_
            refine gl_no rfl rfl rfl ?_
            refine gl_op (op_rd rfl (rd_pick_t rfl rfl) ?_)
            refine gl_nil ?_
            refine gx_then ?_
            refine gc_cond_t rfl ?_
            refine gc_seq ?_
            refine gc_region ?_
            refine gl_op (op_rd rfl (rd_assign rfl) ?_)
            refine gl_nil ?_
            refine gx_then ?_
            refine gc_ret ?_
            refine gx_then_ret ?_
            refine gx_ret1 (.inl rfl) Try.results24 rfl [] (by decide) ?_
            refine ⟨congrArg (Value.int .i64) (Circ.check_wrong c hlong ?_).symm, rfl⟩
            first | exact Circ.wrong_t c (by omega) | (simp [Circ.wrong, *]; done)
          · skip
            refine gl_op (op_rd rfl (rd_move rfl) ?_)
            refine gl_yes rfl rfl (op_rd rfl (rd_fieldAddr rfl (fa_25_1 _)) ?_)
            refine gl_yes rfl rfl (op_rd rfl (rd_load Try.underlying22 rfl rfl (by first | exact ld_blk 0 rfl rfl | exact ld_old (by assumption) (by simp))) ?_)
            refine gl_yes rfl rfl (op_rd rfl (rd_lenSlice Try.underlying22 rfl) ?_)
            refine gl_yes rfl rfl (op_rd rfl (rd_eql rfl rfl) (gk_dec (fun q2 => ?_) (fun q2 => ?_)))
            · skip
              refine gl_op (op_rd rfl (rd_pick_f rfl rfl) ?_)
              refine gl_nil ?_
              refine gx_then ?_
              refine gc_cond_t rfl ?_
              refine gc_seq ?_
              refine gc_region ?_
              refine gl_op (op_rd rfl (rd_assign rfl) ?_)
              refine gl_nil ?_
              refine gx_then ?_
              refine gc_ret ?_
              refine gx_then_ret ?_
              refine gx_ret1 (.inl rfl) Try.results24 rfl [] (by decide) ?_
              refine ⟨congrArg (Value.int .i64) (Circ.check_wrong c hlong ?_).symm, rfl⟩
              first | exact Circ.wrong_t c (by omega) | (simp [Circ.wrong, *]; done)
            · skip
              refine gl_op (op_rd rfl (rd_pick_f rfl rfl) ?_)
              refine gl_nil ?_
              refine gx_then ?_
              refine gc_cond_f rfl ?_
              refine gc_skip ?_
              refine gx_then ?_
              refine gc_seq ?_
              refine gc_seq ?_
              refine gc_region ?_
              refine gl_op (op_rd rfl (rd_assign rfl) ?_)
              refine gl_nil ?_
              refine gx_then ?_
              refine gc_block ?_
              refine gc_loop (ι := Nat) (fun j => j ≤ c.gates.length ∧ ∀ i, i < j → sigs (c.gates.getD i default).kind (c.gates.getD i default).ins.length = true) (fun j => [(1, .pointer (some ⟨b1, 0, none⟩)), (4, natV j)]) (fun j => [.blk b1 c.cells 25]) (fun j => c.gates.length - j) 0 (⟨Nat.zero_le _, fun i h => absurd h (Nat.not_lt_zero i)⟩) ⟨rfl, rfl, trivial⟩ ⟨[0], by decide, rfl⟩ ?_
              rintro k ⟨hk, hno⟩
              refine gc_seq ?_
              refine gc_seq ?_
              refine gc_region ?_
              refine gl_op (op_rd rfl (rd_move rfl) ?_)
              refine gl_op (op_rd rfl (rd_fieldAddr rfl (fa_25_1 _)) ?_)
              refine gl_op (op_rd rfl (rd_load Try.underlying22 rfl rfl (by first | exact ld_blk 0 rfl rfl | exact ld_old (by assumption) (by simp))) ?_)
              refine gl_op (op_rd rfl (rd_lenSlice Try.underlying22 rfl) ?_)
              refine gl_op (op_rd rfl (rd_lss rfl rfl) (gk_dec (fun hlt2 => ?_) (fun hlt2 => ?_)))
              · skip
                have hk2 : k < c.gates.length := by omega
                have hgb := hc.gb
                refine gl_nil ?_
                refine gx_then ?_
                refine gc_cond_t rfl ?_
                refine gc_skip ?_
                refine gx_then ?_
                refine gc_seq ?_
                refine gc_block ?_
                refine gc_seq ?_
                refine gc_region ?_
                refine gl_op (op_rd rfl (rd_fieldAddr rfl (fa_25_1 _)) ?_)
                refine gl_op (op_rd rfl (rd_load Try.underlying22 rfl rfl (by first | exact ld_blk 0 rfl rfl | exact ld_old (by assumption) (by simp))) ?_)
                refine gl_op (op_rd rfl (rd_move rfl) ?_)
                refine gl_op (op_rd rfl (rd_indexOld hc.gates Try.underlying22 ty_48 rfl rfl (by omega) (by omega)) ?_)
                refine gl_op (op_rd rfl (rd_loadAgg Try.underlying48 rfl ty_48 rfl (cs_sl hc.gates (flat_drop Gate.cells 2 (fun _ => rfl) default c.gates k hk2)) rfl) ?_)
                refine gl_op (op_call rfl (vf := []) (vc := []) rfl rfl Try.call59 (fun w ho => fits_ok _ w (hc.ib _ (mem_getD hk2))) ?_)
                rintro _ _ ⟨rfl, rfl⟩
                refine gl_op (op_rd rfl (rd_not rfl) ?_)
                refine gl_nil ?_
                refine gx_then ?_
                refine gc_cond rfl (fun hsx => ?_) (fun hsx => ?_)
                · skip
                  have hsg : sigs (c.gates.getD k default).kind (c.gates.getD k default).ins.length = false := by simpa using hsx
                  refine gc_seq ?_
                  refine gc_region ?_
                  refine gl_op (op_rd rfl (rd_assign rfl) ?_)
                  refine gl_nil ?_
                  refine gx_then ?_
                  refine gc_ret ?_
                  refine gx_block_ret ?_
                  refine gx_then_ret ?_
                  refine gx_then_ret ?_
                  refine gx_block_ret ?_
                  refine gx_then_ret ?_
                  refine gx_ret1 (.inl rfl) Try.results24 rfl [] (by decide) ?_
                  refine ⟨congrArg (Value.int .i64) (Circ.check_wrong c hlong ?_).symm, rfl⟩
                  exact Circ.wrong_g c (mem_getD hk2) hsg
                · skip
                  have hsg : sigs (c.gates.getD k default).kind (c.gates.getD k default).ins.length = true := by simpa using hsx
                  refine gc_skip ?_
                  refine gx_block ?_
                  refine gx_then ?_
                  refine gc_region ?_
                  refine gl_op (op_rd rfl (rd_move rfl) ?_)
                  refine gl_op (op_rd rfl (rd_add rfl rfl (by omega) (by omega)) ?_)
                  refine gl_op (op_rd rfl (rd_assign rfl) ?_)
                  refine gl_nil ?_
                  refine gx_then ?_
                  exact gx_cut (k + 1) ⟨⟨by omega, fun i hi => by rcases Nat.lt_succ_iff_lt_or_eq.1 hi with h | rfl; exact hno i h; exact hsg⟩, by omega⟩ ⟨rfl, rfl, trivial⟩ ⟨[0], by decide, rfl⟩
              · skip
                have hke : k = c.gates.length := by omega
                subst hke
                have hwrong : c.wrong = false := Circ.wrong_f c q1 q2 (by rw [List.any_eq_false]; intro g hg; obtain ⟨i, hi, rfl⟩ := getD_of_mem default hg; rw [hno i hi]; simp)
                clear hno hk
                have hal := c.allsig_len hlong
                have hob := hc.ob
                refine gl_nil ?_
                refine gx_then ?_
                refine gc_cond_f rfl ?_
                refine gc_exit ?_
                refine gx_then_exit ?_
                refine gx_then_exit ?_
                refine gx_block_exit ?_
                refine gx_then ?_
                refine gc_seq ?_
                refine gc_region ?_
                refine gl_op (op_buildSlice (sz := 1) rfl rfl (fun _ => bs_23_0_) rfl rfl (fun b61 => ?_))
                refine gl_op (op_rd rfl (rd_fieldAddr rfl (fa_25_2 _)) ?_)
                refine gl_op (op_rd rfl (rd_load Try.underlying23 rfl rfl (by first | exact ld_blk 1 rfl rfl | exact ld_old (by assumption) (by simp))) ?_)
                refine gl_op (op_appendSl 0 hc.outs Try.underlying23 ty_3 rfl (by decide) rfl rfl rfl rfl (by simp [Value.oneCell']) (by omega) (by omega) (fun _ => (by first | rfl | (simp only [List.set_cons_succ, List.set_cons_zero]; exact rfl))) (fun r64 c64 => ?_))
                refine gl_op (op_rd rfl (rd_assign rfl) ?_)
                refine gl_nil ?_
                refine gx_then ?_
                refine gc_seq ?_
                refine gc_seq ?_
                refine gc_region ?_
                refine gl_op (op_rd rfl (rd_assign rfl) ?_)
                refine gl_nil ?_
                refine gx_then ?_
                refine gc_block ?_
                refine gc_loop (ι := Nat × Option Nat × Nat × Nat × List Value) (fun j => j.1 ≤ c.gates.length ∧ j.2.2.2.2 = (c.sigTo j.1).map intV ∧ j.2.2.1 = (c.sigTo j.1).length) (fun j => [(1, .pointer (some ⟨b1, 0, none⟩)), (5, .slice (rowA j.2.1) j.2.2.1 j.2.2.2.1), (6, natV j.1)]) (fun j => [.row 3 1 j.2.1 j.2.2.1 j.2.2.2.1 j.2.2.2.2, .blk b1 c.cells 25]) (fun j => c.gates.length - j.1) (0, r64, 0 + c.outs.length, c64, [] ++ c.outs.map intV) (⟨Nat.zero_le _, by simp [Circ.sigTo], by simp [Circ.sigTo]⟩) ⟨rfl, rfl, rfl, trivial⟩ ⟨[0, 1], by decide, rfl⟩ ?_
                rintro ⟨k, r, nn, cp, cs⟩ ⟨hk, hcs, hn⟩
                simp only at hk hcs hn ⊢
                have hsl := c.sigTo_le k
                refine gc_seq ?_
                refine gc_seq ?_
                refine gc_region ?_
                refine gl_op (op_rd rfl (rd_move rfl) ?_)
                refine gl_op (op_rd rfl (rd_fieldAddr rfl (fa_25_1 _)) ?_)
                refine gl_op (op_rd rfl (rd_load Try.underlying22 rfl rfl (by first | exact ld_blk 1 rfl rfl | exact ld_old (by assumption) (by simp))) ?_)
                refine gl_op (op_rd rfl (rd_lenSlice Try.underlying22 rfl) ?_)
                refine gl_op (op_rd rfl (rd_lss rfl rfl) (gk_dec (fun hlt3 => ?_) (fun hlt3 => ?_)))
                · skip
                  have hk3 : k < c.gates.length := by omega
                  have hgb := hc.gb
                  have hi4 := c.in4 hlong _ (mem_getD (d := default) hk3)
                  refine gl_nil ?_
                  refine gx_then ?_
                  refine gc_cond_t rfl ?_
                  refine gc_skip ?_
                  refine gx_then ?_
                  refine gc_seq ?_
                  refine gc_block ?_
                  refine gc_region ?_
                  refine gl_op (op_rd rfl (rd_move rfl) ?_)
                  refine gl_op (op_rd rfl (rd_fieldAddr rfl (fa_25_1 _)) ?_)
                  refine gl_op (op_rd rfl (rd_load Try.underlying22 rfl rfl (by first | exact ld_blk 1 rfl rfl | exact ld_old (by assumption) (by simp))) ?_)
                  refine gl_op (op_rd rfl (rd_move rfl) ?_)
                  refine gl_op (op_rd rfl (rd_indexOld hc.gates Try.underlying22 ty_48 rfl rfl (by omega) (by omega)) ?_)
                  refine gl_op (op_rd rfl (rd_fieldAddr rfl (fa_48_1 _)) ?_)
                  refine gl_op (op_rd rfl (rd_load Try.underlying23 rfl rfl (ld_slf hc.gates (get_flat Gate.cells 2 (fun _ => rfl) (x := c.gates.getD k default) (by simp [hk3]) (j := 1) (by decide) rfl))) ?_)
                  refine gl_op (op_appendSl 0 (hc.ins _ (mem_getD hk3)) Try.underlying23 ty_3 rfl (by decide) rfl rfl rfl rfl (by simp [Value.oneCell']) (by omega) (by omega) (fun _ => (by first | rfl | (simp only [List.set_cons_succ, List.set_cons_zero]; exact rfl))) (fun r79 c79 => ?_))
                  refine gl_op (op_rd rfl (rd_assign rfl) ?_)
                  refine gl_nil ?_
                  refine gx_block ?_
                  refine gx_then ?_
                  refine gc_region ?_
                  refine gl_op (op_rd rfl (rd_move rfl) ?_)
                  refine gl_op (op_rd rfl (rd_add rfl rfl (by omega) (by omega)) ?_)
                  refine gl_op (op_rd rfl (rd_assign rfl) ?_)
                  refine gl_nil ?_
                  refine gx_then ?_
                  exact gx_cut ((k + 1, r79, nn + (c.gates.getD k default).ins.length, c79, cs ++ (c.gates.getD k default).ins.map intV)) ⟨⟨by omega, by rw [c.sigTo_succ hk3, List.map_append, hcs], by rw [c.sigTo_succ hk3, List.length_append, hn]⟩, by simp only; omega⟩ ⟨rfl, rfl, rfl, trivial⟩ ⟨[0, 1], by decide, rfl⟩
                · skip
                  have hke : k = c.gates.length := by omega
                  subst hke
                  rw [c.sigTo_all] at hcs hn
                  have hsl2 : c.allsig.length ≤ 64 := hal
                  refine gl_nil ?_
                  refine gx_then ?_
                  refine gc_cond_f rfl ?_
                  refine gc_exit ?_
                  refine gx_then_exit ?_
                  refine gx_then_exit ?_
                  refine gx_block_exit ?_
                  refine gx_then ?_
                  refine gc_seq ?_
                  refine gc_seq ?_
                  refine gc_region ?_
                  refine gl_op (op_rd rfl (rd_assign rfl) ?_)
                  refine gl_nil ?_
                  refine gx_then ?_
                  refine gc_block ?_
                  refine gc_loop (ι := Nat) (fun j => j ≤ c.allsig.length ∧ ∀ i, i < j → c.bad (c.allsig.getD i 0) = false) (fun j => [(1, .pointer (some ⟨b1, 0, none⟩)), (5, .slice (rowA r) nn cp), (7, natV j)]) (fun j => [.row 3 1 r nn cp cs, .blk b1 c.cells 25]) (fun j => c.allsig.length - j) 0 (⟨Nat.zero_le _, fun i h => absurd h (Nat.not_lt_zero i)⟩) ⟨rfl, rfl, rfl, trivial⟩ ⟨[0, 1], by decide, rfl⟩ ?_
                  rintro k ⟨hk, hno⟩
                  refine gc_seq ?_
                  refine gc_seq ?_
                  refine gc_region ?_
                  refine gl_op (op_rd rfl (rd_move rfl) ?_)
                  refine gl_op (op_rd rfl (rd_move rfl) ?_)
                  refine gl_op (op_rd rfl (rd_lenSlice Try.underlying23 rfl) ?_)
                  refine gl_op (op_rd rfl (rd_lss rfl rfl) (gk_dec (fun hlt4 => ?_) (fun hlt4 => ?_)))
                  · skip
                    have hk3 : k < c.allsig.length := by omega
                    have hi0 : ¬ c.inputs < 0 := q1
                    have hi8 : ¬ 8 < c.inputs := a1
                    refine gl_nil ?_
                    refine gx_then ?_
                    refine gc_cond_t rfl ?_
                    refine gc_skip ?_
                    refine gx_then ?_
                    refine gc_seq ?_
                    refine gc_block ?_
                    refine gc_seq ?_
                    refine gc_drawP [0, 1] true 17 rfl ?_
                    refine ga_first 0 #[true, false, false, false, false, false, false, false, false, false, false, false, false, false, false, false, false, false] rfl rfl rfl rfl (by kernel_rfl) rfl ⟨[0, 1], by decide, rfl⟩ (qt_rd (rd_move rfl)) ?_
                    refine ga_first 1 #[true, true, false, false, false, false, false, false, false, false, false, false, false, false, false, false, false, false] rfl rfl rfl rfl (by kernel_rfl) rfl ⟨[0, 1], by decide, rfl⟩ (qt_rd (rd_move rfl)) ?_
                    refine ga_first 2 #[true, true, true, false, false, false, false, false, false, false, false, false, false, false, false, false, false, false] rfl rfl rfl rfl (by kernel_rfl) rfl ⟨[0, 1], by decide, rfl⟩ (qt_rd (by first | exact rd_indexRow1 0 rfl Try.underlying23 ty_3 rfl rfl (by omega) (by omega) | exact rd_index1 Try.underlying23 ty_3 rfl rfl (by omega) (by omega))) ?_
                    refine ga_first 3 #[true, true, true, true, false, false, false, false, false, false, false, false, false, false, false, false, false, false] rfl rfl rfl rfl (by kernel_rfl) rfl ⟨[0, 1], by decide, rfl⟩ (qt_rd (rd_load Try.underlying3 rfl rfl (ld_row 0 rfl (by rw [hcs]; exact get_ints hk3)))) ?_
                    refine ga_first 4 #[true, true, true, true, true, false, false, false, false, false, false, false, false, false, false, false, false, false] rfl rfl rfl rfl (by kernel_rfl) rfl ⟨[0, 1], by decide, rfl⟩ (qt_rd (rd_lss rfl rfl)) (gk_dec (fun hneg => ?_) (fun hneg => ?_))
                    · skip
                      refine ga_first 5 #[true, true, true, true, true, true, false, false, false, false, false, false, false, false, false, false, false, false] rfl rfl rfl rfl (by kernel_rfl) rfl ⟨[0, 1], by decide, rfl⟩ (qt_rd (rd_move rfl)) ?_
                      refine ga_firstN 6 #[true, true, true, true, true, true, true, false, false, false, false, false, false, false, false, false, false, false] rfl rfl rfl rfl rfl rfl (by kernel_rfl) rfl ⟨[0, 1], by decide, rfl⟩ ?_
                      refine ga_firstN 7 #[true, true, true, true, true, true, true, true, false, false, false, false, false, false, false, false, false, false] rfl rfl rfl rfl rfl rfl (by kernel_rfl) rfl ⟨[0, 1], by decide, rfl⟩ ?_
                      refine ga_firstN 8 #[true, true, true, true, true, true, true, true, true, false, false, false, false, false, false, false, false, false] rfl rfl rfl rfl rfl rfl (by kernel_rfl) rfl ⟨[0, 1], by decide, rfl⟩ ?_
                      refine ga_firstN 9 #[true, true, true, true, true, true, true, true, true, true, false, false, false, false, false, false, false, false] rfl rfl rfl rfl rfl rfl (by kernel_rfl) rfl ⟨[0, 1], by decide, rfl⟩ ?_
                      refine ga_firstN 10 #[true, true, true, true, true, true, true, true, true, true, true, false, false, false, false, false, false, false] rfl rfl rfl rfl rfl rfl (by kernel_rfl) rfl ⟨[0, 1], by decide, rfl⟩ ?_
                      refine ga_firstN 11 #[true, true, true, true, true, true, true, true, true, true, true, true, false, false, false, false, false, false] rfl rfl rfl rfl rfl rfl (by kernel_rfl) rfl ⟨[0, 1], by decide, rfl⟩ ?_
                      refine ga_firstN 12 #[true, true, true, true, true, true, true, true, true, true, true, true, true, false, false, false, false, false] rfl rfl rfl rfl rfl rfl (by kernel_rfl) rfl ⟨[0, 1], by decide, rfl⟩ ?_
                      refine ga_firstN 13 #[true, true, true, true, true, true, true, true, true, true, true, true, true, true, false, false, false, false] rfl rfl rfl rfl rfl rfl (by kernel_rfl) rfl ⟨[0, 1], by decide, rfl⟩ ?_
                      refine ga_firstN 14 #[true, true, true, true, true, true, true, true, true, true, true, true, true, true, true, false, false, false] rfl rfl rfl rfl rfl rfl (by kernel_rfl) rfl ⟨[0, 1], by decide, rfl⟩ ?_
                      refine ga_firstN 15 #[true, true, true, true, true, true, true, true, true, true, true, true, true, true, true, true, false, false] rfl rfl rfl rfl rfl rfl (by kernel_rfl) rfl ⟨[0, 1], by decide, rfl⟩ ?_
                      refine ga_firstN 16 #[true, true, true, true, true, true, true, true, true, true, true, true, true, true, true, true, true, false] rfl rfl rfl rfl rfl rfl (by kernel_rfl) rfl ⟨[0, 1], by decide, rfl⟩ ?_
                      refine ga_first 17 #[true, true, true, true, true, true, true, true, true, true, true, true, true, true, true, true, true, true] rfl rfl rfl rfl (by kernel_rfl) rfl ⟨[0, 1], by decide, rfl⟩ (qt_rd (rd_pick_t rfl rfl)) ?_
                      refine ga_end (by kernel_rfl) (.inr ⟨[0, 1], by decide, rfl⟩) ?_
                      refine gx_then ?_
                      refine gc_cond_t rfl ?_
                      refine gc_seq ?_
                      refine gc_region ?_
                      refine gl_op (op_rd rfl (rd_assign rfl) ?_)
                      refine gl_nil ?_
                      refine gx_then ?_
                      refine gc_ret ?_
                      refine gx_block_ret ?_
                      refine gx_then_ret ?_
                      refine gx_then_ret ?_
                      refine gx_block_ret ?_
                      refine gx_then_ret ?_
                      refine gx_ret1 (.inl rfl) Try.results24 rfl [] (by decide) ?_
                      refine ⟨congrArg (Value.int .i64) (Circ.check_out c hlong hwrong ?_).symm, rfl⟩
                      exact Circ.out_of c (mem_getD hk3) (by simp only [Circ.bad, Bool.or_eq_true, decide_eq_true_eq]; first | (left; exact hneg) | (right; exact hbig))
                    · skip
                      refine ga_first 5 #[true, true, true, true, true, true, false, false, false, false, false, false, false, false, false, false, false, false] rfl rfl rfl rfl (by kernel_rfl) rfl ⟨[0, 1], by decide, rfl⟩ (qt_rd (rd_move rfl)) ?_
                      refine ga_firstY 6 #[true, true, true, true, true, true, true, false, false, false, false, false, false, false, false, false, false, false] rfl rfl rfl rfl rfl rfl (by kernel_rfl) rfl ⟨[0, 1], by decide, rfl⟩ (qt_rd (rd_move rfl)) ?_
                      refine ga_firstY 7 #[true, true, true, true, true, true, true, true, false, false, false, false, false, false, false, false, false, false] rfl rfl rfl rfl rfl rfl (by kernel_rfl) rfl ⟨[0, 1], by decide, rfl⟩ (qt_rd (rd_move rfl)) ?_
                      refine ga_firstY 8 #[true, true, true, true, true, true, true, true, true, false, false, false, false, false, false, false, false, false] rfl rfl rfl rfl rfl rfl (by kernel_rfl) rfl ⟨[0, 1], by decide, rfl⟩ (qt_rd (by first | exact rd_indexRow1 0 rfl Try.underlying23 ty_3 rfl rfl (by omega) (by omega) | exact rd_index1 Try.underlying23 ty_3 rfl rfl (by omega) (by omega))) ?_
                      refine ga_firstY 9 #[true, true, true, true, true, true, true, true, true, true, false, false, false, false, false, false, false, false] rfl rfl rfl rfl rfl rfl (by kernel_rfl) rfl ⟨[0, 1], by decide, rfl⟩ (qt_rd (rd_load Try.underlying3 rfl rfl (ld_row 0 rfl (by rw [hcs]; exact get_ints hk3)))) ?_
                      refine ga_firstY 10 #[true, true, true, true, true, true, true, true, true, true, true, false, false, false, false, false, false, false] rfl rfl rfl rfl rfl rfl (by kernel_rfl) rfl ⟨[0, 1], by decide, rfl⟩ (qt_rd (rd_fieldAddr rfl (fa_25_0 _))) ?_
                      refine ga_firstY 11 #[true, true, true, true, true, true, true, true, true, true, true, true, false, false, false, false, false, false] rfl rfl rfl rfl rfl rfl (by kernel_rfl) rfl ⟨[0, 1], by decide, rfl⟩ (qt_rd (rd_load Try.underlying3 rfl rfl (by first | exact ld_blk 1 rfl rfl | exact ld_old (by assumption) (by simp)))) ?_
                      refine ga_firstY 12 #[true, true, true, true, true, true, true, true, true, true, true, true, true, false, false, false, false, false] rfl rfl rfl rfl rfl rfl (by kernel_rfl) rfl ⟨[0, 1], by decide, rfl⟩ (qt_rd (rd_fieldAddr rfl (fa_25_1 _))) ?_
                      refine ga_firstY 13 #[true, true, true, true, true, true, true, true, true, true, true, true, true, true, false, false, false, false] rfl rfl rfl rfl rfl rfl (by kernel_rfl) rfl ⟨[0, 1], by decide, rfl⟩ (qt_rd (rd_load Try.underlying22 rfl rfl (by first | exact ld_blk 1 rfl rfl | exact ld_old (by assumption) (by simp)))) ?_
                      refine ga_firstY 14 #[true, true, true, true, true, true, true, true, true, true, true, true, true, true, true, false, false, false] rfl rfl rfl rfl rfl rfl (by kernel_rfl) rfl ⟨[0, 1], by decide, rfl⟩ (qt_rd (rd_lenSlice Try.underlying22 rfl)) ?_
                      refine ga_firstY 15 #[true, true, true, true, true, true, true, true, true, true, true, true, true, true, true, true, false, false] rfl rfl rfl rfl rfl rfl (by kernel_rfl) rfl ⟨[0, 1], by decide, rfl⟩ (qt_rd (rd_add rfl rfl (by omega) (by omega))) ?_
                      refine ga_firstY 16 #[true, true, true, true, true, true, true, true, true, true, true, true, true, true, true, true, true, false] rfl rfl rfl rfl rfl rfl (by kernel_rfl) rfl ⟨[0, 1], by decide, rfl⟩ (qt_rd (rd_geq rfl rfl)) (gk_dec (fun hbig => ?_) (fun hbig => ?_))
                      · skip
                        refine ga_first 17 #[true, true, true, true, true, true, true, true, true, true, true, true, true, true, true, true, true, true] rfl rfl rfl rfl (by kernel_rfl) rfl ⟨[0, 1], by decide, rfl⟩ (qt_rd (rd_pick_f rfl rfl)) ?_
                        refine ga_end (by kernel_rfl) (.inr ⟨[0, 1], by decide, rfl⟩) ?_
                        refine gx_then ?_
                        refine gc_cond_t rfl ?_
                        refine gc_seq ?_
                        refine gc_region ?_
                        refine gl_op (op_rd rfl (rd_assign rfl) ?_)
                        refine gl_nil ?_
                        refine gx_then ?_
                        refine gc_ret ?_
                        refine gx_block_ret ?_
                        refine gx_then_ret ?_
                        refine gx_then_ret ?_
                        refine gx_block_ret ?_
                        refine gx_then_ret ?_
                        refine gx_ret1 (.inl rfl) Try.results24 rfl [] (by decide) ?_
                        refine ⟨congrArg (Value.int .i64) (Circ.check_out c hlong hwrong ?_).symm, rfl⟩
                        exact Circ.out_of c (mem_getD hk3) (by simp only [Circ.bad, Bool.or_eq_true, decide_eq_true_eq]; first | (left; exact hneg) | (right; exact hbig))
                      · skip
                        have hbk : c.bad (c.allsig.getD k 0) = false := by
                          unfold Circ.bad
                          rw [decide_eq_false (show ¬ c.allsig.getD k 0 < 0 from hneg), decide_eq_false (show ¬ c.inputs + c.gates.length ≤ c.allsig.getD k 0 from hbig)]; rfl
                        refine ga_first 17 #[true, true, true, true, true, true, true, true, true, true, true, true, true, true, true, true, true, true] rfl rfl rfl rfl (by kernel_rfl) rfl ⟨[0, 1], by decide, rfl⟩ (qt_rd (rd_pick_f rfl rfl)) ?_
                        refine ga_end (by kernel_rfl) (.inr ⟨[0, 1], by decide, rfl⟩) ?_
                        refine gx_then ?_
                        refine gc_cond_f rfl ?_
                        refine gc_skip ?_
                        refine gx_block ?_
                        refine gx_then ?_
                        refine gc_region ?_
                        refine gl_op (op_rd rfl (rd_move rfl) ?_)
                        refine gl_op (op_rd rfl (rd_add rfl rfl (by omega) (by omega)) ?_)
                        refine gl_op (op_rd rfl (rd_assign rfl) ?_)
                        refine gl_nil ?_
                        refine gx_then ?_
                        exact gx_cut (k + 1) ⟨⟨by omega, fun i hi => by rcases Nat.lt_succ_iff_lt_or_eq.1 hi with h | rfl; exact hno i h; exact hbk⟩, by omega⟩ ⟨rfl, rfl, rfl, trivial⟩ ⟨[0, 1], by decide, rfl⟩
                  · skip
                    refine gl_nil ?_
                    refine gx_then ?_
                    refine gc_cond_f rfl ?_
                    refine gc_exit ?_
                    refine gx_then_exit ?_
                    refine gx_then_exit ?_
                    refine gx_block_exit ?_
                    refine gx_then ?_
                    refine gc_seq ?_
                    refine gc_region ?_
                    refine gl_op (op_rd rfl (rd_assign rfl) ?_)
                    refine gl_nil ?_
                    refine gx_then ?_
                    refine gc_ret ?_
                    refine gx_ret1 (.inl rfl) Try.results24 rfl [] (by decide) ?_
                    refine ⟨congrArg (Value.int .i64) (Circ.check_ok c hlong hwrong ?_).symm, rfl⟩
                    exact Circ.out_none c (fun n hn => by obtain ⟨k2, hk2, rfl⟩ := getD_of_mem 0 hn; exact hno k2 (by omega))

set_option maxRecDepth 100000 in
set_option maxHeartbeats 1000000 in
theorem signal_ok (c : Circ) (n st inn : Nat) (w0 : World) (hi0 : 0 ≤ c.inputs) (hi8 : c.inputs ≤ 8) (hn : n < 32) (hst : st < 4096) (hin : inn < 2 ^ c.inputs.toNat) : Sp Try.prog 76 [c.val, natV n, natV st, natV inn] w0 [] (RV (.bool (sigA (st <<< c.inputs.toNat ||| inn) n))) := by
  obtain ⟨ci, hci⟩ : ∃ n : Nat, c.inputs = n := ⟨c.inputs.toNat, by omega⟩
  have hin2 : inn < 256 := by have := Nat.pow_le_pow_right (n := 2) (by decide) (show c.inputs.toNat ≤ 8 by omega); omega
  refine spec_enter Try.func76 rfl Try.ntmps76 rfl (Own.refl _) ?_
  simp only [argEnv]
  refine gc_seq ?_
  refine gc_region ?_
  refine gl_op (op_box rfl rfl rfl (fun b4 => ?_))
  refine gl_op (op_rd rfl (rd_assign rfl) ?_)
  refine gl_nil ?_
  refine gx_then ?_
  refine gc_seq ?_
  refine gc_seq ?_
  refine gc_region ?_
  refine gl_op (op_rd rfl (rd_move rfl) ?_)
  refine gl_op (op_rd rfl (rd_fieldAddr rfl (fa_25_0 _)) ?_)
  refine gl_op (op_rd rfl (rd_load Try.underlying3 rfl rfl (by first | exact ld_blk 0 rfl rfl | exact ld_old (by assumption) (by simp))) ?_)
  simp only [hci]
  refine gl_op (op_rd rfl (rd_lss rfl rfl) (gk_dec (fun hlt => ?_) (fun hlt => ?_)))
  · skip
    refine gl_nil ?_
    refine gx_then ?_
    refine gc_cond_t rfl ?_
    refine gc_seq ?_
    refine gc_region ?_
    refine gl_op (op_rd rfl (rd_move rfl) ?_)
    refine gl_op (op_rd rfl (rd_move rfl) ?_)
    refine gl_op (op_rd rfl (rd_conv Try.runUnderlying3 Try.runUnderlying58 rfl (wrap_u64_nat (by omega))) ?_)
    refine gl_op (op_rd rfl (rd_shr rfl rfl (by omega)) ?_)
    have hsr := Nat.shiftRight_le inn n
    refine gl_op (op_rd rfl (rd_rem rfl rfl (by first | exact Int.natCast_nonneg _ | omega) (by omega)) ?_)
    refine gl_op (op_rd rfl (rd_eql rfl rfl) ?_)
    refine gl_op (op_rd rfl (rd_assign rfl) ?_)
    refine gl_nil ?_
    refine gx_then ?_
    refine gc_ret ?_
    refine gx_then_ret ?_
    refine gx_ret1 (.inl rfl) Try.results76 rfl [] (by decide) ?_
    refine ⟨congrArg Value.bool ?_, rfl⟩
    have hab := all_bit (st := st) (n := n) hin
    rw [hci, Int.toNat_natCast] at hab
    rw [dec_mod]
    show inn.testBit n = (st <<< ci ||| inn).testBit n
    rw [hab, if_pos (by omega)]
  · skip
    refine gl_nil ?_
    refine gx_then ?_
    refine gc_cond_f rfl ?_
    refine gc_skip ?_
    refine gx_then ?_
    refine gc_seq ?_
    refine gc_region ?_
    refine gl_op (op_rd rfl (rd_move rfl) ?_)
    refine gl_op (op_rd rfl (rd_move rfl) ?_)
    refine gl_op (op_rd rfl (rd_fieldAddr rfl (fa_25_0 _)) ?_)
    refine gl_op (op_rd rfl (rd_load Try.underlying3 rfl rfl (by first | exact ld_blk 0 rfl rfl | exact ld_old (by assumption) (by simp))) ?_)
    simp only [hci]
    refine gl_op (op_rd rfl (rd_sub rfl rfl (by omega) (by omega)) ?_)
    rw [show ((n : Int) - (ci : Int)) = ((n - ci : Nat) : Int) from by omega]
    refine gl_op (op_rd rfl (rd_conv Try.runUnderlying3 Try.runUnderlying58 rfl (wrap_u64_nat (by omega))) ?_)
    refine gl_op (op_rd rfl (rd_shr rfl rfl (by omega)) ?_)
    have hsr := Nat.shiftRight_le st (n - ci)
    refine gl_op (op_rd rfl (rd_rem rfl rfl (by first | exact Int.natCast_nonneg _ | omega) (by omega)) ?_)
    refine gl_op (op_rd rfl (rd_eql rfl rfl) ?_)
    refine gl_op (op_rd rfl (rd_assign rfl) ?_)
    refine gl_nil ?_
    refine gx_then ?_
    refine gc_ret ?_
    refine gx_ret1 (.inl rfl) Try.results76 rfl [] (by decide) ?_
    refine ⟨congrArg Value.bool ?_, rfl⟩
    have hab := all_bit (st := st) (n := n) hin
    rw [hci, Int.toNat_natCast] at hab
    rw [dec_mod]
    show st.testBit (n - ci) = (st <<< ci ||| inn).testBit n
    rw [hab, if_neg (by omega)]

set_option maxRecDepth 100000 in
set_option maxHeartbeats 1000000 in
theorem rvalue_ok (c : Circ) (k st inn : Nat) (g : Gate) (w0 : World) (hc : c.In w0 []) (hgd : c.Good) (hst : st < 2 ^ c.gates.length) (hin : inn < 2 ^ c.inputs.toNat) (hg : c.gates[k]? = some g) : Sp Try.prog 75 [c.val, natV k, natV st, natV inn] w0 [] (RV (.bool (valueG (st <<< c.inputs.toNat ||| inn) st k g))) := by
  have hst2 := st_lt hgd hst
  have hin2 := in_lt hgd hin
  have hg12 := hgd.g12
  have hi8 := hgd.i8
  refine spec_enter Try.func75 rfl Try.ntmps75 rfl (Own.refl _) ?_
  simp only [argEnv]
  refine gc_seq ?_
  refine gc_region ?_
  refine gl_op (op_box rfl rfl rfl (fun b4 => ?_))
  refine gl_op (op_rd rfl (rd_assign rfl) ?_)
  refine gl_nil ?_
  refine gx_then ?_
  refine gc_seq ?_
  have hkl : k < c.gates.length := (List.getElem?_eq_some_iff.1 hg).1
  have hgm : g ∈ c.gates := List.mem_of_getElem? hg
  have hsig := hgd.sigs g hgm
  have hi4 := hgd.in4 g hgm
  have hgi := hgd.ins g hgm
  have hi0 := sigs_pos hsig
  have hins := hc.ins g hgm
  have hglb := hc.gb
  refine gc_region ?_
  refine gl_op (op_rd rfl (rd_fieldAddr rfl (fa_25_1 _)) ?_)
  refine gl_op (op_rd rfl (rd_load Try.underlying22 rfl rfl (by first | exact ld_blk 0 rfl rfl | exact ld_old (by assumption) (by simp))) ?_)
  refine gl_op (op_rd rfl (rd_move rfl) ?_)
  refine gl_op (op_rd rfl (rd_indexOld hc.gates Try.underlying22 ty_48 rfl rfl (by omega) (by omega)) ?_)
  refine gl_op (op_rd rfl (rd_loadAgg Try.underlying48 rfl ty_48 rfl (cs_sl hc.gates (flat_drop_get Gate.cells 2 (fun _ => rfl) hg)) rfl) ?_)
  refine gl_op (op_alloc ty_48 rfl rfl (fun b9 => ?_))
  first | refine gl_op (op_storeAgg 0 ty_48 rfl rfl rfl rfl rfl rfl (by first | rfl | (simp only [List.set_cons_succ, List.set_cons_zero]; exact rfl)) ?_) | refine gl_op (op_storeAgg 1 ty_48 rfl rfl rfl rfl rfl rfl (by first | rfl | (simp only [List.set_cons_succ, List.set_cons_zero]; exact rfl)) ?_)
  refine gl_nil ?_
  refine gx_then ?_
  refine gc_seq ?_
  refine gc_region ?_
  refine gl_op (op_rd rfl (rd_assign rfl) ?_)
  refine gl_op (op_rd rfl (rd_assign rfl) ?_)
  refine gl_nil ?_
  refine gx_then ?_
  refine gc_seq ?_
  refine gc_seq ?_
  refine gc_region ?_
  refine gl_op (op_rd rfl (rd_assign rfl) ?_)
  refine gl_nil ?_
  refine gx_then ?_
  refine gc_block ?_
  refine gc_loop (ι := Nat × Bool × Bool) (fun j => j.1 ≤ g.ins.length ∧ j.2.1 = (g.ins.take j.1).all (sigA (st <<< c.inputs.toNat ||| inn)) ∧ j.2.2 = (g.ins.take j.1).any (sigA (st <<< c.inputs.toNat ||| inn))) (fun j => [(1, natV k), (2, natV st), (3, natV inn), (4, .pointer (some ⟨b4, 0, none⟩)), (9, .pointer (some ⟨b9, 0, none⟩)), (10, .bool j.2.1), (11, .bool j.2.2), (12, natV j.1)]) (fun j => [.blk b4 c.cells 25, .blk b9 g.cells 48]) (fun j => g.ins.length - j.1) (0, true, false) (⟨Nat.zero_le _, rfl, rfl⟩) ⟨rfl, rfl, rfl, rfl, rfl, rfl, rfl, rfl, trivial⟩ ⟨[1, 0], by decide, rfl⟩ ?_
  rintro ⟨j, aa, oo⟩ ⟨hj, ha, ho⟩
  simp only at hj ha ho ⊢
  refine gc_seq ?_
  refine gc_seq ?_
  refine gc_region ?_
  refine gl_op (op_rd rfl (rd_move rfl) ?_)
  refine gl_op (op_rd rfl (rd_fieldAddr rfl (fa_48_1 _)) ?_)
  refine gl_op (op_rd rfl (rd_load Try.underlying23 rfl rfl (by first | exact ld_blk 0 rfl rfl | exact ld_blk 1 rfl rfl | exact ld_old (by assumption) (by simp))) ?_)
  refine gl_op (op_rd rfl (rd_lenSlice Try.underlying23 rfl) ?_)
  refine gl_op (op_rd rfl (rd_lss rfl rfl) (gk_dec (fun hlt => ?_) (fun hlt => ?_)))
  · skip
    have hgnj := hgi _ (mem_getD (d := 0) (show j < g.ins.length by omega))
    obtain ⟨nj, hnj⟩ : ∃ n : Nat, g.ins.getD j 0 = n := ⟨(g.ins.getD j 0).toNat, by omega⟩
    refine gl_nil ?_
    refine gx_then ?_
    refine gc_cond_t rfl ?_
    refine gc_skip ?_
    refine gx_then ?_
    refine gc_seq ?_
    refine gc_block ?_
    refine gc_seq ?_
    refine gc_drawP [0, 1] true 9 rfl ?_
    refine ga_first 0 #[true, false, false, false, false, false, false, false, false, false] rfl rfl rfl rfl (by kernel_rfl) rfl ⟨[0, 1], by decide, rfl⟩ (qt_rd (rd_loadAgg Try.underlying25 rfl ty_25 rfl (by first | exact cs_blk 0 (off := 0) (k := 3) rfl rfl | exact cs_blk 1 (off := 0) (k := 3) rfl rfl | exact cs_old (by assumption) (by simp)) rfl)) ?_
    refine ga_first 1 #[true, true, false, false, false, false, false, false, false, false] rfl rfl rfl rfl (by kernel_rfl) rfl ⟨[0, 1], by decide, rfl⟩ (qt_rd (rd_fieldAddr rfl (fa_48_1 _))) ?_
    refine ga_first 2 #[true, true, true, false, false, false, false, false, false, false] rfl rfl rfl rfl (by kernel_rfl) rfl ⟨[0, 1], by decide, rfl⟩ (qt_rd (rd_load Try.underlying23 rfl rfl (by first | exact ld_blk 0 rfl rfl | exact ld_blk 1 rfl rfl | exact ld_old (by assumption) (by simp)))) ?_
    refine ga_first 3 #[true, true, true, true, false, false, false, false, false, false] rfl rfl rfl rfl (by kernel_rfl) rfl ⟨[0, 1], by decide, rfl⟩ (qt_rd (rd_move rfl)) ?_
    refine ga_first 4 #[true, true, true, true, true, false, false, false, false, false] rfl rfl rfl rfl (by kernel_rfl) rfl ⟨[0, 1], by decide, rfl⟩ (qt_rd (rd_indexOld1 hins Try.underlying23 ty_3 rfl rfl (by omega) (by omega))) ?_
    refine ga_first 5 #[true, true, true, true, true, true, false, false, false, false] rfl rfl rfl rfl (by kernel_rfl) rfl ⟨[0, 1], by decide, rfl⟩ (qt_rd (rd_load Try.underlying3 rfl rfl (ld_sl hins (get_ints (by omega))))) ?_
    try simp only [show g.ins.getD ((j : Nat) : Int).toNat 0 = (nj : Int) from hnj]
    refine ga_first 6 #[true, true, true, true, true, true, true, false, false, false] rfl rfl rfl rfl (by kernel_rfl) rfl ⟨[0, 1], by decide, rfl⟩ (qt_rd (rd_move rfl)) ?_
    refine ga_first 7 #[true, true, true, true, true, true, true, true, false, false] rfl rfl rfl rfl (by kernel_rfl) rfl ⟨[0, 1], by decide, rfl⟩ (qt_rd (rd_move rfl)) ?_
    refine ga_first 8 #[true, true, true, true, true, true, true, true, true, false] rfl rfl rfl rfl (by kernel_rfl) rfl ⟨[0, 1], by decide, rfl⟩ (qt_call (vf := []) (vc := []) rfl rfl Try.call76 (fun w ho => signal_ok c nj st inn w hgd.i0 hgd.i8 (by omega) hst2 hin) (by rintro _ _ ⟨h, _⟩; exact h)) ?_
    refine ga_first 9 #[true, true, true, true, true, true, true, true, true, true] rfl rfl rfl rfl (by kernel_rfl) rfl ⟨[0, 1], by decide, rfl⟩ (qt_rd (rd_assign rfl)) ?_
    refine ga_end (by kernel_rfl) (.inr ⟨[0, 1], by decide, rfl⟩) ?_
    refine gx_then ?_
    refine gc_seq ?_
    refine gc_region ?_
    refine gl_op (op_rd rfl (rd_move rfl) ?_)
    refine gl_op (op_rd rfl (rd_move rfl) ?_)
    refine gk_bool (fun haa => ?_) (fun haa => ?_)
    · skip
      refine gl_yes rfl rfl (op_rd rfl (rd_move rfl) ?_)
      refine gl_op (op_rd rfl (rd_pick_t rfl rfl) ?_)
      refine gl_op (op_rd rfl (rd_assign rfl) ?_)
      refine gl_nil ?_
      refine gx_then ?_
      refine gc_region ?_
      refine gl_op (op_rd rfl (rd_move rfl) ?_)
      refine gl_op (op_rd rfl (rd_move rfl) ?_)
      refine gk_bool (fun hoo => ?_) (fun hoo => ?_)
      · skip
        refine gl_no rfl rfl rfl ?_
        refine gl_op (op_rd rfl (rd_pick_t rfl rfl) ?_)
        refine gl_op (op_rd rfl (rd_assign rfl) ?_)
        refine gl_nil ?_
        refine gx_block ?_
        refine gx_then ?_
        refine gc_region ?_
        refine gl_op (op_rd rfl (rd_move rfl) ?_)
        refine gl_op (op_rd rfl (rd_add rfl rfl (by omega) (by omega)) ?_)
        refine gl_op (op_rd rfl (rd_assign rfl) ?_)
        refine gl_nil ?_
        refine gx_then ?_
        exact gx_cut ((j + 1, sigA (st <<< c.inputs.toNat ||| inn) (nj : Int), true)) ⟨⟨by omega, by rw [all_take_succ _ (by omega : j < g.ins.length), ← ha, hnj, haa]; rfl, by rw [any_take_succ _ (by omega : j < g.ins.length), ← ho, hnj, hoo]; rfl⟩, by simp only; omega⟩ ⟨rfl, rfl, rfl, rfl, rfl, rfl, rfl, rfl, trivial⟩ ⟨[0, 1], by decide, rfl⟩
      · skip
        refine gl_yes rfl rfl (op_rd rfl (rd_move rfl) ?_)
        refine gl_op (op_rd rfl (rd_pick_f rfl rfl) ?_)
        refine gl_op (op_rd rfl (rd_assign rfl) ?_)
        refine gl_nil ?_
        refine gx_block ?_
        refine gx_then ?_
        refine gc_region ?_
        refine gl_op (op_rd rfl (rd_move rfl) ?_)
        refine gl_op (op_rd rfl (rd_add rfl rfl (by omega) (by omega)) ?_)
        refine gl_op (op_rd rfl (rd_assign rfl) ?_)
        refine gl_nil ?_
        refine gx_then ?_
        exact gx_cut ((j + 1, sigA (st <<< c.inputs.toNat ||| inn) (nj : Int), sigA (st <<< c.inputs.toNat ||| inn) (nj : Int))) ⟨⟨by omega, by rw [all_take_succ _ (by omega : j < g.ins.length), ← ha, hnj, haa]; rfl, by rw [any_take_succ _ (by omega : j < g.ins.length), ← ho, hnj, hoo]; rfl⟩, by simp only; omega⟩ ⟨rfl, rfl, rfl, rfl, rfl, rfl, rfl, rfl, trivial⟩ ⟨[0, 1], by decide, rfl⟩
    · skip
      refine gl_no rfl rfl rfl ?_
      refine gl_op (op_rd rfl (rd_pick_f rfl rfl) ?_)
      refine gl_op (op_rd rfl (rd_assign rfl) ?_)
      refine gl_nil ?_
      refine gx_then ?_
      refine gc_region ?_
      refine gl_op (op_rd rfl (rd_move rfl) ?_)
      refine gl_op (op_rd rfl (rd_move rfl) ?_)
      refine gk_bool (fun hoo => ?_) (fun hoo => ?_)
      · skip
        refine gl_no rfl rfl rfl ?_
        refine gl_op (op_rd rfl (rd_pick_t rfl rfl) ?_)
        refine gl_op (op_rd rfl (rd_assign rfl) ?_)
        refine gl_nil ?_
        refine gx_block ?_
        refine gx_then ?_
        refine gc_region ?_
        refine gl_op (op_rd rfl (rd_move rfl) ?_)
        refine gl_op (op_rd rfl (rd_add rfl rfl (by omega) (by omega)) ?_)
        refine gl_op (op_rd rfl (rd_assign rfl) ?_)
        refine gl_nil ?_
        refine gx_then ?_
        exact gx_cut ((j + 1, false, true)) ⟨⟨by omega, by rw [all_take_succ _ (by omega : j < g.ins.length), ← ha, hnj, haa]; rfl, by rw [any_take_succ _ (by omega : j < g.ins.length), ← ho, hnj, hoo]; rfl⟩, by simp only; omega⟩ ⟨rfl, rfl, rfl, rfl, rfl, rfl, rfl, rfl, trivial⟩ ⟨[0, 1], by decide, rfl⟩
      · skip
        refine gl_yes rfl rfl (op_rd rfl (rd_move rfl) ?_)
        refine gl_op (op_rd rfl (rd_pick_f rfl rfl) ?_)
        refine gl_op (op_rd rfl (rd_assign rfl) ?_)
        refine gl_nil ?_
        refine gx_block ?_
        refine gx_then ?_
        refine gc_region ?_
        refine gl_op (op_rd rfl (rd_move rfl) ?_)
        refine gl_op (op_rd rfl (rd_add rfl rfl (by omega) (by omega)) ?_)
        refine gl_op (op_rd rfl (rd_assign rfl) ?_)
        refine gl_nil ?_
        refine gx_then ?_
        exact gx_cut ((j + 1, false, sigA (st <<< c.inputs.toNat ||| inn) (nj : Int))) ⟨⟨by omega, by rw [all_take_succ _ (by omega : j < g.ins.length), ← ha, hnj, haa]; rfl, by rw [any_take_succ _ (by omega : j < g.ins.length), ← ho, hnj, hoo]; rfl⟩, by simp only; omega⟩ ⟨rfl, rfl, rfl, rfl, rfl, rfl, rfl, rfl, trivial⟩ ⟨[0, 1], by decide, rfl⟩
  · skip
    have hje : j = g.ins.length := by omega
    subst hje
    rw [List.take_length] at ha ho
    have ha0 := ha.symm
    have ho0 := ho.symm
    have hgn0 := hgi _ (mem_getD (d := 0) (show 0 < g.ins.length by omega))
    obtain ⟨n0, hn0⟩ : ∃ n : Nat, g.ins.getD 0 0 = n := ⟨(g.ins.getD 0 0).toNat, by omega⟩
    refine gl_nil ?_
    refine gx_then ?_
    refine gc_cond_f rfl ?_
    refine gc_exit ?_
    refine gx_then_exit ?_
    refine gx_then_exit ?_
    refine gx_block_exit ?_
    refine gx_then ?_
    refine gc_seq ?_
    refine gc_drawP [0, 1] true 8 rfl ?_
    refine ga_first 0 #[true, false, false, false, false, false, false, false, false] rfl rfl rfl rfl (by kernel_rfl) rfl ⟨[0, 1], by decide, rfl⟩ (qt_rd (rd_loadAgg Try.underlying25 rfl ty_25 rfl (by first | exact cs_blk 0 (off := 0) (k := 3) rfl rfl | exact cs_blk 1 (off := 0) (k := 3) rfl rfl | exact cs_old (by assumption) (by simp)) rfl)) ?_
    refine ga_first 1 #[true, true, false, false, false, false, false, false, false] rfl rfl rfl rfl (by kernel_rfl) rfl ⟨[0, 1], by decide, rfl⟩ (qt_rd (rd_fieldAddr rfl (fa_48_1 _))) ?_
    refine ga_first 2 #[true, true, true, false, false, false, false, false, false] rfl rfl rfl rfl (by kernel_rfl) rfl ⟨[0, 1], by decide, rfl⟩ (qt_rd (rd_load Try.underlying23 rfl rfl (by first | exact ld_blk 0 rfl rfl | exact ld_blk 1 rfl rfl | exact ld_old (by assumption) (by simp)))) ?_
    refine ga_first 3 #[true, true, true, true, false, false, false, false, false] rfl rfl rfl rfl (by kernel_rfl) rfl ⟨[0, 1], by decide, rfl⟩ (qt_rd (rd_indexOld1 hins Try.underlying23 ty_3 rfl rfl (by omega) (by omega))) ?_
    refine ga_first 4 #[true, true, true, true, true, false, false, false, false] rfl rfl rfl rfl (by kernel_rfl) rfl ⟨[0, 1], by decide, rfl⟩ (qt_rd (rd_load Try.underlying3 rfl rfl (ld_sl hins (get_ints (k := (0 : Int).toNat) (by have : (0 : Int).toNat = 0 := rfl; omega))))) ?_
    try simp only [show g.ins.getD (0 : Int).toNat 0 = (n0 : Int) from hn0]
    refine ga_first 5 #[true, true, true, true, true, true, false, false, false] rfl rfl rfl rfl (by kernel_rfl) rfl ⟨[0, 1], by decide, rfl⟩ (qt_rd (rd_move rfl)) ?_
    refine ga_first 6 #[true, true, true, true, true, true, true, false, false] rfl rfl rfl rfl (by kernel_rfl) rfl ⟨[0, 1], by decide, rfl⟩ (qt_rd (rd_move rfl)) ?_
    refine ga_first 7 #[true, true, true, true, true, true, true, true, false] rfl rfl rfl rfl (by kernel_rfl) rfl ⟨[0, 1], by decide, rfl⟩ (qt_call (vf := []) (vc := []) rfl rfl Try.call76 (fun w ho => signal_ok c n0 st inn w hgd.i0 hgd.i8 (by omega) hst2 hin) (by rintro _ _ ⟨h, _⟩; exact h)) ?_
    refine ga_first 8 #[true, true, true, true, true, true, true, true, true] rfl rfl rfl rfl (by kernel_rfl) rfl ⟨[0, 1], by decide, rfl⟩ (qt_rd (rd_assign rfl)) ?_
    refine ga_end (by kernel_rfl) (.inr ⟨[0, 1], by decide, rfl⟩) ?_
    refine gx_then ?_
    refine gc_seq ?_
    refine gc_seq ?_
    refine gc_region ?_
    refine gl_op (op_rd rfl (rd_fieldAddr rfl (fa_48_0 _)) ?_)
    refine gl_op (op_rd rfl (rd_load Try.underlying3 rfl rfl (by first | exact ld_blk 0 rfl rfl | exact ld_blk 1 rfl rfl | exact ld_old (by assumption) (by simp))) ?_)
    refine gl_nil ?_
    refine gx_then ?_
    refine gc_block ?_
    refine gc_seq ?_
    refine gc_region ?_
    refine gl_op (op_rd rfl (rd_eql rfl rfl) (gk_dec (fun h1 => ?_) (fun h1 => ?_)))
    · skip
      refine gl_op (op_rd rfl (rd_assign rfl) ?_)
      refine gl_nil ?_
      refine gx_then ?_
      refine gc_cond_t rfl ?_
      refine gc_seq ?_
      refine gc_region ?_
      refine gl_op (op_rd rfl (rd_move rfl) ?_)
      refine gl_op (op_rd rfl (rd_assign rfl) ?_)
      refine gl_nil ?_
      refine gx_then ?_
      refine gc_ret ?_
      refine gx_block_ret ?_
      refine gx_then_ret ?_
      refine gx_ret1 (.inl rfl) Try.results75 rfl [] (by decide) ?_
      refine ⟨congrArg Value.bool ?_, rfl⟩
      rw [valueG_and h1, ha0]
    · skip
      refine gl_op (op_rd rfl (rd_assign rfl) ?_)
      refine gl_nil ?_
      refine gx_then ?_
      refine gc_cond_f rfl ?_
      refine gc_seq ?_
      refine gc_region ?_
      refine gl_op (op_rd rfl (rd_eql rfl rfl) (gk_dec (fun h4 => ?_) (fun h4 => ?_)))
      · skip
        refine gl_op (op_rd rfl (rd_assign rfl) ?_)
        refine gl_nil ?_
        refine gx_then ?_
        refine gc_cond_t rfl ?_
        refine gc_seq ?_
        refine gc_region ?_
        refine gl_op (op_rd rfl (rd_move rfl) ?_)
        refine gl_op (op_rd rfl (rd_not rfl) ?_)
        refine gl_op (op_rd rfl (rd_assign rfl) ?_)
        refine gl_nil ?_
        refine gx_then ?_
        refine gc_ret ?_
        refine gx_block_ret ?_
        refine gx_then_ret ?_
        refine gx_ret1 (.inl rfl) Try.results75 rfl [] (by decide) ?_
        refine ⟨congrArg Value.bool ?_, rfl⟩
        rw [valueG_and2 h4, ha0]
      · skip
        refine gl_op (op_rd rfl (rd_assign rfl) ?_)
        refine gl_nil ?_
        refine gx_then ?_
        refine gc_cond_f rfl ?_
        refine gc_seq ?_
        refine gc_region ?_
        refine gl_op (op_rd rfl (rd_eql rfl rfl) (gk_dec (fun h2 => ?_) (fun h2 => ?_)))
        · skip
          refine gl_op (op_rd rfl (rd_assign rfl) ?_)
          refine gl_nil ?_
          refine gx_then ?_
          refine gc_cond_t rfl ?_
          refine gc_seq ?_
          refine gc_region ?_
          refine gl_op (op_rd rfl (rd_move rfl) ?_)
          refine gl_op (op_rd rfl (rd_assign rfl) ?_)
          refine gl_nil ?_
          refine gx_then ?_
          refine gc_ret ?_
          refine gx_block_ret ?_
          refine gx_then_ret ?_
          refine gx_ret1 (.inl rfl) Try.results75 rfl [] (by decide) ?_
          refine ⟨congrArg Value.bool ?_, rfl⟩
          rw [valueG_or h2, ho0]
        · skip
          refine gl_op (op_rd rfl (rd_assign rfl) ?_)
          refine gl_nil ?_
          refine gx_then ?_
          refine gc_cond_f rfl ?_
          refine gc_seq ?_
          refine gc_region ?_
          refine gl_op (op_rd rfl (rd_eql rfl rfl) (gk_dec (fun h5 => ?_) (fun h5 => ?_)))
          · skip
            refine gl_op (op_rd rfl (rd_assign rfl) ?_)
            refine gl_nil ?_
            refine gx_then ?_
            refine gc_cond_t rfl ?_
            refine gc_seq ?_
            refine gc_region ?_
            refine gl_op (op_rd rfl (rd_move rfl) ?_)
            refine gl_op (op_rd rfl (rd_not rfl) ?_)
            refine gl_op (op_rd rfl (rd_assign rfl) ?_)
            refine gl_nil ?_
            refine gx_then ?_
            refine gc_ret ?_
            refine gx_block_ret ?_
            refine gx_then_ret ?_
            refine gx_ret1 (.inl rfl) Try.results75 rfl [] (by decide) ?_
            refine ⟨congrArg Value.bool ?_, rfl⟩
            rw [valueG_or2 h5, ho0]
          · skip
            refine gl_op (op_rd rfl (rd_assign rfl) ?_)
            refine gl_nil ?_
            refine gx_then ?_
            refine gc_cond_f rfl ?_
            refine gc_seq ?_
            refine gc_region ?_
            refine gl_op (op_rd rfl (rd_eql rfl rfl) (gk_dec (fun h3 => ?_) (fun h3 => ?_)))
            · skip
              refine gl_op (op_rd rfl (rd_assign rfl) ?_)
              refine gl_nil ?_
              refine gx_then ?_
              refine gc_cond_t rfl ?_
              refine gc_seq ?_
              refine gc_region ?_
              refine gl_op (op_rd rfl (rd_move rfl) ?_)
              refine gl_op (op_rd rfl (rd_not rfl) ?_)
              refine gl_op (op_rd rfl (rd_assign rfl) ?_)
              refine gl_nil ?_
              refine gx_then ?_
              refine gc_ret ?_
              refine gx_block_ret ?_
              refine gx_then_ret ?_
              refine gx_ret1 (.inl rfl) Try.results75 rfl [] (by decide) ?_
              refine ⟨congrArg Value.bool ?_, rfl⟩
              rw [valueG_not1 h3, ← hn0]
            · skip
              refine gl_op (op_rd rfl (rd_assign rfl) ?_)
              refine gl_nil ?_
              refine gx_then ?_
              refine gc_cond_f rfl ?_
              refine gc_seq ?_
              refine gc_region ?_
              refine gl_op (op_rd rfl (rd_eql rfl rfl) (gk_dec (fun h6 => ?_) (fun h6 => ?_)))
              · skip
                have h2i := sigs_xor hsig h6
                have hgn1 := hgi _ (mem_getD (d := 0) (show 1 < g.ins.length by omega))
                obtain ⟨n1, hn1⟩ : ∃ n : Nat, g.ins.getD 1 0 = n := ⟨(g.ins.getD 1 0).toNat, by omega⟩
                refine gl_op (op_rd rfl (rd_assign rfl) ?_)
                refine gl_nil ?_
                refine gx_then ?_
                refine gc_cond_t rfl ?_
                refine gc_seq ?_
                refine gc_drawP [0, 1] true 10 rfl ?_
                refine ga_first 0 #[true, false, false, false, false, false, false, false, false, false, false] rfl rfl rfl rfl (by kernel_rfl) rfl ⟨[0, 1], by decide, rfl⟩ (qt_rd (rd_move rfl)) ?_
                refine ga_first 1 #[true, true, false, false, false, false, false, false, false, false, false] rfl rfl rfl rfl (by kernel_rfl) rfl ⟨[0, 1], by decide, rfl⟩ (qt_rd (rd_loadAgg Try.underlying25 rfl ty_25 rfl (by first | exact cs_blk 0 (off := 0) (k := 3) rfl rfl | exact cs_blk 1 (off := 0) (k := 3) rfl rfl | exact cs_old (by assumption) (by simp)) rfl)) ?_
                refine ga_first 2 #[true, true, true, false, false, false, false, false, false, false, false] rfl rfl rfl rfl (by kernel_rfl) rfl ⟨[0, 1], by decide, rfl⟩ (qt_rd (rd_fieldAddr rfl (fa_48_1 _))) ?_
                refine ga_first 3 #[true, true, true, true, false, false, false, false, false, false, false] rfl rfl rfl rfl (by kernel_rfl) rfl ⟨[0, 1], by decide, rfl⟩ (qt_rd (rd_load Try.underlying23 rfl rfl (by first | exact ld_blk 0 rfl rfl | exact ld_blk 1 rfl rfl | exact ld_old (by assumption) (by simp)))) ?_
                refine ga_first 4 #[true, true, true, true, true, false, false, false, false, false, false] rfl rfl rfl rfl (by kernel_rfl) rfl ⟨[0, 1], by decide, rfl⟩ (qt_rd (rd_indexOld1 hins Try.underlying23 ty_3 rfl rfl (by omega) (by omega))) ?_
                refine ga_first 5 #[true, true, true, true, true, true, false, false, false, false, false] rfl rfl rfl rfl (by kernel_rfl) rfl ⟨[0, 1], by decide, rfl⟩ (qt_rd (rd_load Try.underlying3 rfl rfl (ld_sl hins (get_ints (k := (1 : Int).toNat) (by have : (1 : Int).toNat = 1 := rfl; omega))))) ?_
                try simp only [show g.ins.getD (1 : Int).toNat 0 = (n1 : Int) from hn1]
                refine ga_first 6 #[true, true, true, true, true, true, true, false, false, false, false] rfl rfl rfl rfl (by kernel_rfl) rfl ⟨[0, 1], by decide, rfl⟩ (qt_rd (rd_move rfl)) ?_
                refine ga_first 7 #[true, true, true, true, true, true, true, true, false, false, false] rfl rfl rfl rfl (by kernel_rfl) rfl ⟨[0, 1], by decide, rfl⟩ (qt_rd (rd_move rfl)) ?_
                refine ga_first 8 #[true, true, true, true, true, true, true, true, true, false, false] rfl rfl rfl rfl (by kernel_rfl) rfl ⟨[0, 1], by decide, rfl⟩ (qt_call (vf := []) (vc := []) rfl rfl Try.call76 (fun w ho => signal_ok c n1 st inn w hgd.i0 hgd.i8 (by omega) hst2 hin) (by rintro _ _ ⟨h, _⟩; exact h)) ?_
                refine ga_first 9 #[true, true, true, true, true, true, true, true, true, true, false] rfl rfl rfl rfl (by kernel_rfl) rfl ⟨[0, 1], by decide, rfl⟩ (qt_rd (rd_neqb Try.runUnderlying4 rfl rfl)) ?_
                refine ga_first 10 #[true, true, true, true, true, true, true, true, true, true, true] rfl rfl rfl rfl (by kernel_rfl) rfl ⟨[0, 1], by decide, rfl⟩ (qt_rd (rd_assign rfl)) ?_
                refine ga_end (by kernel_rfl) (.inr ⟨[0, 1], by decide, rfl⟩) ?_
                refine gx_then ?_
                refine gc_ret ?_
                refine gx_block_ret ?_
                refine gx_then_ret ?_
                refine gx_ret1 (.inl rfl) Try.results75 rfl [] (by decide) ?_
                refine ⟨congrArg Value.bool ?_, rfl⟩
                rw [valueG_xor1 h6, ← hn0, ← hn1]
              · skip
                have h2i := sigs_hold hsig h1 h2 h3 h4 h5 h6
                have hgn1 := hgi _ (mem_getD (d := 0) (show 1 < g.ins.length by omega))
                obtain ⟨n1, hn1⟩ : ∃ n : Nat, g.ins.getD 1 0 = n := ⟨(g.ins.getD 1 0).toNat, by omega⟩
                refine gl_op (op_rd rfl (rd_assign rfl) ?_)
                refine gl_nil ?_
                refine gx_then ?_
                refine gc_cond_f rfl ?_
                refine gc_skip ?_
                refine gx_block ?_
                refine gx_then ?_
                refine gc_seq ?_
                refine gc_drawP [0, 1] true 20 rfl ?_
                refine ga_first 0 #[true, false, false, false, false, false, false, false, false, false, false, false, false, false, false, false, false, false, false, false, false] rfl rfl rfl rfl (by kernel_rfl) rfl ⟨[0, 1], by decide, rfl⟩ (qt_rd (rd_move rfl)) ?_
                refine ga_first 1 #[true, true, false, false, false, false, false, false, false, false, false, false, false, false, false, false, false, false, false, false, false] rfl rfl rfl rfl (by kernel_rfl) rfl ⟨[0, 1], by decide, rfl⟩ (qt_rd (rd_move rfl)) ?_
                refine gk_bool (fun hf => ?_) (fun hf => ?_)
                · skip
                  refine ga_firstN 2 #[true, true, true, false, false, false, false, false, false, false, false, false, false, false, false, false, false, false, false, false, false] rfl rfl rfl rfl rfl rfl (by kernel_rfl) rfl ⟨[0, 1], by decide, rfl⟩ ?_
                  refine ga_firstN 3 #[true, true, true, true, false, false, false, false, false, false, false, false, false, false, false, false, false, false, false, false, false] rfl rfl rfl rfl rfl rfl (by kernel_rfl) rfl ⟨[0, 1], by decide, rfl⟩ ?_
                  refine ga_firstN 4 #[true, true, true, true, true, false, false, false, false, false, false, false, false, false, false, false, false, false, false, false, false] rfl rfl rfl rfl rfl rfl (by kernel_rfl) rfl ⟨[0, 1], by decide, rfl⟩ ?_
                  refine ga_firstN 5 #[true, true, true, true, true, true, false, false, false, false, false, false, false, false, false, false, false, false, false, false, false] rfl rfl rfl rfl rfl rfl (by kernel_rfl) rfl ⟨[0, 1], by decide, rfl⟩ ?_
                  refine ga_firstN 6 #[true, true, true, true, true, true, true, false, false, false, false, false, false, false, false, false, false, false, false, false, false] rfl rfl rfl rfl rfl rfl (by kernel_rfl) rfl ⟨[0, 1], by decide, rfl⟩ ?_
                  refine ga_firstN 7 #[true, true, true, true, true, true, true, true, false, false, false, false, false, false, false, false, false, false, false, false, false] rfl rfl rfl rfl rfl rfl (by kernel_rfl) rfl ⟨[0, 1], by decide, rfl⟩ ?_
                  refine ga_firstN 8 #[true, true, true, true, true, true, true, true, true, false, false, false, false, false, false, false, false, false, false, false, false] rfl rfl rfl rfl rfl rfl (by kernel_rfl) rfl ⟨[0, 1], by decide, rfl⟩ ?_
                  refine ga_firstNU 9 #[true, true, true, true, true, true, true, true, true, true, false, false, false, false, false, false, false, false, false, false, false] rfl rfl rfl rfl rfl rfl (by kernel_rfl) rfl ⟨[0, 1], by decide, rfl⟩ ?_
                  refine ga_firstNU 10 #[true, true, true, true, true, true, true, true, true, true, true, false, false, false, false, false, false, false, false, false, false] rfl rfl rfl rfl rfl rfl (by kernel_rfl) rfl ⟨[0, 1], by decide, rfl⟩ ?_
                  refine ga_firstNU 11 #[true, true, true, true, true, true, true, true, true, true, true, true, false, false, false, false, false, false, false, false, false] rfl rfl rfl rfl rfl rfl (by kernel_rfl) rfl ⟨[0, 1], by decide, rfl⟩ ?_
                  refine ga_firstNU 12 #[true, true, true, true, true, true, true, true, true, true, true, true, true, false, false, false, false, false, false, false, false] rfl rfl rfl rfl rfl rfl (by kernel_rfl) rfl ⟨[0, 1], by decide, rfl⟩ ?_
                  refine ga_firstNU 13 #[true, true, true, true, true, true, true, true, true, true, true, true, true, true, false, false, false, false, false, false, false] rfl rfl rfl rfl rfl rfl (by kernel_rfl) rfl ⟨[0, 1], by decide, rfl⟩ ?_
                  refine ga_firstNU 14 #[true, true, true, true, true, true, true, true, true, true, true, true, true, true, true, false, false, false, false, false, false] rfl rfl rfl rfl rfl rfl (by kernel_rfl) rfl ⟨[0, 1], by decide, rfl⟩ ?_
                  refine ga_firstNU 15 #[true, true, true, true, true, true, true, true, true, true, true, true, true, true, true, true, false, false, false, false, false] rfl rfl rfl rfl rfl rfl (by kernel_rfl) rfl ⟨[0, 1], by decide, rfl⟩ ?_
                  refine ga_firstNU 16 #[true, true, true, true, true, true, true, true, true, true, true, true, true, true, true, true, true, false, false, false, false] rfl rfl rfl rfl rfl rfl (by kernel_rfl) rfl ⟨[0, 1], by decide, rfl⟩ ?_
                  refine ga_firstNU 17 #[true, true, true, true, true, true, true, true, true, true, true, true, true, true, true, true, true, true, false, false, false] rfl rfl rfl rfl rfl rfl (by kernel_rfl) rfl ⟨[0, 1], by decide, rfl⟩ ?_
                  refine ga_firstN 18 #[true, true, true, true, true, true, true, true, true, true, true, true, true, true, true, true, true, true, true, false, false] rfl rfl rfl rfl rfl rfl (by kernel_rfl) rfl ⟨[0, 1], by decide, rfl⟩ ?_
                  refine ga_first 19 #[true, true, true, true, true, true, true, true, true, true, true, true, true, true, true, true, true, true, true, true, false] rfl rfl rfl rfl (by kernel_rfl) rfl ⟨[0, 1], by decide, rfl⟩ (qt_rd (rd_pick_t rfl rfl)) ?_
                  refine ga_first 20 #[true, true, true, true, true, true, true, true, true, true, true, true, true, true, true, true, true, true, true, true, true] rfl rfl rfl rfl (by kernel_rfl) rfl ⟨[0, 1], by decide, rfl⟩ (qt_rd (rd_assign rfl)) ?_
                  refine ga_end (by kernel_rfl) (.inr ⟨[0, 1], by decide, rfl⟩) ?_
                  refine gx_then ?_
                  refine gc_ret ?_
                  refine gx_ret1 (.inl rfl) Try.results75 rfl [] (by decide) ?_
                  refine ⟨congrArg Value.bool ?_, rfl⟩
                  rw [valueG_hold h1 h2 h3 h4 h5 h6, hn0, hf]; rfl
                · skip
                  refine ga_firstY 2 #[true, true, true, false, false, false, false, false, false, false, false, false, false, false, false, false, false, false, false, false, false] rfl rfl rfl rfl rfl rfl (by kernel_rfl) rfl ⟨[0, 1], by decide, rfl⟩ (qt_rd (rd_move rfl)) ?_
                  refine ga_firstY 3 #[true, true, true, true, false, false, false, false, false, false, false, false, false, false, false, false, false, false, false, false, false] rfl rfl rfl rfl rfl rfl (by kernel_rfl) rfl ⟨[0, 1], by decide, rfl⟩ (qt_rd (rd_move rfl)) ?_
                  refine ga_firstY 4 #[true, true, true, true, true, false, false, false, false, false, false, false, false, false, false, false, false, false, false, false, false] rfl rfl rfl rfl rfl rfl (by kernel_rfl) rfl ⟨[0, 1], by decide, rfl⟩ (qt_rd (rd_conv Try.runUnderlying3 Try.runUnderlying58 rfl (wrap_u64_nat (by omega)))) ?_
                  refine ga_firstY 5 #[true, true, true, true, true, true, false, false, false, false, false, false, false, false, false, false, false, false, false, false, false] rfl rfl rfl rfl rfl rfl (by kernel_rfl) rfl ⟨[0, 1], by decide, rfl⟩ (qt_rd (rd_shr rfl rfl (by omega))) ?_
                  have hsrs := Nat.shiftRight_le st k
                  refine ga_firstY 6 #[true, true, true, true, true, true, true, false, false, false, false, false, false, false, false, false, false, false, false, false, false] rfl rfl rfl rfl rfl rfl (by kernel_rfl) rfl ⟨[0, 1], by decide, rfl⟩ (qt_rd (rd_rem rfl rfl (by first | exact Int.natCast_nonneg _ | omega) (by omega))) ?_
                  refine ga_firstY 7 #[true, true, true, true, true, true, true, true, false, false, false, false, false, false, false, false, false, false, false, false, false] rfl rfl rfl rfl rfl rfl (by kernel_rfl) rfl ⟨[0, 1], by decide, rfl⟩ (qt_rd (rd_eql rfl rfl)) (gk_dec (fun hself => ?_) (fun hself => ?_))
                  · skip
                    refine ga_firstY 8 #[true, true, true, true, true, true, true, true, true, false, false, false, false, false, false, false, false, false, false, false, false] rfl rfl rfl rfl rfl rfl (by kernel_rfl) rfl ⟨[0, 1], by decide, rfl⟩ (qt_rd (rd_move rfl)) ?_
                    refine ga_firstY 9 #[true, true, true, true, true, true, true, true, true, true, false, false, false, false, false, false, false, false, false, false, false] rfl rfl rfl rfl rfl rfl (by kernel_rfl) rfl ⟨[0, 1], by decide, rfl⟩ (qt_rd (rd_loadAgg Try.underlying25 rfl ty_25 rfl (by first | exact cs_blk 0 (off := 0) (k := 3) rfl rfl | exact cs_blk 1 (off := 0) (k := 3) rfl rfl | exact cs_old (by assumption) (by simp)) rfl)) ?_
                    refine ga_firstY 10 #[true, true, true, true, true, true, true, true, true, true, true, false, false, false, false, false, false, false, false, false, false] rfl rfl rfl rfl rfl rfl (by kernel_rfl) rfl ⟨[0, 1], by decide, rfl⟩ (qt_rd (rd_fieldAddr rfl (fa_48_1 _))) ?_
                    refine ga_firstY 11 #[true, true, true, true, true, true, true, true, true, true, true, true, false, false, false, false, false, false, false, false, false] rfl rfl rfl rfl rfl rfl (by kernel_rfl) rfl ⟨[0, 1], by decide, rfl⟩ (qt_rd (rd_load Try.underlying23 rfl rfl (by first | exact ld_blk 0 rfl rfl | exact ld_blk 1 rfl rfl | exact ld_old (by assumption) (by simp)))) ?_
                    refine ga_firstY 12 #[true, true, true, true, true, true, true, true, true, true, true, true, true, false, false, false, false, false, false, false, false] rfl rfl rfl rfl rfl rfl (by kernel_rfl) rfl ⟨[0, 1], by decide, rfl⟩ (qt_rd (rd_indexOld1 hins Try.underlying23 ty_3 rfl rfl (by omega) (by omega))) ?_
                    refine ga_firstY 13 #[true, true, true, true, true, true, true, true, true, true, true, true, true, true, false, false, false, false, false, false, false] rfl rfl rfl rfl rfl rfl (by kernel_rfl) rfl ⟨[0, 1], by decide, rfl⟩ (qt_rd (rd_load Try.underlying3 rfl rfl (ld_sl hins (get_ints (k := (1 : Int).toNat) (by have : (1 : Int).toNat = 1 := rfl; omega))))) ?_
                    try simp only [show g.ins.getD (1 : Int).toNat 0 = (n1 : Int) from hn1]
                    refine ga_firstY 14 #[true, true, true, true, true, true, true, true, true, true, true, true, true, true, true, false, false, false, false, false, false] rfl rfl rfl rfl rfl rfl (by kernel_rfl) rfl ⟨[0, 1], by decide, rfl⟩ (qt_rd (rd_move rfl)) ?_
                    refine ga_firstY 15 #[true, true, true, true, true, true, true, true, true, true, true, true, true, true, true, true, false, false, false, false, false] rfl rfl rfl rfl rfl rfl (by kernel_rfl) rfl ⟨[0, 1], by decide, rfl⟩ (qt_rd (rd_move rfl)) ?_
                    refine ga_firstY 16 #[true, true, true, true, true, true, true, true, true, true, true, true, true, true, true, true, true, false, false, false, false] rfl rfl rfl rfl rfl rfl (by kernel_rfl) rfl ⟨[0, 1], by decide, rfl⟩ (qt_call (vf := []) (vc := []) rfl rfl Try.call76 (fun w ho => signal_ok c n1 st inn w hgd.i0 hgd.i8 (by omega) hst2 hin) (by rintro _ _ ⟨h, _⟩; exact h)) ?_
                    refine ga_firstY 17 #[true, true, true, true, true, true, true, true, true, true, true, true, true, true, true, true, true, true, false, false, false] rfl rfl rfl rfl rfl rfl (by kernel_rfl) rfl ⟨[0, 1], by decide, rfl⟩ (qt_rd (rd_not rfl)) ?_
                    refine ga_firstY 18 #[true, true, true, true, true, true, true, true, true, true, true, true, true, true, true, true, true, true, true, false, false] rfl rfl rfl rfl rfl rfl (by kernel_rfl) rfl ⟨[0, 1], by decide, rfl⟩ (qt_rd (rd_pick_t rfl rfl)) ?_
                    refine ga_first 19 #[true, true, true, true, true, true, true, true, true, true, true, true, true, true, true, true, true, true, true, true, false] rfl rfl rfl rfl (by kernel_rfl) rfl ⟨[0, 1], by decide, rfl⟩ (qt_rd (rd_pick_f rfl rfl)) ?_
                    refine ga_first 20 #[true, true, true, true, true, true, true, true, true, true, true, true, true, true, true, true, true, true, true, true, true] rfl rfl rfl rfl (by kernel_rfl) rfl ⟨[0, 1], by decide, rfl⟩ (qt_rd (rd_assign rfl)) ?_
                    refine ga_end (by kernel_rfl) (.inr ⟨[0, 1], by decide, rfl⟩) ?_
                    refine gx_then ?_
                    refine gc_ret ?_
                    refine gx_ret1 (.inl rfl) Try.results75 rfl [] (by decide) ?_
                    refine ⟨congrArg Value.bool ?_, rfl⟩
                    rw [valueG_hold h1 h2 h3 h4 h5 h6, hn0, hf, ← dec_mod, decide_eq_true hself, ← hn1]; rfl
                  · skip
                    refine ga_firstY 8 #[true, true, true, true, true, true, true, true, true, false, false, false, false, false, false, false, false, false, false, false, false] rfl rfl rfl rfl rfl rfl (by kernel_rfl) rfl ⟨[0, 1], by decide, rfl⟩ (qt_rd (rd_move rfl)) ?_
                    refine ga_firstN 9 #[true, true, true, true, true, true, true, true, true, true, false, false, false, false, false, false, false, false, false, false, false] rfl rfl rfl rfl rfl rfl (by kernel_rfl) rfl ⟨[0, 1], by decide, rfl⟩ ?_
                    refine ga_firstN 10 #[true, true, true, true, true, true, true, true, true, true, true, false, false, false, false, false, false, false, false, false, false] rfl rfl rfl rfl rfl rfl (by kernel_rfl) rfl ⟨[0, 1], by decide, rfl⟩ ?_
                    refine ga_firstN 11 #[true, true, true, true, true, true, true, true, true, true, true, true, false, false, false, false, false, false, false, false, false] rfl rfl rfl rfl rfl rfl (by kernel_rfl) rfl ⟨[0, 1], by decide, rfl⟩ ?_
                    refine ga_firstN 12 #[true, true, true, true, true, true, true, true, true, true, true, true, true, false, false, false, false, false, false, false, false] rfl rfl rfl rfl rfl rfl (by kernel_rfl) rfl ⟨[0, 1], by decide, rfl⟩ ?_
                    refine ga_firstN 13 #[true, true, true, true, true, true, true, true, true, true, true, true, true, true, false, false, false, false, false, false, false] rfl rfl rfl rfl rfl rfl (by kernel_rfl) rfl ⟨[0, 1], by decide, rfl⟩ ?_
                    refine ga_firstN 14 #[true, true, true, true, true, true, true, true, true, true, true, true, true, true, true, false, false, false, false, false, false] rfl rfl rfl rfl rfl rfl (by kernel_rfl) rfl ⟨[0, 1], by decide, rfl⟩ ?_
                    refine ga_firstN 15 #[true, true, true, true, true, true, true, true, true, true, true, true, true, true, true, true, false, false, false, false, false] rfl rfl rfl rfl rfl rfl (by kernel_rfl) rfl ⟨[0, 1], by decide, rfl⟩ ?_
                    refine ga_firstN 16 #[true, true, true, true, true, true, true, true, true, true, true, true, true, true, true, true, true, false, false, false, false] rfl rfl rfl rfl rfl rfl (by kernel_rfl) rfl ⟨[0, 1], by decide, rfl⟩ ?_
                    refine ga_firstN 17 #[true, true, true, true, true, true, true, true, true, true, true, true, true, true, true, true, true, true, false, false, false] rfl rfl rfl rfl rfl rfl (by kernel_rfl) rfl ⟨[0, 1], by decide, rfl⟩ ?_
                    refine ga_firstY 18 #[true, true, true, true, true, true, true, true, true, true, true, true, true, true, true, true, true, true, true, false, false] rfl rfl rfl rfl rfl rfl (by kernel_rfl) rfl ⟨[0, 1], by decide, rfl⟩ (qt_rd (rd_pick_f rfl rfl)) ?_
                    refine ga_first 19 #[true, true, true, true, true, true, true, true, true, true, true, true, true, true, true, true, true, true, true, true, false] rfl rfl rfl rfl (by kernel_rfl) rfl ⟨[0, 1], by decide, rfl⟩ (qt_rd (rd_pick_f rfl rfl)) ?_
                    refine ga_first 20 #[true, true, true, true, true, true, true, true, true, true, true, true, true, true, true, true, true, true, true, true, true] rfl rfl rfl rfl (by kernel_rfl) rfl ⟨[0, 1], by decide, rfl⟩ (qt_rd (rd_assign rfl)) ?_
                    refine ga_end (by kernel_rfl) (.inr ⟨[0, 1], by decide, rfl⟩) ?_
                    refine gx_then ?_
                    refine gc_ret ?_
                    refine gx_ret1 (.inl rfl) Try.results75 rfl [] (by decide) ?_
                    refine ⟨congrArg Value.bool ?_, rfl⟩
                    rw [valueG_hold h1 h2 h3 h4 h5 h6, hn0, hf, ← dec_mod, decide_eq_false hself]; rfl

end Go.Proofs.Yteocjpnckciboaa

set_option autoImplicit false
set_option linter.unusedVariables false
namespace Go.Proofs.Yteocjpnckciboaa
open Go.Gv
open Go.RowKit
open Ry
set_option maxRecDepth 100000 in
set_option maxHeartbeats 1000000 in
theorem rnext_ok (c : Circ) (st inn : Nat) (w0 : World) (hc : c.In w0 []) (hgd : c.Good) (hst : st < 2 ^ c.gates.length) (hin : inn < 2 ^ c.inputs.toNat) : Sp Try.prog 49 [c.val, natV st, natV inn] w0 [] (fun v l => ∃ r cp, v = .slice (rowA r) (nextL c st inn).length cp ∧ l = [.row 3 1 r (nextL c st inn).length cp ((nextL c st inn).map natV)]) := by
  have hst2 := st_lt hgd hst
  have hin2 := in_lt hgd hin
  have hg12 := hgd.g12
  refine spec_enter Try.func49 rfl Try.ntmps49 rfl (Own.refl _) ?_
  simp only [argEnv]
  refine gc_seq ?_
  refine gc_region ?_
  refine gl_op (op_box rfl rfl rfl (fun b3 => ?_))
  refine gl_op (op_rd rfl (rd_assign rfl) ?_)
  refine gl_nil ?_
  refine gx_then ?_
  refine gc_seq ?_
  refine gc_region ?_
  refine gl_op (op_rd rfl (rd_assign rfl) ?_)
  refine gl_nil ?_
  refine gx_then ?_
  refine gc_seq ?_
  refine gc_seq ?_
  refine gc_region ?_
  refine gl_op (op_rd rfl (rd_assign rfl) ?_)
  refine gl_nil ?_
  refine gx_then ?_
  refine gc_block ?_
  refine gk_nil 3 1 ?_
  refine gc_loop (ι := Nat × Option Nat × Nat × Nat × List Value) (fun j => j.1 ≤ c.gates.length ∧ j.2.2.1 = ((List.range j.1).filter (restless c st inn)).length ∧ j.2.2.2.2 = ((List.range j.1).filter (restless c st inn)).map natV) (fun j => [(1, natV st), (2, natV inn), (3, .pointer (some ⟨b3, 0, none⟩)), (7, .slice (rowA j.2.1) j.2.2.1 j.2.2.2.1), (8, natV j.1)]) (fun j => [.row 3 1 j.2.1 j.2.2.1 j.2.2.2.1 j.2.2.2.2, .blk b3 c.cells 25]) (fun j => c.gates.length - j.1) (0, none, 0, 0, []) (⟨Nat.zero_le _, rfl, rfl⟩) ⟨rfl, rfl, rfl, rfl, rfl, trivial⟩ ⟨[0, 1], by decide, rfl⟩ ?_
  rintro ⟨k, r, nn, cp, cs⟩ ⟨hk, hn, hcs⟩
  simp only at hk hn hcs ⊢
  have hln : nn ≤ k := by rw [hn]; exact filter_range_le _ _
  refine gc_seq ?_
  refine gc_seq ?_
  refine gc_region ?_
  refine gl_op (op_rd rfl (rd_move rfl) ?_)
  refine gl_op (op_rd rfl (rd_fieldAddr rfl (fa_25_1 _)) ?_)
  refine gl_op (op_rd rfl (rd_load Try.underlying22 rfl rfl (by first | exact ld_blk 1 rfl rfl | exact ld_old (by assumption) (by simp))) ?_)
  refine gl_op (op_rd rfl (rd_lenSlice Try.underlying22 rfl) ?_)
  refine gl_op (op_rd rfl (rd_lss rfl rfl) (gk_dec (fun hlt => ?_) (fun hlt => ?_)))
  · skip
    have hkl : k < c.gates.length := by omega
    have hgk : c.gates[k]? = some c.gates[k] := List.getElem?_eq_getElem hkl
    refine gl_nil ?_
    refine gx_then ?_
    refine gc_cond_t rfl ?_
    refine gc_skip ?_
    refine gx_then ?_
    refine gc_seq ?_
    refine gc_block ?_
    refine gc_seq ?_
    refine gc_region ?_
    refine gl_op (op_rd rfl (rd_loadAgg Try.underlying25 rfl ty_25 rfl (by first | exact cs_blk 1 (off := 0) (k := 3) rfl rfl | exact cs_old (by assumption) (by simp)) rfl) ?_)
    refine gl_op (op_rd rfl (rd_move rfl) ?_)
    refine gl_op (op_rd rfl (rd_move rfl) ?_)
    refine gl_op (op_rd rfl (rd_move rfl) ?_)
    refine gl_op (op_call rfl (vf := []) (vc := []) rfl rfl Try.call75 (fun w ho => rvalue_ok c k st inn _ w (hc.at ho) hgd hst hin hgk) ?_)
    rintro _ _ ⟨rfl, rfl⟩
    refine gl_op (op_rd rfl (rd_move rfl) ?_)
    refine gl_op (op_rd rfl (rd_move rfl) ?_)
    refine gl_op (op_rd rfl (rd_conv Try.runUnderlying3 Try.runUnderlying58 rfl (wrap_u64_nat (by omega))) ?_)
    refine gl_op (op_rd rfl (rd_shr rfl rfl (by omega)) ?_)
    have hsrs := Nat.shiftRight_le st k
    refine gl_op (op_rd rfl (rd_rem rfl rfl (by first | exact Int.natCast_nonneg _ | omega) (by omega)) ?_)
    refine gl_op (op_rd rfl (rd_eql rfl rfl) ?_)
    refine gl_op (op_rd rfl (rd_neqb Try.runUnderlying4 rfl rfl) ?_)
    refine gl_nil ?_
    refine gx_then ?_
    refine gc_cond rfl (fun hr0 => ?_) (fun hr0 => ?_)
    · skip
      have hr : restless c st inn k = true := by rw [← hr0]; simp only [restless, valueB_eq hgk, dec_mod]
      refine gc_region ?_
      refine gl_op (op_rd rfl (rd_move rfl) ?_)
      refine gl_op (op_rd rfl (rd_move rfl) ?_)
      refine gl_op (op_buildSlice (sz := 1) rfl rfl (fun _ => bs_23_1_0 _) rfl rfl (fun b30 => ?_))
      refine gl_op (op_appendRow 1 0 Try.underlying23 ty_3 rfl (by decide) rfl rfl rfl rfl rfl (by simp [Value.oneCell']) (by omega) (by omega) (fun _ => (by first | rfl | (simp only [List.set_cons_succ, List.set_cons_zero]; exact rfl))) (fun r31 c31 => ?_))
      refine gl_op (op_rd rfl (rd_assign rfl) ?_)
      refine gl_nil ?_
      refine gx_block ?_
      refine gx_then ?_
      refine gc_region ?_
      refine gl_op (op_rd rfl (rd_move rfl) ?_)
      refine gl_op (op_rd rfl (rd_add rfl rfl (by omega) (by omega)) ?_)
      refine gl_op (op_rd rfl (rd_assign rfl) ?_)
      refine gl_nil ?_
      refine gx_then ?_
      exact gx_cut ((k + 1, r31, nn + 1, c31, cs ++ [natV k])) ⟨⟨by omega, by rw [filter_range_t _ hr, List.length_append, hn]; rfl, by rw [filter_range_t _ hr, List.map_append, hcs]; rfl⟩, by simp only; omega⟩ ⟨rfl, rfl, rfl, rfl, rfl, trivial⟩ ⟨[1, 2], by decide, rfl⟩
    · skip
      have hr : restless c st inn k = false := by rw [← hr0]; simp only [restless, valueB_eq hgk, dec_mod]
      refine gc_skip ?_
      refine gx_block ?_
      refine gx_then ?_
      refine gc_region ?_
      refine gl_op (op_rd rfl (rd_move rfl) ?_)
      refine gl_op (op_rd rfl (rd_add rfl rfl (by omega) (by omega)) ?_)
      refine gl_op (op_rd rfl (rd_assign rfl) ?_)
      refine gl_nil ?_
      refine gx_then ?_
      exact gx_cut ((k + 1, r, nn, cp, cs)) ⟨⟨by omega, by rw [filter_range_f _ hr, hn], by rw [filter_range_f _ hr, hcs]⟩, by simp only; omega⟩ ⟨rfl, rfl, rfl, rfl, rfl, trivial⟩ ⟨[0, 1], by decide, rfl⟩
  · skip
    refine gl_nil ?_
    refine gx_then ?_
    refine gc_cond_f rfl ?_
    refine gc_exit ?_
    refine gx_then_exit ?_
    refine gx_then_exit ?_
    refine gx_block_exit ?_
    refine gx_then ?_
    refine gc_seq ?_
    refine gc_region ?_
    refine gl_op (op_rd rfl (rd_move rfl) ?_)
    refine gl_op (op_rd rfl (rd_assign rfl) ?_)
    refine gl_nil ?_
    refine gx_then ?_
    refine gc_ret ?_
    refine gx_ret1 (.inl rfl) Try.results49 rfl [0] (by decide) ?_
    have hke : k = c.gates.length := by omega
    subst hke
    exact ⟨r, cp, by rw [hn]; rfl, by rw [hn, hcs]; rfl⟩

set_option maxRecDepth 100000 in
set_option maxHeartbeats 1000000 in
theorem ready_ok (c : Circ) (st inn : Int) (w0 : World) (hc : c.In w0 []) (hst : st ≤ 9223372036854775807) (hin : inn ≤ 9223372036854775807) : Sp Try.prog 48 [c.val, .int .i64 st, .int .i64 inn] w0 [] (RV (.int .i64 (c.ready st inn))) := by
  refine spec_enter Try.func48 rfl Try.ntmps48 rfl (Own.refl _) ?_
  simp only [argEnv]
  refine gc_seq ?_
  refine gc_region ?_
  refine gl_op (op_box rfl rfl rfl (fun b3 => ?_))
  refine gl_op (op_rd rfl (rd_assign rfl) ?_)
  refine gl_nil ?_
  refine gx_then ?_
  refine gc_seq ?_
  refine gc_region ?_
  refine gl_op (op_rd rfl (rd_loadAgg Try.underlying25 rfl ty_25 rfl (by first | exact cs_blk 0 (off := 0) (k := 3) rfl rfl | exact cs_old (by assumption) (by simp)) rfl) ?_)
  refine gl_op (op_call rfl (vf := []) (vc := []) rfl rfl Try.call24 (fun w ho => rcheck_ok c w (hc.at ho)) ?_)
  rintro _ _ ⟨rfl, rfl⟩
  refine gl_op (op_rd rfl (rd_assign rfl) ?_)
  refine gl_nil ?_
  refine gx_then ?_
  refine gc_seq ?_
  refine gc_seq ?_
  refine gc_region ?_
  refine gl_op (op_rd rfl (rd_move rfl) ?_)
  refine gl_op (op_rd rfl (rd_eql rfl rfl) (gk_dec (fun hck => ?_) (fun hck => ?_)))
  · skip
    have hck0 : c.check = 0 := hck
    have hgd := Circ.good hck0
    obtain ⟨ci, hci⟩ : ∃ n : Nat, c.inputs = n := ⟨c.inputs.toNat, by have := hgd.i0; omega⟩
    have hg12 := hgd.g12
    have hci8 : ci ≤ 8 := by have := hgd.i8; omega
    have hp12 := Nat.pow_le_pow_right (n := 2) (by decide) hg12
    have hp8 := Nat.pow_le_pow_right (n := 2) (by decide) hci8
    refine gl_op (op_rd rfl (rd_move rfl) ?_)
    refine gl_yes rfl rfl (op_rd rfl (rd_move rfl) ?_)
    refine gl_yes rfl rfl (op_rd rfl (rd_lss rfl rfl) (gk_dec (fun hs0 => ?_) (fun hs0 => ?_)))
    · skip
      refine gl_yes rfl rfl (op_rd rfl (rd_move rfl) ?_)
      refine gl_no rfl rfl rfl ?_
      refine gl_no rfl rfl rfl ?_
      refine gl_no rfl rfl rfl ?_
      refine gl_no rfl rfl rfl ?_
      refine gl_no rfl rfl rfl ?_
      refine gl_no rfl rfl rfl ?_
      refine gl_no rfl rfl rfl ?_
      refine gl_yes rfl rfl (op_rd rfl (rd_pick_t rfl rfl) ?_)
      refine gl_yes rfl rfl (op_rd rfl (rd_move rfl) ?_)
      refine gl_no rfl rfl rfl ?_
      refine gl_no rfl rfl rfl ?_
      refine gl_yes rfl rfl (op_rd rfl (rd_pick_t rfl rfl) ?_)
      refine gl_yes rfl rfl (op_rd rfl (rd_move rfl) ?_)
      refine gl_no rfl rfl rfl ?_
      refine gl_no rfl rfl rfl ?_
      refine gl_no rfl rfl rfl ?_
      refine gl_no rfl rfl rfl ?_
      refine gl_no rfl rfl rfl ?_
      refine gl_no rfl rfl rfl ?_
      refine gl_yes rfl rfl (op_rd rfl (rd_pick_t rfl rfl) ?_)
      refine gl_op (op_rd rfl (rd_pick_t rfl rfl) ?_)
      refine gl_nil ?_
      refine gx_then ?_
      refine gc_cond_t rfl ?_
      refine gc_seq ?_
      refine gc_region ?_
      refine gl_op (op_rd rfl (rd_assign rfl) ?_)
      refine gl_nil ?_
      refine gx_then ?_
      refine gc_ret ?_
      refine gx_then_ret ?_
      refine gx_ret1 (.inl rfl) Try.results48 rfl [] (by decide) ?_
      exact ⟨congrArg (Value.int .i64) (Circ.ready_7 hck0 (.inl hs0)).symm, rfl⟩
    · skip
      refine gl_yes rfl rfl (op_rd rfl (rd_move rfl) ?_)
      refine gl_yes rfl rfl (op_rd rfl (rd_move rfl) ?_)
      refine gl_yes rfl rfl (op_rd rfl (rd_fieldAddr rfl (fa_25_1 _)) ?_)
      refine gl_yes rfl rfl (op_rd rfl (rd_load Try.underlying22 rfl rfl (by first | exact ld_blk 0 rfl rfl | exact ld_old (by assumption) (by simp))) ?_)
      refine gl_yes rfl rfl (op_rd rfl (rd_lenSlice Try.underlying22 rfl) ?_)
      refine gl_yes rfl rfl (op_rd rfl (rd_conv Try.runUnderlying3 Try.runUnderlying58 rfl (wrap_u64_nat (by omega))) ?_)
      refine gl_yes rfl rfl (op_rd rfl (rd_shl (a := 1) rfl rfl (by omega) (by omega)) ?_)
      refine gl_yes rfl rfl (op_rd rfl (rd_geq rfl rfl) (gk_dec (fun hs1 => ?_) (fun hs1 => ?_)))
      · skip
        refine gl_yes rfl rfl (op_rd rfl (rd_pick_f rfl rfl) ?_)
        refine gl_yes rfl rfl (op_rd rfl (rd_move rfl) ?_)
        refine gl_no rfl rfl rfl ?_
        refine gl_no rfl rfl rfl ?_
        refine gl_yes rfl rfl (op_rd rfl (rd_pick_t rfl rfl) ?_)
        refine gl_yes rfl rfl (op_rd rfl (rd_move rfl) ?_)
        refine gl_no rfl rfl rfl ?_
        refine gl_no rfl rfl rfl ?_
        refine gl_no rfl rfl rfl ?_
        refine gl_no rfl rfl rfl ?_
        refine gl_no rfl rfl rfl ?_
        refine gl_no rfl rfl rfl ?_
        refine gl_yes rfl rfl (op_rd rfl (rd_pick_t rfl rfl) ?_)
        refine gl_op (op_rd rfl (rd_pick_t rfl rfl) ?_)
        refine gl_nil ?_
        refine gx_then ?_
        refine gc_cond_t rfl ?_
        refine gc_seq ?_
        refine gc_region ?_
        refine gl_op (op_rd rfl (rd_assign rfl) ?_)
        refine gl_nil ?_
        refine gx_then ?_
        refine gc_ret ?_
        refine gx_then_ret ?_
        refine gx_ret1 (.inl rfl) Try.results48 rfl [] (by decide) ?_
        exact ⟨congrArg (Value.int .i64) (Circ.ready_7 hck0 (.inr (.inl (pow_le_of hs1)))).symm, rfl⟩
      · skip
        refine gl_yes rfl rfl (op_rd rfl (rd_pick_f rfl rfl) ?_)
        refine gl_yes rfl rfl (op_rd rfl (rd_move rfl) ?_)
        refine gl_yes rfl rfl (op_rd rfl (rd_move rfl) ?_)
        refine gl_yes rfl rfl (op_rd rfl (rd_lss rfl rfl) (gk_dec (fun hi0 => ?_) (fun hi0 => ?_)))
        · skip
          refine gl_yes rfl rfl (op_rd rfl (rd_pick_f rfl rfl) ?_)
          refine gl_yes rfl rfl (op_rd rfl (rd_move rfl) ?_)
          refine gl_no rfl rfl rfl ?_
          refine gl_no rfl rfl rfl ?_
          refine gl_no rfl rfl rfl ?_
          refine gl_no rfl rfl rfl ?_
          refine gl_no rfl rfl rfl ?_
          refine gl_no rfl rfl rfl ?_
          refine gl_yes rfl rfl (op_rd rfl (rd_pick_t rfl rfl) ?_)
          refine gl_op (op_rd rfl (rd_pick_t rfl rfl) ?_)
          refine gl_nil ?_
          refine gx_then ?_
          refine gc_cond_t rfl ?_
          refine gc_seq ?_
          refine gc_region ?_
          refine gl_op (op_rd rfl (rd_assign rfl) ?_)
          refine gl_nil ?_
          refine gx_then ?_
          refine gc_ret ?_
          refine gx_then_ret ?_
          refine gx_ret1 (.inl rfl) Try.results48 rfl [] (by decide) ?_
          exact ⟨congrArg (Value.int .i64) (Circ.ready_7 hck0 (.inr (.inr (.inl hi0)))).symm, rfl⟩
        · skip
          refine gl_yes rfl rfl (op_rd rfl (rd_pick_f rfl rfl) ?_)
          refine gl_yes rfl rfl (op_rd rfl (rd_move rfl) ?_)
          refine gl_yes rfl rfl (op_rd rfl (rd_move rfl) ?_)
          refine gl_yes rfl rfl (op_rd rfl (rd_fieldAddr rfl (fa_25_0 _)) ?_)
          refine gl_yes rfl rfl (op_rd rfl (rd_load Try.underlying3 rfl rfl (by first | exact ld_blk 0 rfl rfl | exact ld_old (by assumption) (by simp))) ?_)
          refine gl_yes rfl rfl (op_rd rfl (rd_conv Try.runUnderlying3 Try.runUnderlying58 rfl ((congrArg (IntKind.wrap .u64) hci).trans (wrap_u64_nat (by omega)))) ?_)
          refine gl_yes rfl rfl (op_rd rfl (rd_shl (a := 1) rfl rfl (by omega) (by omega)) ?_)
          refine gl_yes rfl rfl (op_rd rfl (rd_geq rfl rfl) (gk_dec (fun hi1 => ?_) (fun hi1 => ?_)))
          · skip
            refine gl_yes rfl rfl (op_rd rfl (rd_pick_f rfl rfl) ?_)
            refine gl_op (op_rd rfl (rd_pick_t rfl rfl) ?_)
            refine gl_nil ?_
            refine gx_then ?_
            refine gc_cond_t rfl ?_
            refine gc_seq ?_
            refine gc_region ?_
            refine gl_op (op_rd rfl (rd_assign rfl) ?_)
            refine gl_nil ?_
            refine gx_then ?_
            refine gc_ret ?_
            refine gx_then_ret ?_
            refine gx_ret1 (.inl rfl) Try.results48 rfl [] (by decide) ?_
            exact ⟨congrArg (Value.int .i64) (Circ.ready_7 hck0 (.inr (.inr (.inr (by rw [hci]; exact pow_le_of hi1))))).symm, rfl⟩
          · skip
            refine gl_yes rfl rfl (op_rd rfl (rd_pick_f rfl rfl) ?_)
            refine gl_op (op_rd rfl (rd_pick_t rfl rfl) ?_)
            refine gl_nil ?_
            refine gx_then ?_
            refine gc_cond_f rfl ?_
            refine gc_skip ?_
            refine gx_then ?_
            refine gc_seq ?_
            refine gc_region ?_
            refine gl_op (op_rd rfl (rd_move rfl) ?_)
            refine gl_op (op_rd rfl (rd_assign rfl) ?_)
            refine gl_nil ?_
            refine gx_then ?_
            refine gc_ret ?_
            refine gx_ret1 (.inl rfl) Try.results48 rfl [] (by decide) ?_
            refine ⟨?_, rfl⟩
            rw [Circ.ready_0 hck0 ?_, hck0]
            have e1 := not_pow_le hs1
            have e2 := not_pow_le hi1
            rw [hci, Int.toNat_natCast]
            omega
  · skip
    refine gl_op (op_rd rfl (rd_move rfl) ?_)
    refine gl_no rfl rfl rfl ?_
    refine gl_no rfl rfl rfl ?_
    refine gl_no rfl rfl rfl ?_
    refine gl_noU rfl rfl rfl ?_
    refine gl_noU rfl rfl rfl ?_
    refine gl_noU rfl rfl rfl ?_
    refine gl_noU rfl rfl rfl ?_
    refine gl_noU rfl rfl rfl ?_
    refine gl_noU rfl rfl rfl ?_
    refine gl_noU rfl rfl rfl ?_
    refine gl_no rfl rfl rfl ?_
    refine gl_no rfl rfl rfl ?_
    refine gl_noU rfl rfl rfl ?_
    refine gl_noU rfl rfl rfl ?_
    refine gl_no rfl rfl rfl ?_
    refine gl_no rfl rfl rfl ?_
    refine gl_noU rfl rfl rfl ?_
    refine gl_noU rfl rfl rfl ?_
    refine gl_noU rfl rfl rfl ?_
    refine gl_noU rfl rfl rfl ?_
    refine gl_noU rfl rfl rfl ?_
    refine gl_noU rfl rfl rfl ?_
    refine gl_no rfl rfl rfl ?_
    refine gl_op (op_rd rfl (rd_pick_f rfl rfl) ?_)
    refine gl_nil ?_
    refine gx_then ?_
    refine gc_cond_f rfl ?_
    refine gc_skip ?_
    refine gx_then ?_
    refine gc_seq ?_
    refine gc_region ?_
    refine gl_op (op_rd rfl (rd_move rfl) ?_)
    refine gl_op (op_rd rfl (rd_assign rfl) ?_)
    refine gl_nil ?_
    refine gx_then ?_
    refine gc_ret ?_
    refine gx_ret1 (.inl rfl) Try.results48 rfl [] (by decide) ?_
    refine ⟨congrArg (Value.int .i64) (Circ.ready_bad ?_).symm, rfl⟩
    omega

set_option maxRecDepth 100000 in
set_option maxHeartbeats 1000000 in
theorem rNext_ok (c : Circ) (st inn : Int) (w0 : World) (hc : c.In w0 []) (hst : st ≤ 9223372036854775807) (hin : inn ≤ 9223372036854775807) : Sp Try.prog 20 [c.val, .int .i64 st, .int .i64 inn] w0 [] (fun v l => (c.ready st inn = 0 ∧ ∃ r cp, v = .tuple #[.slice (rowA r) (nextL c st.toNat inn.toNat).length cp, .int .i64 0] ∧ l = [.row 3 1 r (nextL c st.toNat inn.toNat).length cp ((nextL c st.toNat inn.toNat).map natV)]) ∨ (c.ready st inn ≠ 0 ∧ v = .tuple #[.slice none 0 0, .int .i64 (c.ready st inn)] ∧ l = [])) := by
  refine spec_enter Try.func20 rfl Try.ntmps20 rfl (Own.refl _) ?_
  simp only [argEnv]
  refine gc_seq ?_
  refine gc_region ?_
  refine gl_op (op_box rfl rfl rfl (fun b3 => ?_))
  refine gl_op (op_rd rfl (rd_assign rfl) ?_)
  refine gl_op (op_rd rfl (rd_assign rfl) ?_)
  refine gl_nil ?_
  refine gx_then ?_
  refine gc_seq ?_
  refine gc_region ?_
  refine gl_op (op_rd rfl (rd_loadAgg Try.underlying25 rfl ty_25 rfl (by first | exact cs_blk 0 (off := 0) (k := 3) rfl rfl | exact cs_old (by assumption) (by simp)) rfl) ?_)
  refine gl_op (op_rd rfl (rd_move rfl) ?_)
  refine gl_op (op_rd rfl (rd_move rfl) ?_)
  refine gl_op (op_call rfl (vf := []) (vc := []) rfl rfl Try.call48 (fun w ho => ready_ok c st inn w (hc.at ho) hst hin) ?_)
  rintro _ _ ⟨rfl, rfl⟩
  refine gl_op (op_rd rfl (rd_assign rfl) ?_)
  refine gl_nil ?_
  refine gx_then ?_
  refine gc_seq ?_
  refine gc_seq ?_
  refine gc_region ?_
  refine gl_op (op_rd rfl (rd_move rfl) ?_)
  refine gl_op (op_rd rfl (rd_neq rfl rfl) (gk_dec (fun he => ?_) (fun he => ?_)))
  · skip
    refine gl_nil ?_
    refine gx_then ?_
    refine gc_cond_t rfl ?_
    refine gc_seq ?_
    refine gc_region ?_
    refine gl_op (op_rd rfl (rd_move rfl) ?_)
    refine gl_op (op_rd rfl (rd_assign rfl) ?_)
    refine gl_op (op_rd rfl (rd_assign rfl) ?_)
    refine gl_nil ?_
    refine gx_then ?_
    refine gc_ret ?_
    refine gx_then_ret ?_
    refine gx_ret2 (.inl rfl) Try.results20 rfl rfl [] (by decide) ?_
    exact .inr ⟨he, rfl, rfl⟩
  · skip
    have hr : c.ready st inn = 0 := by omega
    obtain ⟨hck, h1, h2, h3, h4⟩ := Circ.of_ready hr
    have hgd := Circ.good hck
    obtain ⟨sn, rfl⟩ : ∃ n : Nat, st = n := ⟨st.toNat, by omega⟩
    obtain ⟨im, rfl⟩ : ∃ n : Nat, inn = n := ⟨inn.toNat, by omega⟩
    simp only [Int.toNat_natCast] at h2 h4
    refine gl_nil ?_
    refine gx_then ?_
    refine gc_cond_f rfl ?_
    refine gc_skip ?_
    refine gx_then ?_
    refine gc_seq ?_
    refine gc_region ?_
    refine gl_op (op_rd rfl (rd_loadAgg Try.underlying25 rfl ty_25 rfl (by first | exact cs_blk 0 (off := 0) (k := 3) rfl rfl | exact cs_old (by assumption) (by simp)) rfl) ?_)
    refine gl_op (op_rd rfl (rd_move rfl) ?_)
    refine gl_op (op_rd rfl (rd_move rfl) ?_)
    refine gl_op (op_call rfl (vf := []) (vc := []) rfl rfl Try.call49 (fun w ho => rnext_ok c sn im w (hc.at ho) hgd h2 h4) ?_)
    rintro _ _ ⟨r, cp, rfl, rfl⟩
    refine gl_op (op_rd rfl (rd_assign rfl) ?_)
    refine gl_op (op_rd rfl (rd_assign rfl) ?_)
    refine gl_nil ?_
    refine gx_then ?_
    refine gc_ret ?_
    refine gx_ret2 (.inl rfl) Try.results20 rfl rfl [0] (by decide) ?_
    exact .inl ⟨hr, r, cp, rfl, rfl⟩

set_option maxRecDepth 100000 in
set_option maxHeartbeats 1000000 in
theorem routputs_ok (c : Circ) (st inn : Nat) (w0 : World) (hc : c.In w0 []) (hgd : c.Good) (hst : st < 2 ^ c.gates.length) (hin : inn < 2 ^ c.inputs.toNat) : Sp Try.prog 51 [c.val, natV st, natV inn] w0 [] (RV (natV (outB c st inn))) := by
  have hst2 := st_lt hgd hst
  have hin2 := in_lt hgd hin
  have hg12 := hgd.g12
  refine spec_enter Try.func51 rfl Try.ntmps51 rfl (Own.refl _) ?_
  simp only [argEnv]
  refine gc_seq ?_
  refine gc_region ?_
  refine gl_op (op_box rfl rfl rfl (fun b3 => ?_))
  refine gl_op (op_rd rfl (rd_assign rfl) ?_)
  refine gl_nil ?_
  refine gx_then ?_
  refine gc_seq ?_
  refine gc_region ?_
  refine gl_op (op_rd rfl (rd_assign rfl) ?_)
  refine gl_nil ?_
  refine gx_then ?_
  refine gc_seq ?_
  refine gc_seq ?_
  refine gc_region ?_
  refine gl_op (op_rd rfl (rd_assign rfl) ?_)
  refine gl_nil ?_
  refine gx_then ?_
  refine gc_block ?_
  refine gc_loop (ι := Nat × Nat) (fun j => j.1 ≤ c.outs.length ∧ j.2 < 2 ^ j.1 ∧ outTo (st <<< c.inputs.toNat ||| inn) (c.outs.drop j.1) j.1 j.2 = outTo (st <<< c.inputs.toNat ||| inn) c.outs 0 0) (fun j => [(1, natV st), (2, natV inn), (3, .pointer (some ⟨b3, 0, none⟩)), (7, natV j.2), (8, natV j.1)]) (fun j => [.blk b3 c.cells 25]) (fun j => c.outs.length - j.1) (0, 0) (⟨Nat.zero_le _, by decide, rfl⟩) ⟨rfl, rfl, rfl, rfl, rfl, trivial⟩ ⟨[0], by decide, rfl⟩ ?_
  rintro ⟨k, m⟩ ⟨hk, hm, hout⟩
  simp only at hk hm hout ⊢
  have ho16 := hgd.o16
  have hm2 : m < 65536 := by have := Nat.pow_le_pow_right (n := 2) (by decide) (Nat.le_trans hk ho16); omega
  have hi8 := hgd.i8
  refine gc_seq ?_
  refine gc_seq ?_
  refine gc_region ?_
  refine gl_op (op_rd rfl (rd_move rfl) ?_)
  refine gl_op (op_rd rfl (rd_fieldAddr rfl (fa_25_2 _)) ?_)
  refine gl_op (op_rd rfl (rd_load Try.underlying23 rfl rfl (by first | exact ld_blk 0 rfl rfl | exact ld_old (by assumption) (by simp))) ?_)
  refine gl_op (op_rd rfl (rd_lenSlice Try.underlying23 rfl) ?_)
  refine gl_op (op_rd rfl (rd_lss rfl rfl) (gk_dec (fun hlt => ?_) (fun hlt => ?_)))
  · skip
    have hkl : k < c.outs.length := by omega
    have hrng := hgd.outs _ (mem_getD (d := 0) hkl)
    obtain ⟨s, hs⟩ : ∃ n : Nat, c.outs.getD k 0 = n := ⟨(c.outs.getD k 0).toNat, by omega⟩
    have hs' : c.outs.getD ((k : Nat) : Int).toNat 0 = s := hs
    have hs4 : c.outs[k] = (s : Int) := by rw [← hs]; simp [List.getD, hkl]
    have hs3 : (c.outs[k]).toNat = s := by rw [hs4]; rfl
    have hpw : 2 ^ (k + 1) ≤ 65536 := by have := Nat.pow_le_pow_right (n := 2) (by decide) (show k + 1 ≤ 16 by omega); omega
    have hpw2 : 2 ^ (k + 1) = 2 ^ k + 2 ^ k := by rw [Nat.pow_succ]; omega
    refine gl_nil ?_
    refine gx_then ?_
    refine gc_cond_t rfl ?_
    refine gc_skip ?_
    refine gx_then ?_
    refine gc_seq ?_
    refine gc_block ?_
    refine gc_seq ?_
    try simp only [hs']
    refine gc_drawP [0] true 8 rfl ?_
    refine ga_first 0 #[true, false, false, false, false, false, false, false, false] rfl rfl rfl rfl (by kernel_rfl) rfl ⟨[0], by decide, rfl⟩ (qt_rd (rd_loadAgg Try.underlying25 rfl ty_25 rfl (by first | exact cs_blk 0 (off := 0) (k := 3) rfl rfl | exact cs_old (by assumption) (by simp)) rfl)) ?_
    refine ga_first 1 #[true, true, false, false, false, false, false, false, false] rfl rfl rfl rfl (by kernel_rfl) rfl ⟨[0], by decide, rfl⟩ (qt_rd (rd_fieldAddr rfl (fa_25_2 _))) ?_
    refine ga_first 2 #[true, true, true, false, false, false, false, false, false] rfl rfl rfl rfl (by kernel_rfl) rfl ⟨[0], by decide, rfl⟩ (qt_rd (rd_load Try.underlying23 rfl rfl (by first | exact ld_blk 0 rfl rfl | exact ld_old (by assumption) (by simp)))) ?_
    refine ga_first 3 #[true, true, true, true, false, false, false, false, false] rfl rfl rfl rfl (by kernel_rfl) rfl ⟨[0], by decide, rfl⟩ (qt_rd (rd_move rfl)) ?_
    refine ga_first 4 #[true, true, true, true, true, false, false, false, false] rfl rfl rfl rfl (by kernel_rfl) rfl ⟨[0], by decide, rfl⟩ (qt_rd (rd_indexOld1 hc.outs Try.underlying23 ty_3 rfl rfl (by omega) (by omega))) ?_
    refine ga_first 5 #[true, true, true, true, true, true, false, false, false] rfl rfl rfl rfl (by kernel_rfl) rfl ⟨[0], by decide, rfl⟩ (qt_rd (rd_load Try.underlying3 rfl rfl (ld_sl hc.outs (get_ints (by omega))))) ?_
    refine ga_first 6 #[true, true, true, true, true, true, true, false, false] rfl rfl rfl rfl (by kernel_rfl) rfl ⟨[0], by decide, rfl⟩ (qt_rd (rd_move rfl)) ?_
    refine ga_first 7 #[true, true, true, true, true, true, true, true, false] rfl rfl rfl rfl (by kernel_rfl) rfl ⟨[0], by decide, rfl⟩ (qt_rd (rd_move rfl)) ?_
    try simp only [hs']
    refine ga_first 8 #[true, true, true, true, true, true, true, true, true] rfl rfl rfl rfl (by kernel_rfl) rfl ⟨[0], by decide, rfl⟩ (qt_call (vf := []) (vc := []) rfl rfl Try.call76 (fun w ho => signal_ok c s st inn w hgd.i0 hgd.i8 (by omega) hst2 hin) (by rintro _ _ ⟨h, _⟩; exact h)) ?_
    refine ga_end (by kernel_rfl) (.inr ⟨[0], by decide, rfl⟩) ?_
    refine gx_then ?_
    refine gc_cond rfl (fun hsg => ?_) (fun hsg => ?_)
    · skip
      refine gc_region ?_
      refine gl_op (op_rd rfl (rd_move rfl) ?_)
      refine gl_op (op_rd rfl (rd_move rfl) ?_)
      refine gl_op (op_rd rfl (rd_conv Try.runUnderlying3 Try.runUnderlying58 rfl (wrap_u64_nat (by omega))) ?_)
      refine gl_op (op_rd rfl (rd_shl (a := 1) rfl rfl (by omega) (by omega)) ?_)
      refine gl_op (op_rd rfl (rd_add rfl rfl (by first | omega | (rw [Nat.one_shiftLeft]; omega)) (by first | omega | (rw [Nat.one_shiftLeft]; omega))) ?_)
      refine gl_op (op_rd rfl (rd_assign rfl) ?_)
      refine gl_nil ?_
      refine gx_block ?_
      refine gx_then ?_
      refine gc_region ?_
      refine gl_op (op_rd rfl (rd_move rfl) ?_)
      refine gl_op (op_rd rfl (rd_add rfl rfl (by omega) (by omega)) ?_)
      refine gl_op (op_rd rfl (rd_assign rfl) ?_)
      refine gl_nil ?_
      refine gx_then ?_
      exact gx_cut ((k + 1, m + 1 <<< k)) ⟨⟨by omega, by simp only; rw [Nat.one_shiftLeft, Nat.pow_succ]; omega, by rw [← hout, List.drop_eq_getElem_cons hkl, outTo, hs3, and1]; rw [show (st <<< c.inputs.toNat ||| inn).testBit s = true from hsg]; rw [if_pos rfl, or_pow hm]⟩, by simp only; omega⟩ ⟨rfl, rfl, rfl, rfl, rfl, trivial⟩ ⟨[0], by decide, rfl⟩
    · skip
      refine gc_skip ?_
      refine gx_block ?_
      refine gx_then ?_
      refine gc_region ?_
      refine gl_op (op_rd rfl (rd_move rfl) ?_)
      refine gl_op (op_rd rfl (rd_add rfl rfl (by omega) (by omega)) ?_)
      refine gl_op (op_rd rfl (rd_assign rfl) ?_)
      refine gl_nil ?_
      refine gx_then ?_
      exact gx_cut ((k + 1, m)) ⟨⟨by omega, by simp only; rw [Nat.pow_succ]; omega, by rw [← hout, List.drop_eq_getElem_cons hkl, outTo, hs3, and1]; rw [show (st <<< c.inputs.toNat ||| inn).testBit s = false from hsg]; simp⟩, by simp only; omega⟩ ⟨rfl, rfl, rfl, rfl, rfl, trivial⟩ ⟨[0], by decide, rfl⟩
  · skip
    refine gl_nil ?_
    refine gx_then ?_
    refine gc_cond_f rfl ?_
    refine gc_exit ?_
    refine gx_then_exit ?_
    refine gx_then_exit ?_
    refine gx_block_exit ?_
    refine gx_then ?_
    refine gc_seq ?_
    refine gc_region ?_
    refine gl_op (op_rd rfl (rd_move rfl) ?_)
    refine gl_op (op_rd rfl (rd_assign rfl) ?_)
    refine gl_nil ?_
    refine gx_then ?_
    refine gc_ret ?_
    refine gx_ret1 (.inl rfl) Try.results51 rfl [] (by decide) ?_
    refine ⟨?_, rfl⟩
    have hke : k = c.outs.length := by omega
    subst hke
    rw [List.drop_length] at hout
    simp only [outTo] at hout
    rw [hout]; rfl

set_option maxRecDepth 100000 in
set_option maxHeartbeats 1000000 in
theorem rOutputs_ok (c : Circ) (st inn : Int) (w0 : World) (hc : c.In w0 []) (hst : st ≤ 9223372036854775807) (hin : inn ≤ 9223372036854775807) : Sp Try.prog 22 [c.val, .int .i64 st, .int .i64 inn] w0 [] (RV (.tuple #[natV (if c.ready st inn = 0 then outB c st.toNat inn.toNat else 0), .int .i64 (c.ready st inn)])) := by
  refine spec_enter Try.func22 rfl Try.ntmps22 rfl (Own.refl _) ?_
  simp only [argEnv]
  refine gc_seq ?_
  refine gc_region ?_
  refine gl_op (op_box rfl rfl rfl (fun b3 => ?_))
  refine gl_op (op_rd rfl (rd_assign rfl) ?_)
  refine gl_op (op_rd rfl (rd_assign rfl) ?_)
  refine gl_nil ?_
  refine gx_then ?_
  refine gc_seq ?_
  refine gc_region ?_
  refine gl_op (op_rd rfl (rd_loadAgg Try.underlying25 rfl ty_25 rfl (by first | exact cs_blk 0 (off := 0) (k := 3) rfl rfl | exact cs_old (by assumption) (by simp)) rfl) ?_)
  refine gl_op (op_rd rfl (rd_move rfl) ?_)
  refine gl_op (op_rd rfl (rd_move rfl) ?_)
  refine gl_op (op_call rfl (vf := []) (vc := []) rfl rfl Try.call48 (fun w ho => ready_ok c st inn w (hc.at ho) hst hin) ?_)
  rintro _ _ ⟨rfl, rfl⟩
  refine gl_op (op_rd rfl (rd_assign rfl) ?_)
  refine gl_nil ?_
  refine gx_then ?_
  refine gc_seq ?_
  refine gc_seq ?_
  refine gc_region ?_
  refine gl_op (op_rd rfl (rd_move rfl) ?_)
  refine gl_op (op_rd rfl (rd_neq rfl rfl) (gk_dec (fun he => ?_) (fun he => ?_)))
  · skip
    refine gl_nil ?_
    refine gx_then ?_
    refine gc_cond_t rfl ?_
    refine gc_seq ?_
    refine gc_region ?_
    refine gl_op (op_rd rfl (rd_move rfl) ?_)
    refine gl_op (op_rd rfl (rd_assign rfl) ?_)
    refine gl_op (op_rd rfl (rd_assign rfl) ?_)
    refine gl_nil ?_
    refine gx_then ?_
    refine gc_ret ?_
    refine gx_then_ret ?_
    refine gx_ret2 (.inl rfl) Try.results22 rfl rfl [] (by decide) ?_
    exact ⟨by rw [if_neg he]; rfl, rfl⟩
  · skip
    have hr : c.ready st inn = 0 := by omega
    obtain ⟨hck, h1, h2, h3, h4⟩ := Circ.of_ready hr
    have hgd := Circ.good hck
    obtain ⟨sn, rfl⟩ : ∃ n : Nat, st = n := ⟨st.toNat, by omega⟩
    obtain ⟨im, rfl⟩ : ∃ n : Nat, inn = n := ⟨inn.toNat, by omega⟩
    simp only [Int.toNat_natCast] at h2 h4
    refine gl_nil ?_
    refine gx_then ?_
    refine gc_cond_f rfl ?_
    refine gc_skip ?_
    refine gx_then ?_
    refine gc_seq ?_
    refine gc_region ?_
    refine gl_op (op_rd rfl (rd_loadAgg Try.underlying25 rfl ty_25 rfl (by first | exact cs_blk 0 (off := 0) (k := 3) rfl rfl | exact cs_old (by assumption) (by simp)) rfl) ?_)
    refine gl_op (op_rd rfl (rd_move rfl) ?_)
    refine gl_op (op_rd rfl (rd_move rfl) ?_)
    refine gl_op (op_call rfl (vf := []) (vc := []) rfl rfl Try.call51 (fun w ho => routputs_ok c sn im w (hc.at ho) hgd h2 h4) ?_)
    rintro _ _ ⟨rfl, rfl⟩
    refine gl_op (op_rd rfl (rd_assign rfl) ?_)
    refine gl_op (op_rd rfl (rd_assign rfl) ?_)
    refine gl_nil ?_
    refine gx_then ?_
    refine gc_ret ?_
    refine gx_ret2 (.inl rfl) Try.results22 rfl rfl [] (by decide) ?_
    exact ⟨by rw [if_pos hr, hr]; rfl, rfl⟩

set_option maxRecDepth 100000 in
set_option maxHeartbeats 1000000 in
theorem rswitched_ok (st k : Nat) (w0 : World) (hst : st < 4096) (hk : k < 12) : Sp Try.prog 66 [natV st, natV k] w0 [] (RV (natV (flip st k))) := by
  refine spec_enter Try.func66 rfl Try.ntmps66 rfl (Own.refl _) ?_
  simp only [argEnv]
  refine gc_seq ?_
  refine gc_region ?_
  refine gl_op (op_rd rfl (rd_assign rfl) ?_)
  refine gl_nil ?_
  refine gx_then ?_
  refine gc_seq ?_
  refine gc_seq ?_
  refine gc_region ?_
  refine gl_op (op_rd rfl (rd_move rfl) ?_)
  refine gl_op (op_rd rfl (rd_move rfl) ?_)
  refine gl_op (op_rd rfl (rd_conv Try.runUnderlying3 Try.runUnderlying58 rfl (wrap_u64_nat (by omega))) ?_)
  refine gl_op (op_rd rfl (rd_shr rfl rfl (by omega)) ?_)
  have hsr := Nat.shiftRight_le st k
  refine gl_op (op_rd rfl (rd_rem rfl rfl (by first | exact Int.natCast_nonneg _ | omega) (by omega)) ?_)
  refine gl_op (op_rd rfl (rd_eql rfl rfl) (gk_dec (fun hb => ?_) (fun hb => ?_)))
  · skip
    have htb : st.testBit k = true := by rw [← dec_mod]; exact decide_eq_true hb
    obtain ⟨hf, hle⟩ := flip_sub htb
    refine gl_nil ?_
    refine gx_then ?_
    refine gc_cond_t rfl ?_
    refine gc_seq ?_
    refine gc_region ?_
    refine gl_op (op_rd rfl (rd_move rfl) ?_)
    refine gl_op (op_rd rfl (rd_move rfl) ?_)
    refine gl_op (op_rd rfl (rd_conv Try.runUnderlying3 Try.runUnderlying58 rfl (wrap_u64_nat (by omega))) ?_)
    have hp := Nat.pow_lt_pow_right (a := 2) (by decide) hk
    have hp0 := Nat.two_pow_pos k
    refine gl_op (op_rd rfl (rd_shl (a := 1) rfl rfl (by omega) (by omega)) ?_)
    refine gl_op (op_rd rfl (rd_sub rfl rfl (by first | omega | (rw [Nat.one_shiftLeft]; omega)) (by first | omega | (rw [Nat.one_shiftLeft]; omega))) ?_)
    refine gl_op (op_rd rfl (rd_assign rfl) ?_)
    refine gl_nil ?_
    refine gx_then ?_
    refine gc_ret ?_
    refine gx_then_ret ?_
    refine gx_ret1 (.inl rfl) Try.results66 rfl [] (by decide) ?_
    refine ⟨congrArg (Value.int .i64) ?_, rfl⟩
    rw [hf, Nat.one_shiftLeft]; omega
  · skip
    have hf := flip_add (show st.testBit k = false by rw [← dec_mod]; exact decide_eq_false hb)
    refine gl_nil ?_
    refine gx_then ?_
    refine gc_cond_f rfl ?_
    refine gc_skip ?_
    refine gx_then ?_
    refine gc_seq ?_
    refine gc_region ?_
    refine gl_op (op_rd rfl (rd_move rfl) ?_)
    refine gl_op (op_rd rfl (rd_move rfl) ?_)
    refine gl_op (op_rd rfl (rd_conv Try.runUnderlying3 Try.runUnderlying58 rfl (wrap_u64_nat (by omega))) ?_)
    have hp := Nat.pow_lt_pow_right (a := 2) (by decide) hk
    refine gl_op (op_rd rfl (rd_shl (a := 1) rfl rfl (by omega) (by omega)) ?_)
    refine gl_op (op_rd rfl (rd_add rfl rfl (by first | omega | (rw [Nat.one_shiftLeft]; omega)) (by first | omega | (rw [Nat.one_shiftLeft]; omega))) ?_)
    refine gl_op (op_rd rfl (rd_assign rfl) ?_)
    refine gl_nil ?_
    refine gx_then ?_
    refine gc_ret ?_
    refine gx_ret1 (.inl rfl) Try.results66 rfl [] (by decide) ?_
    refine ⟨congrArg (Value.int .i64) ?_, rfl⟩
    rw [hf, Nat.one_shiftLeft]; omega

set_option maxRecDepth 100000 in
set_option maxHeartbeats 1000000 in
theorem switched_ok (st k : Nat) (w0 : World) (hst : st < 4096) (hk : k < 12) : Sp Try.prog 44 [natV st, natV k] w0 [] (RV (natV (flip st k))) := by
  refine spec_enter Try.func44 rfl Try.ntmps44 rfl (Own.refl _) ?_
  simp only [argEnv]
  refine gc_seq ?_
  refine gc_region ?_
  refine gl_op (op_rd rfl (rd_assign rfl) ?_)
  refine gl_nil ?_
  refine gx_then ?_
  refine gc_seq ?_
  refine gc_region ?_
  refine gl_op (op_rd rfl (rd_move rfl) ?_)
  refine gl_op (op_rd rfl (rd_move rfl) ?_)
  refine gl_op (op_rd rfl (rd_conv Try.runUnderlying3 Try.runUnderlying58 rfl (wrap_u64_nat (by omega))) ?_)
  have hp := Nat.pow_lt_pow_right (a := 2) (by decide) hk
  refine gl_op (op_rd rfl (rd_shl (a := 1) rfl rfl (by omega) (by omega)) ?_)
  refine gl_op (op_rd rfl (rd_xor rfl rfl (by first | omega | (rw [Nat.one_shiftLeft]; omega)) (by first | omega | (rw [Nat.one_shiftLeft]; omega))) ?_)
  refine gl_op (op_rd rfl (rd_assign rfl) ?_)
  refine gl_nil ?_
  refine gx_then ?_
  refine gc_ret ?_
  refine gx_ret1 (.inl rfl) Try.results44 rfl [] (by decide) ?_
  exact ⟨rfl, rfl⟩

set_option maxRecDepth 100000 in
set_option maxHeartbeats 1000000 in
theorem has_ok (zs : List Int) (a : Option Addr) (cp : Nat) (n : Int) (w0 : World) (hsl : OldSl w0 [] a zs.length 1 (zs.map intV)) (hb : zs.length ≤ 140737488355328) : Sp Try.prog 16 [.slice a zs.length cp, .int .i64 n] w0 [] (RV (.bool (decide (n ∈ zs)))) := by
  refine spec_enter Try.func16 rfl Try.ntmps16 rfl (Own.refl _) ?_
  simp only [argEnv]
  refine gc_seq ?_
  refine gc_region ?_
  refine gl_op (op_rd rfl (rd_assign rfl) ?_)
  refine gl_nil ?_
  refine gx_then ?_
  refine gc_seq ?_
  refine gc_seq ?_
  refine gc_region ?_
  refine gl_op (op_rd rfl (rd_assign rfl) ?_)
  refine gl_nil ?_
  refine gx_then ?_
  refine gc_block ?_
  refine gc_loop (ι := Nat) (fun j => j ≤ zs.length ∧ ∀ i, i < j → zs.getD i 0 ≠ n) (fun j => [(0, .slice a zs.length cp), (1, .int .i64 n), (5, natV j)]) (fun j => []) (fun j => zs.length - j) 0 (⟨Nat.zero_le _, fun i h => absurd h (Nat.not_lt_zero i)⟩) ⟨rfl, rfl, rfl, trivial⟩ ⟨[], by decide, rfl⟩ ?_
  rintro k ⟨hk, hno⟩
  refine gc_seq ?_
  refine gc_seq ?_
  refine gc_region ?_
  refine gl_op (op_rd rfl (rd_move rfl) ?_)
  refine gl_op (op_rd rfl (rd_move rfl) ?_)
  refine gl_op (op_rd rfl (rd_lenSlice Try.underlying23 rfl) ?_)
  refine gl_op (op_rd rfl (rd_lss rfl rfl) (gk_dec (fun hlt => ?_) (fun hlt => ?_)))
  · skip
    refine gl_nil ?_
    refine gx_then ?_
    refine gc_cond_t rfl ?_
    refine gc_skip ?_
    refine gx_then ?_
    refine gc_seq ?_
    refine gc_block ?_
    refine gc_seq ?_
    refine gc_region ?_
    refine gl_op (op_rd rfl (rd_move rfl) ?_)
    refine gl_op (op_rd rfl (rd_move rfl) ?_)
    refine gl_op (op_rd rfl (rd_indexOld1 hsl Try.underlying23 ty_3 rfl rfl (by omega) (by omega)) ?_)
    refine gl_op (op_rd rfl (rd_load Try.underlying3 rfl rfl (ld_sl hsl (get_ints (by omega)))) ?_)
    refine gl_op (op_rd rfl (rd_move rfl) ?_)
    refine gl_op (op_rd rfl (rd_eql rfl rfl) (gk_dec (fun heq => ?_) (fun heq => ?_)))
    · skip
      refine gl_nil ?_
      refine gx_then ?_
      refine gc_cond_t rfl ?_
      refine gc_seq ?_
      refine gc_region ?_
      refine gl_op (op_rd rfl (rd_assign rfl) ?_)
      refine gl_nil ?_
      refine gx_then ?_
      refine gc_ret ?_
      refine gx_block_ret ?_
      refine gx_then_ret ?_
      refine gx_then_ret ?_
      refine gx_block_ret ?_
      refine gx_then_ret ?_
      refine gx_ret1 (.inl rfl) Try.results16 rfl [] (by decide) ?_
      refine ⟨congrArg Value.bool (decide_eq_true ?_).symm, rfl⟩
      rw [← heq]; exact mem_getD (d := 0) (by have : ((k : Nat) : Int).toNat = k := rfl; omega)
    · skip
      refine gl_nil ?_
      refine gx_then ?_
      refine gc_cond_f rfl ?_
      refine gc_skip ?_
      refine gx_block ?_
      refine gx_then ?_
      refine gc_region ?_
      refine gl_op (op_rd rfl (rd_move rfl) ?_)
      refine gl_op (op_rd rfl (rd_add rfl rfl (by omega) (by omega)) ?_)
      refine gl_op (op_rd rfl (rd_assign rfl) ?_)
      refine gl_nil ?_
      refine gx_then ?_
      exact gx_cut (k + 1) ⟨⟨by omega, fun i hi => by rcases Nat.lt_succ_iff_lt_or_eq.1 hi with h | rfl; exact hno i h; exact heq⟩, by omega⟩ ⟨rfl, rfl, rfl, trivial⟩ ⟨[], by decide, rfl⟩
  · skip
    refine gl_nil ?_
    refine gx_then ?_
    refine gc_cond_f rfl ?_
    refine gc_exit ?_
    refine gx_then_exit ?_
    refine gx_then_exit ?_
    refine gx_block_exit ?_
    refine gx_then ?_
    refine gc_seq ?_
    refine gc_region ?_
    refine gl_op (op_rd rfl (rd_assign rfl) ?_)
    refine gl_nil ?_
    refine gx_then ?_
    refine gc_ret ?_
    refine gx_ret1 (.inl rfl) Try.results16 rfl [] (by decide) ?_
    refine ⟨congrArg Value.bool (decide_eq_false ?_).symm, rfl⟩
    intro hm
    obtain ⟨i, hi, he⟩ := getD_of_mem 0 hm
    exact hno i (by omega) he

set_option maxRecDepth 100000 in
set_option maxHeartbeats 1000000 in
theorem rhas_ok (zs : List Int) (a : Option Addr) (cp : Nat) (n : Int) (w0 : World) (hsl : OldSl w0 [] a zs.length 1 (zs.map intV)) (hb : zs.length ≤ 140737488355328) : Sp Try.prog 64 [.slice a zs.length cp, .int .i64 n] w0 [] (RV (.bool (decide (n ∈ zs)))) := by
  refine spec_enter Try.func64 rfl Try.ntmps64 rfl (Own.refl _) ?_
  simp only [argEnv]
  refine gc_seq ?_
  refine gc_region ?_
  refine gl_op (op_rd rfl (rd_assign rfl) ?_)
  refine gl_nil ?_
  refine gx_then ?_
  refine gc_seq ?_
  refine gc_seq ?_
  refine gc_region ?_
  refine gl_op (op_rd rfl (rd_assign rfl) ?_)
  refine gl_nil ?_
  refine gx_then ?_
  refine gc_block ?_
  refine gc_loop (ι := Nat) (fun j => j ≤ zs.length ∧ ∀ i, i < j → zs.getD i 0 ≠ n) (fun j => [(0, .slice a zs.length cp), (1, .int .i64 n), (5, natV j)]) (fun j => []) (fun j => zs.length - j) 0 (⟨Nat.zero_le _, fun i h => absurd h (Nat.not_lt_zero i)⟩) ⟨rfl, rfl, rfl, trivial⟩ ⟨[], by decide, rfl⟩ ?_
  rintro k ⟨hk, hno⟩
  refine gc_seq ?_
  refine gc_seq ?_
  refine gc_region ?_
  refine gl_op (op_rd rfl (rd_move rfl) ?_)
  refine gl_op (op_rd rfl (rd_move rfl) ?_)
  refine gl_op (op_rd rfl (rd_lenSlice Try.underlying23 rfl) ?_)
  refine gl_op (op_rd rfl (rd_lss rfl rfl) (gk_dec (fun hlt => ?_) (fun hlt => ?_)))
  · skip
    refine gl_nil ?_
    refine gx_then ?_
    refine gc_cond_t rfl ?_
    refine gc_skip ?_
    refine gx_then ?_
    refine gc_seq ?_
    refine gc_block ?_
    refine gc_seq ?_
    refine gc_region ?_
    refine gl_op (op_rd rfl (rd_move rfl) ?_)
    refine gl_op (op_rd rfl (rd_move rfl) ?_)
    refine gl_op (op_rd rfl (rd_indexOld1 hsl Try.underlying23 ty_3 rfl rfl (by omega) (by omega)) ?_)
    refine gl_op (op_rd rfl (rd_load Try.underlying3 rfl rfl (ld_sl hsl (get_ints (by omega)))) ?_)
    refine gl_op (op_rd rfl (rd_move rfl) ?_)
    refine gl_op (op_rd rfl (rd_eql rfl rfl) (gk_dec (fun heq => ?_) (fun heq => ?_)))
    · skip
      refine gl_nil ?_
      refine gx_then ?_
      refine gc_cond_t rfl ?_
      refine gc_seq ?_
      refine gc_region ?_
      refine gl_op (op_rd rfl (rd_assign rfl) ?_)
      refine gl_nil ?_
      refine gx_then ?_
      refine gc_ret ?_
      refine gx_block_ret ?_
      refine gx_then_ret ?_
      refine gx_then_ret ?_
      refine gx_block_ret ?_
      refine gx_then_ret ?_
      refine gx_ret1 (.inl rfl) Try.results64 rfl [] (by decide) ?_
      refine ⟨congrArg Value.bool (decide_eq_true ?_).symm, rfl⟩
      rw [← heq]; exact mem_getD (d := 0) (by have : ((k : Nat) : Int).toNat = k := rfl; omega)
    · skip
      refine gl_nil ?_
      refine gx_then ?_
      refine gc_cond_f rfl ?_
      refine gc_skip ?_
      refine gx_block ?_
      refine gx_then ?_
      refine gc_region ?_
      refine gl_op (op_rd rfl (rd_move rfl) ?_)
      refine gl_op (op_rd rfl (rd_add rfl rfl (by omega) (by omega)) ?_)
      refine gl_op (op_rd rfl (rd_assign rfl) ?_)
      refine gl_nil ?_
      refine gx_then ?_
      exact gx_cut (k + 1) ⟨⟨by omega, fun i hi => by rcases Nat.lt_succ_iff_lt_or_eq.1 hi with h | rfl; exact hno i h; exact heq⟩, by omega⟩ ⟨rfl, rfl, rfl, trivial⟩ ⟨[], by decide, rfl⟩
  · skip
    refine gl_nil ?_
    refine gx_then ?_
    refine gc_cond_f rfl ?_
    refine gc_exit ?_
    refine gx_then_exit ?_
    refine gx_then_exit ?_
    refine gx_block_exit ?_
    refine gx_then ?_
    refine gc_seq ?_
    refine gc_region ?_
    refine gl_op (op_rd rfl (rd_assign rfl) ?_)
    refine gl_nil ?_
    refine gx_then ?_
    refine gc_ret ?_
    refine gx_ret1 (.inl rfl) Try.results64 rfl [] (by decide) ?_
    refine ⟨congrArg Value.bool (decide_eq_false ?_).symm, rfl⟩
    intro hm
    obtain ⟨i, hi, he⟩ := getD_of_mem 0 hm
    exact hno i (by omega) he

set_option maxRecDepth 100000 in
set_option maxHeartbeats 1000000 in
theorem sameInts_ok (xs ys : List Int) (a b : Option Addr) (cp cq : Nat) (w0 : World) (hxs : OldSl w0 [] a xs.length 1 (xs.map intV)) (hys : OldSl w0 [] b ys.length 1 (ys.map intV)) (hb : xs.length ≤ 140737488355328) : Sp Try.prog 25 [.slice a xs.length cp, .slice b ys.length cq] w0 [] (RV (.bool (decide (xs = ys)))) := by
  refine spec_enter Try.func25 rfl Try.ntmps25 rfl (Own.refl _) ?_
  simp only [argEnv]
  refine gc_seq ?_
  refine gc_region ?_
  refine gl_op (op_rd rfl (rd_assign rfl) ?_)
  refine gl_nil ?_
  refine gx_then ?_
  refine gc_seq ?_
  refine gc_seq ?_
  refine gc_region ?_
  refine gl_op (op_rd rfl (rd_move rfl) ?_)
  refine gl_op (op_rd rfl (rd_lenSlice Try.underlying23 rfl) ?_)
  refine gl_op (op_rd rfl (rd_move rfl) ?_)
  refine gl_op (op_rd rfl (rd_lenSlice Try.underlying23 rfl) ?_)
  refine gl_op (op_rd rfl (rd_neq rfl rfl) (gk_dec (fun hlen => ?_) (fun hlen => ?_)))
  · skip
    refine gl_nil ?_
    refine gx_then ?_
    refine gc_cond_t rfl ?_
    refine gc_seq ?_
    refine gc_region ?_
    refine gl_op (op_rd rfl (rd_assign rfl) ?_)
    refine gl_nil ?_
    refine gx_then ?_
    refine gc_ret ?_
    refine gx_then_ret ?_
    refine gx_ret1 (.inl rfl) Try.results25 rfl [] (by decide) ?_
    refine ⟨congrArg Value.bool (decide_eq_false ?_).symm, rfl⟩
    intro he; subst he; exact hlen rfl
  · skip
    refine gl_nil ?_
    refine gx_then ?_
    refine gc_cond_f rfl ?_
    refine gc_skip ?_
    refine gx_then ?_
    refine gc_seq ?_
    refine gc_seq ?_
    refine gc_region ?_
    refine gl_op (op_rd rfl (rd_assign rfl) ?_)
    refine gl_nil ?_
    refine gx_then ?_
    refine gc_block ?_
    refine gc_loop (ι := Nat) (fun j => j ≤ xs.length ∧ ∀ i, i < j → xs.getD i 0 = ys.getD i 0) (fun j => [(0, .slice a xs.length cp), (1, .slice b ys.length cq), (5, natV j)]) (fun j => []) (fun j => xs.length - j) 0 (⟨Nat.zero_le _, fun i h => absurd h (Nat.not_lt_zero i)⟩) ⟨rfl, rfl, rfl, trivial⟩ ⟨[], by decide, rfl⟩ ?_
    rintro k ⟨hk, hno⟩
    refine gc_seq ?_
    refine gc_seq ?_
    refine gc_region ?_
    refine gl_op (op_rd rfl (rd_move rfl) ?_)
    refine gl_op (op_rd rfl (rd_move rfl) ?_)
    refine gl_op (op_rd rfl (rd_lenSlice Try.underlying23 rfl) ?_)
    refine gl_op (op_rd rfl (rd_lss rfl rfl) (gk_dec (fun hlt => ?_) (fun hlt => ?_)))
    · skip
      refine gl_nil ?_
      refine gx_then ?_
      refine gc_cond_t rfl ?_
      refine gc_skip ?_
      refine gx_then ?_
      refine gc_seq ?_
      refine gc_block ?_
      refine gc_seq ?_
      refine gc_drawP [] true 8 rfl ?_
      refine ga_first 0 #[true, false, false, false, false, false, false, false, false] rfl rfl rfl rfl (by kernel_rfl) rfl ⟨[], by decide, rfl⟩ (qt_rd (rd_move rfl)) ?_
      refine ga_first 1 #[true, true, false, false, false, false, false, false, false] rfl rfl rfl rfl (by kernel_rfl) rfl ⟨[], by decide, rfl⟩ (qt_rd (rd_move rfl)) ?_
      refine ga_first 2 #[true, true, true, false, false, false, false, false, false] rfl rfl rfl rfl (by kernel_rfl) rfl ⟨[], by decide, rfl⟩ (qt_rd (rd_indexOld1 hxs Try.underlying23 ty_3 rfl rfl (by omega) (by omega))) ?_
      refine ga_first 3 #[true, true, true, true, false, false, false, false, false] rfl rfl rfl rfl (by kernel_rfl) rfl ⟨[], by decide, rfl⟩ (qt_rd (rd_load Try.underlying3 rfl rfl (ld_sl hxs (get_ints (by omega))))) ?_
      refine ga_first 4 #[true, true, true, true, true, false, false, false, false] rfl rfl rfl rfl (by kernel_rfl) rfl ⟨[], by decide, rfl⟩ (qt_rd (rd_move rfl)) ?_
      refine ga_first 5 #[true, true, true, true, true, true, false, false, false] rfl rfl rfl rfl (by kernel_rfl) rfl ⟨[], by decide, rfl⟩ (qt_rd (rd_move rfl)) ?_
      refine ga_first 6 #[true, true, true, true, true, true, true, false, false] rfl rfl rfl rfl (by kernel_rfl) rfl ⟨[], by decide, rfl⟩ (qt_rd (rd_indexOld1 hys Try.underlying23 ty_3 rfl rfl (by omega) (by omega))) ?_
      refine ga_first 7 #[true, true, true, true, true, true, true, true, false] rfl rfl rfl rfl (by kernel_rfl) rfl ⟨[], by decide, rfl⟩ (qt_rd (rd_load Try.underlying3 rfl rfl (ld_sl hys (get_ints (by omega))))) ?_
      refine ga_first 8 #[true, true, true, true, true, true, true, true, true] rfl rfl rfl rfl (by kernel_rfl) rfl ⟨[], by decide, rfl⟩ (qt_rd (rd_neq rfl rfl)) (gk_dec (fun hne => ?_) (fun hne => ?_))
      · skip
        refine ga_end (by kernel_rfl) (.inr ⟨[], by decide, rfl⟩) ?_
        refine gx_then ?_
        refine gc_cond_t rfl ?_
        refine gc_seq ?_
        refine gc_region ?_
        refine gl_op (op_rd rfl (rd_assign rfl) ?_)
        refine gl_nil ?_
        refine gx_then ?_
        refine gc_ret ?_
        refine gx_block_ret ?_
        refine gx_then_ret ?_
        refine gx_then_ret ?_
        refine gx_block_ret ?_
        refine gx_then_ret ?_
        refine gx_ret1 (.inl rfl) Try.results25 rfl [] (by decide) ?_
        refine ⟨congrArg Value.bool (decide_eq_false ?_).symm, rfl⟩
        intro he; subst he; exact hne rfl
      · skip
        refine ga_end (by kernel_rfl) (.inr ⟨[], by decide, rfl⟩) ?_
        refine gx_then ?_
        refine gc_cond_f rfl ?_
        refine gc_skip ?_
        refine gx_block ?_
        refine gx_then ?_
        refine gc_region ?_
        refine gl_op (op_rd rfl (rd_move rfl) ?_)
        refine gl_op (op_rd rfl (rd_add rfl rfl (by omega) (by omega)) ?_)
        refine gl_op (op_rd rfl (rd_assign rfl) ?_)
        refine gl_nil ?_
        refine gx_then ?_
        exact gx_cut (k + 1) ⟨⟨by omega, fun i hi => by rcases Nat.lt_succ_iff_lt_or_eq.1 hi with h | rfl; exact hno i h; exact Decidable.not_not.1 hne⟩, by omega⟩ ⟨rfl, rfl, rfl, trivial⟩ ⟨[], by decide, rfl⟩
    · skip
      refine gl_nil ?_
      refine gx_then ?_
      refine gc_cond_f rfl ?_
      refine gc_exit ?_
      refine gx_then_exit ?_
      refine gx_then_exit ?_
      refine gx_block_exit ?_
      refine gx_then ?_
      refine gc_seq ?_
      refine gc_region ?_
      refine gl_op (op_rd rfl (rd_assign rfl) ?_)
      refine gl_nil ?_
      refine gx_then ?_
      refine gc_ret ?_
      refine gx_ret1 (.inl rfl) Try.results25 rfl [] (by decide) ?_
      refine ⟨congrArg Value.bool (decide_eq_true (list_ext_getD ?_ fun i hi => hno i (by omega))).symm, rfl⟩
      omega

set_option maxRecDepth 100000 in
set_option maxHeartbeats 1000000 in
theorem sound_ok (c : Circ) (st inn : Int) (w0 : World) (hc : c.In w0 []) (hst : st ≤ 9223372036854775807) (hin : inn ≤ 9223372036854775807) : Sp Try.prog 13 [c.val, .int .i64 st, .int .i64 inn] w0 [] (RV (.bool (decide (c.ready st inn = 0)))) := by
  refine spec_enter Try.func13 rfl Try.ntmps13 rfl (Own.refl _) ?_
  simp only [argEnv]
  refine gc_seq ?_
  refine gc_region ?_
  refine gl_op (op_box rfl rfl rfl (fun b3 => ?_))
  refine gl_op (op_rd rfl (rd_assign rfl) ?_)
  refine gl_nil ?_
  refine gx_then ?_
  refine gc_seq ?_
  refine gc_region ?_
  refine gl_op (op_rd rfl (rd_loadAgg Try.underlying25 rfl ty_25 rfl (by first | exact cs_blk 0 (off := 0) (k := 3) rfl rfl | exact cs_old (by assumption) (by simp)) rfl) ?_)
  refine gl_op (op_rd rfl (rd_move rfl) ?_)
  refine gl_op (op_rd rfl (rd_move rfl) ?_)
  refine gl_op (op_call rfl (vf := []) (vc := []) rfl rfl Try.call20 (fun w ho => rNext_ok c st inn w (hc.at ho) hst hin) ?_)
  rintro _ _ (⟨hr, r, cp, rfl, rfl⟩ | ⟨hr, rfl, rfl⟩)
  · skip
    refine gl_op (op_rd rfl (rd_move rfl) ?_)
    refine gl_op (op_rd rfl (rd_extract rfl rfl) ?_)
    refine gl_op (op_rd rfl (rd_extract rfl rfl) ?_)
    refine gl_op (op_rd rfl (rd_assign rfl) ?_)
    refine gl_op (op_rd rfl (rd_assign rfl) ?_)
    refine gl_nil ?_
    refine gx_then ?_
    refine gc_seq ?_
    refine gc_region ?_
    refine gl_op (op_rd rfl (rd_move rfl) ?_)
    refine gl_op (op_rd rfl (rd_eql rfl rfl) ?_)
    refine gl_op (op_rd rfl (rd_assign rfl) ?_)
    refine gl_nil ?_
    refine gx_then ?_
    refine gc_ret ?_
    refine gx_ret1 (.inl rfl) Try.results13 rfl [] (by decide) ?_
    exact ⟨by rw [hr], rfl⟩
  · skip
    refine gl_op (op_rd rfl (rd_move rfl) ?_)
    refine gl_op (op_rd rfl (rd_extract rfl rfl) ?_)
    refine gl_op (op_rd rfl (rd_extract rfl rfl) ?_)
    refine gl_op (op_rd rfl (rd_assign rfl) ?_)
    refine gl_op (op_rd rfl (rd_assign rfl) ?_)
    refine gl_nil ?_
    refine gx_then ?_
    refine gc_seq ?_
    refine gc_region ?_
    refine gl_op (op_rd rfl (rd_move rfl) ?_)
    refine gl_op (op_rd rfl (rd_eql rfl rfl) ?_)
    refine gl_op (op_rd rfl (rd_assign rfl) ?_)
    refine gl_nil ?_
    refine gx_then ?_
    refine gc_ret ?_
    refine gx_ret1 (.inl rfl) Try.results13 rfl [] (by decide) ?_
    exact ⟨rfl, rfl⟩

end Go.Proofs.Yteocjpnckciboaa
