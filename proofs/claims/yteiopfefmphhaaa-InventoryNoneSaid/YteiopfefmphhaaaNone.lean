import Derived.Test.YteiopfefmphhaaaVf
/- This text proves InventoryNoneSaid: for all pipes, wishes and lists InventoryNone returns true, and its arguments read as before. -/
set_option linter.unusedSimpArgs false
set_option linter.unusedVariables false
set_option linter.unnecessarySimpa false
set_option autoImplicit false
set_option linter.unusedVariables false
namespace Go.Proofs.Yteiopfefmphhaaa
open Go.Gv
open Go.RowKit
open Iv
set_option maxRecDepth 100000 in
set_option maxHeartbeats 4000000 in
theorem InventoryNone_ok (l : List Pipe) (w : List Wish) (xs : List Int) (a b d : Option Addr) (ca cb cd : Nat) (w0 : World) (hl : OldSl w0 [] a l.length 3 (l.flatMap Pipe.cells)) (hw : OldSl w0 [] b w.length 5 (w.flatMap Wish.cells)) (hx : OldSl w0 [] d xs.length 1 (xs.map intV)) (hlb : l.length ≤ 140737488355328) (hwb : w.length ≤ 140737488355328) (hxb : xs.length ≤ 140737488355328) : Sp Try.prog 6 [.slice a l.length ca, .slice b w.length cb, .slice d xs.length cd] w0 [] (RV (.bool true)) := by
  refine spec_enter Try.func6 rfl Try.ntmps6 rfl (Own.refl _) ?_
  simp only [argEnv]
  refine gc_seq ?_
  refine gc_region ?_
  refine gl_op (op_rd rfl (rd_assign rfl) ?_)
  refine gl_nil ?_
  refine gx_then ?_
  refine gc_seq ?_
  refine gc_seq ?_
  refine gc_region ?_
  refine gl_op (op_rd rfl (rd_move rfl) ?_)
  refine gl_op (op_rd rfl (rd_lenSlice Try.underlying22 rfl) ?_)
  refine gl_op (op_rd rfl (rd_move rfl) ?_)
  refine gl_op (op_rd rfl (rd_lenSlice Try.underlying23 rfl) ?_)
  refine gl_op (op_rd rfl (by first | exact rd_addN rfl rfl (by omega) | exact rd_add rfl rfl (by omega) (by omega)) ?_)
  refine gl_op (op_rd rfl (rd_gtr rfl rfl) (gk_dec (fun h20 => ?_) (fun h20 => ?_)))
  · skip
    refine gl_op (op_rd rfl (rd_move rfl) ?_)
    refine gl_no rfl rfl rfl ?_
    refine gl_no rfl rfl rfl ?_
    refine gl_no rfl rfl rfl ?_
    refine gl_op (op_rd rfl (rd_pick_t rfl rfl) ?_)
    refine gl_nil ?_
    refine gx_then ?_
    refine gc_cond_t rfl ?_
    refine gc_seq ?_
    refine gc_region ?_
    refine gl_op (op_call rfl (vf := []) (vc := []) rfl rfl Try.call8 (fun w1 ho => shown_ok w1) ?_)
    rintro _ _ ⟨rfl, rfl⟩
    refine gl_op (op_rd rfl (rd_assign rfl) ?_)
    refine gl_nil ?_
    refine gx_then ?_
    refine gc_ret ?_
    refine gx_then_ret ?_
    refine gx_ret1 (.inl rfl) Try.results6 rfl [] (by decide) ?_
    exact ⟨rfl, rfl⟩
  · skip
    refine gl_op (op_rd rfl (rd_move rfl) ?_)
    refine gl_yes rfl rfl (op_rd rfl (rd_move rfl) ?_)
    refine gl_yes rfl rfl (op_rd rfl (rd_lenSlice Try.underlying39 rfl) ?_)
    refine gl_yes rfl rfl (op_rd rfl (rd_gtr rfl rfl) (gk_dec (fun h24 => ?_) (fun h24 => ?_)))
    · skip
      refine gl_op (op_rd rfl (rd_pick_f rfl rfl) ?_)
      refine gl_nil ?_
      refine gx_then ?_
      refine gc_cond_t rfl ?_
      refine gc_seq ?_
      refine gc_region ?_
      refine gl_op (op_call rfl (vf := []) (vc := []) rfl rfl Try.call8 (fun w1 ho => shown_ok w1) ?_)
      rintro _ _ ⟨rfl, rfl⟩
      refine gl_op (op_rd rfl (rd_assign rfl) ?_)
      refine gl_nil ?_
      refine gx_then ?_
      refine gc_ret ?_
      refine gx_then_ret ?_
      refine gx_ret1 (.inl rfl) Try.results6 rfl [] (by decide) ?_
      exact ⟨rfl, rfl⟩
    · skip
      refine gl_op (op_rd rfl (rd_pick_f rfl rfl) ?_)
      refine gl_nil ?_
      refine gx_then ?_
      refine gc_cond_f rfl ?_
      refine gc_skip ?_
      refine gx_then ?_
      refine gc_seq ?_
      refine gc_region ?_
      refine gl_op (op_rd rfl (rd_move rfl) ?_)
      refine gl_op (op_rd rfl (rd_move rfl) ?_)
      obtain ⟨res, cst, hbest, hbc⟩ := best_any l w
      refine gl_op (op_call rfl (vf := []) (vc := []) rfl rfl Try.call14 (fun w2 ho => Best_ok l w a b ca cb w2 (hl.at ho) (hw.at ho) hlb hwb res cst hbest) ?_)
      rintro _ _ ⟨rr, cr, rfl, rfl⟩
      refine gl_op (op_rd rfl (rd_move rfl) ?_)
      refine gl_op (op_rd rfl (rd_extract rfl rfl) ?_)
      refine gl_op (op_rd rfl (rd_extract rfl rfl) ?_)
      refine gl_op (op_rd rfl (rd_extract rfl rfl) ?_)
      refine gl_op (op_rd rfl (rd_assign rfl) ?_)
      refine gl_op (op_rd rfl (rd_assign rfl) ?_)
      refine gl_op (op_rd rfl (rd_assign rfl) ?_)
      refine gl_nil ?_
      refine gx_then ?_
      refine gc_seq ?_
      refine gc_seq ?_
      refine gc_region ?_
      refine gl_op (op_rd rfl (rd_move rfl) ?_)
      refine gl_op (op_rd rfl (rd_neq rfl rfl) (gk_dec (fun h35 => ?_) (fun h35 => ?_)))
      · skip
        have hck : checkP l w ≠ 0 := by omega
        obtain ⟨rfl, rfl⟩ := hbc.1 hck
        refine gl_nil ?_
        refine gx_then ?_
        refine gc_cond_t rfl ?_
        refine gc_seq ?_
        refine gc_region ?_
        refine gl_op (op_rd rfl (rd_move rfl) ?_)
        refine gl_op (op_rd rfl (rd_lenSlice Try.underlying39 rfl) ?_)
        refine gl_op (op_rd rfl (rd_eql rfl rfl) (gk_dec (fun hd1 => ?_) (fun hd1 => ?_)))
        · skip
          refine gl_op (op_rd rfl (rd_move rfl) ?_)
          refine gl_yes rfl rfl (op_rd rfl (rd_move rfl) ?_)
          refine gl_yes rfl rfl (op_rd rfl (rd_move rfl) ?_)
          refine gl_yes rfl rfl (op_call rfl (vf := []) (vc := []) rfl rfl Try.call12 (fun w1 ho => rCheck_ok l w a b ca cb w1 (hl.at ho) (hw.at ho) hlb hwb) ?_)
          rintro _ _ ⟨rfl, rfl⟩
          refine gl_yes rfl rfl (op_rd rfl (rd_move rfl) ?_)
          refine gl_yes rfl rfl (op_rd rfl (rd_eql rfl rfl) (gk_dec (fun hd2 => ?_) (fun hd2 => ?_)))
          · skip
            refine gl_op (op_rd rfl (rd_pick_t rfl rfl) ?_)
            refine gl_op (op_rd rfl (rd_move rfl) ?_)
            refine gl_yes rfl rfl (op_call rfl (vf := []) (vc := []) rfl rfl Try.call8 (fun w1 ho => shown_ok w1) ?_)
            rintro _ _ ⟨rfl, rfl⟩
            refine gl_op (op_rd rfl (rd_pick_t rfl rfl) ?_)
            refine gl_op (op_rd rfl (rd_assign rfl) ?_)
            refine gl_nil ?_
            refine gx_then ?_
            refine gc_ret ?_
            refine gx_then_ret ?_
            refine gx_ret1 (.inl rfl) Try.results6 rfl [] (by decide) ?_
            exact ⟨rfl, rfl⟩
          · skip
            exact absurd rfl (by assumption)
        · skip
          exact absurd rfl (by assumption)
      · skip
        have hck : checkP l w = 0 := by omega
        have hd := checkP_ok hck
        obtain ⟨ol, sum, hopt, rfl, rfl⟩ := hbc.2 hck
        obtain ⟨c, hmet, hcw, hkey, hb0, hb1⟩ := met_res hd hopt
        have hol := hopt.asg.len
        have hrl : (resI l ol).length = w.length := by rw [resI_len, hol]
        have hwn := hd.wn
        refine gl_nil ?_
        refine gx_then ?_
        refine gc_cond_f rfl ?_
        refine gc_skip ?_
        refine gx_then ?_
        refine gc_seq ?_
        refine gc_region ?_
        refine gl_op (op_rd rfl (rd_move rfl) ?_)
        refine gl_op (op_rd rfl (rd_move rfl) ?_)
        refine gl_op (op_rd rfl (rd_move rfl) ?_)
        refine gl_op (op_call rfl (vf := []) (vc := []) rfl rfl Try.call19 (fun w2 ho => Met_ok l w (resI l ol) a b (rowA rr) ca cb cr w2 (hl.at ho) (hw.at ho) (ho.rowSl 0 rfl) hd (by omega)) ?_)
        rintro _ _ ⟨rfl, rfl⟩
        rw [hmet]
        refine gl_op (op_rd rfl (rd_move rfl) ?_)
        refine gl_op (op_rd rfl (rd_extract rfl rfl) ?_)
        refine gl_op (op_rd rfl (rd_extract rfl rfl) ?_)
        refine gl_op (op_rd rfl (rd_assign rfl) ?_)
        refine gl_op (op_rd rfl (rd_assign rfl) ?_)
        refine gl_nil ?_
        refine gx_then ?_
        refine gc_seq ?_
        refine gc_seq ?_
        refine gc_region ?_
        refine gl_op (op_rd rfl (rd_move rfl) ?_)
        refine gl_op (op_rd rfl (rd_lss rfl rfl) (gk_dec (fun h57 => ?_) (fun h57 => ?_)))
        · skip
          exfalso; omega
        · skip
          refine gl_op (op_rd rfl (rd_move rfl) ?_)
          refine gl_yes rfl rfl (op_rd rfl (rd_move rfl) ?_)
          refine gl_yes rfl rfl (op_rd rfl (rd_move rfl) ?_)
          refine gl_yes rfl rfl (op_rd rfl (rd_neq rfl rfl) (gk_dec (fun h61 => ?_) (fun h61 => ?_)))
          · skip
            exact absurd rfl h61
          · skip
            refine gl_op (op_rd rfl (rd_pick_f rfl rfl) ?_)
            refine gl_nil ?_
            refine gx_then ?_
            refine gc_cond_f rfl ?_
            refine gc_skip ?_
            refine gx_then ?_
            refine gc_seq ?_
            refine gc_region ?_
            refine gl_op (op_rd rfl (rd_move rfl) ?_)
            refine gl_op (op_rd rfl (rd_move rfl) ?_)
            refine gl_op (op_rd rfl (rd_move rfl) ?_)
            refine gl_op (op_call rfl (vf := []) (vc := []) rfl rfl Try.call19 (fun w2 ho => Met_ok l w xs a b d ca cb cd w2 (hl.at ho) (hw.at ho) (hx.at ho) hd hxb) ?_)
            rintro _ _ ⟨rfl, rfl⟩
            refine gl_op (op_rd rfl (rd_move rfl) ?_)
            refine gl_op (op_rd rfl (rd_extract rfl rfl) ?_)
            refine gl_op (op_rd rfl (rd_extract rfl rfl) ?_)
            refine gl_op (op_rd rfl (rd_assign rfl) ?_)
            refine gl_op (op_rd rfl (rd_assign rfl) ?_)
            refine gl_nil ?_
            refine gx_then ?_
            refine gc_seq ?_
            refine gc_seq ?_
            obtain ⟨c2, k2, hm2, hcase⟩ : ∃ (c2 k2 : Int), metP l w xs = (c2, k2) ∧ ((c2 = -1 ∧ k2 = 0) ∨ ∃ n2 : Nat, c2 = n2 ∧ xs.length = w.length ∧ metTo l w xs w.length = some (n2, k2)) := met_case l w xs
            rw [hm2]
            have hno : ¬ c2 > (c : Int) := by
              rcases hcase with ⟨e1, _⟩ | ⟨n2, e1, e2, e3⟩
              · omega
              · have := (met_le hd hopt hkey hcw hb0 hb1 e2 e3).1; omega
            have hno2 : c2 = (c : Int) → ¬ k2 < sum.b := fun e => by
              rcases hcase with ⟨e1, _⟩ | ⟨n2, e1, e2, e3⟩
              · omega
              · have := (met_le hd hopt hkey hcw hb0 hb1 e2 e3).2.1 (by omega); omega
            refine gc_region ?_
            refine gl_op (op_rd rfl (rd_move rfl) ?_)
            refine gl_op (op_rd rfl (rd_move rfl) ?_)
            refine gl_op (op_rd rfl (rd_gtr rfl rfl) (gk_dec (fun h72 => ?_) (fun h72 => ?_)))
            · skip
              exact absurd h72 hno
            · skip
              refine gl_op (op_rd rfl (rd_move rfl) ?_)
              refine gl_yes rfl rfl (op_rd rfl (rd_move rfl) ?_)
              refine gl_yes rfl rfl (op_rd rfl (rd_move rfl) ?_)
              refine gl_yes rfl rfl (op_rd rfl (rd_eql rfl rfl) (gk_dec (fun h76 => ?_) (fun h76 => ?_)))
              · skip
                refine gl_yes rfl rfl (op_rd rfl (rd_move rfl) ?_)
                refine gl_yes rfl rfl (op_rd rfl (rd_move rfl) ?_)
                refine gl_yes rfl rfl (op_rd rfl (rd_move rfl) ?_)
                refine gl_yes rfl rfl (op_rd rfl (rd_lss rfl rfl) (gk_dec (fun h80 => ?_) (fun h80 => ?_)))
                · skip
                  exact absurd h80 (hno2 h76)
                · skip
                  refine gl_yes rfl rfl (op_rd rfl (rd_pick_t rfl rfl) ?_)
                  refine gl_op (op_rd rfl (rd_pick_f rfl rfl) ?_)
                  refine gl_nil ?_
                  refine gx_then ?_
                  refine gc_cond_f rfl ?_
                  refine gc_skip ?_
                  refine gx_then ?_
                  refine gc_seq ?_
                  refine gc_seq ?_
                  refine gc_region ?_
                  refine gl_op (op_rd rfl (rd_move rfl) ?_)
                  refine gl_op (op_rd rfl (rd_move rfl) ?_)
                  refine gl_op (op_rd rfl (rd_neq rfl rfl) (gk_dec (fun h85 => ?_) (fun h85 => ?_)))
                  · skip
                    refine gl_op (op_rd rfl (rd_move rfl) ?_)
                    refine gl_no rfl rfl rfl ?_
                    refine gl_no rfl rfl rfl ?_
                    refine gl_no rfl rfl rfl ?_
                    refine gl_op (op_rd rfl (rd_pick_t rfl rfl) ?_)
                    refine gl_nil ?_
                    refine gx_then ?_
                    refine gc_cond_t rfl ?_
                    refine gc_seq ?_
                    refine gc_region ?_
                    refine gl_op (op_call rfl (vf := []) (vc := []) rfl rfl Try.call8 (fun w1 ho => shown_ok w1) ?_)
                    rintro _ _ ⟨rfl, rfl⟩
                    refine gl_op (op_rd rfl (rd_assign rfl) ?_)
                    refine gl_nil ?_
                    refine gx_then ?_
                    refine gc_ret ?_
                    refine gx_then_ret ?_
                    refine gx_ret1 (.inl rfl) Try.results6 rfl [] (by decide) ?_
                    exact ⟨rfl, rfl⟩
                  · skip
                    refine gl_op (op_rd rfl (rd_move rfl) ?_)
                    refine gl_yes rfl rfl (op_rd rfl (rd_move rfl) ?_)
                    refine gl_yes rfl rfl (op_rd rfl (rd_move rfl) ?_)
                    refine gl_yes rfl rfl (op_rd rfl (rd_neq rfl rfl) (gk_dec (fun h89 => ?_) (fun h89 => ?_)))
                    · skip
                      refine gl_op (op_rd rfl (rd_pick_f rfl rfl) ?_)
                      refine gl_nil ?_
                      refine gx_then ?_
                      refine gc_cond_t rfl ?_
                      refine gc_seq ?_
                      refine gc_region ?_
                      refine gl_op (op_call rfl (vf := []) (vc := []) rfl rfl Try.call8 (fun w1 ho => shown_ok w1) ?_)
                      rintro _ _ ⟨rfl, rfl⟩
                      refine gl_op (op_rd rfl (rd_assign rfl) ?_)
                      refine gl_nil ?_
                      refine gx_then ?_
                      refine gc_ret ?_
                      refine gx_then_ret ?_
                      refine gx_ret1 (.inl rfl) Try.results6 rfl [] (by decide) ?_
                      exact ⟨rfl, rfl⟩
                    · skip
                      obtain ⟨hxl, hlex⟩ : xs.length = w.length ∧ LexLe ol (colsI l.length xs) := by
                        rcases hcase with ⟨e1, _⟩ | ⟨n2, e1, e2, e3⟩
                        · omega
                        · exact ⟨e2, (met_le hd hopt hkey hcw hb0 hb1 e2 e3).2.2 (by omega) (by omega)⟩
                      have hlx := lex_res hd hopt hxl (metok hcase (by omega)) hlex
                      refine gl_op (op_rd rfl (rd_pick_f rfl rfl) ?_)
                      refine gl_nil ?_
                      refine gx_then ?_
                      refine gc_cond_f rfl ?_
                      refine gc_skip ?_
                      refine gx_then ?_
                      refine gc_seq ?_
                      refine gc_seq ?_
                      refine gc_region ?_
                      refine gl_op (op_rd rfl (rd_assign rfl) ?_)
                      refine gl_nil ?_
                      refine gx_then ?_
                      refine gc_block ?_
                      refine gc_loopF (ι := Nat) [(2, _), (7, _)] [_] (fun j => j ≤ w.length ∧ ∀ q, q < j → (resI l ol).getD q 0 = xs.getD q 0) (fun j Fr0 => ((14, natV j) :: Fr0)) (fun j Fr0 => Fr0) (fun j => w.length - j) 0 (⟨Nat.zero_le _, fun q h => absurd h (Nat.not_lt_zero q)⟩) ⟨rfl, rfl, rfl, trivial⟩ ⟨[0], by decide, rfl⟩ ?_
                      rintro i ⟨hi, hsame⟩
                      refine gc_seq ?_
                      refine gc_seq ?_
                      refine gc_region ?_
                      refine gl_op (op_rd rfl (rd_move rfl) ?_)
                      refine gl_op (op_rd rfl (rd_move rfl) ?_)
                      refine gl_op (op_rd rfl (rd_lenSlice Try.underlying39 rfl) ?_)
                      refine gl_op (op_rd rfl (rd_lss rfl rfl) (gk_dec (fun hlt => ?_) (fun hlt => ?_)))
                      · skip
                        obtain ⟨r, hr⟩ := get_some (show i < (resI l ol).length by omega)
                        obtain ⟨z, hz⟩ := get_some (show i < xs.length by omega)
                        have hrd : (resI l ol).getD i 0 = r := getD_some hr
                        have hzd : xs.getD i 0 = z := getD_some hz
                        refine gl_nil ?_
                        refine gx_then ?_
                        refine gc_cond_t rfl ?_
                        refine gc_skip ?_
                        refine gx_then ?_
                        refine gc_seq ?_
                        refine gc_block ?_
                        refine gc_seq ?_
                        refine gc_drawP [0] true 8 rfl ?_
                        refine ga_first 0 #[true, false, false, false, false, false, false, false, false] rfl rfl rfl rfl (by kernel_rfl) rfl ⟨[0], by decide, rfl⟩ (qt_rd (rd_move rfl)) ?_
                        refine ga_first 1 #[true, true, false, false, false, false, false, false, false] rfl rfl rfl rfl (by kernel_rfl) rfl ⟨[0], by decide, rfl⟩ (qt_rd (rd_move rfl)) ?_
                        refine ga_first 2 #[true, true, true, false, false, false, false, false, false] rfl rfl rfl rfl (by kernel_rfl) rfl ⟨[0], by decide, rfl⟩ (qt_rd (rd_indexRow1 0 rfl Try.underlying39 ty_3 rfl rfl (by omega) (by omega))) ?_
                        refine ga_first 3 #[true, true, true, true, false, false, false, false, false] rfl rfl rfl rfl (by kernel_rfl) rfl ⟨[0], by decide, rfl⟩ (qt_rd (rd_load Try.underlying3 rfl rfl (ld_rowN 0 rfl (get_iv hr)))) ?_
                        refine ga_first 4 #[true, true, true, true, true, false, false, false, false] rfl rfl rfl rfl (by kernel_rfl) rfl ⟨[0], by decide, rfl⟩ (qt_rd (rd_move rfl)) ?_
                        refine ga_first 5 #[true, true, true, true, true, true, false, false, false] rfl rfl rfl rfl (by kernel_rfl) rfl ⟨[0], by decide, rfl⟩ (qt_rd (rd_move rfl)) ?_
                        refine ga_first 6 #[true, true, true, true, true, true, true, false, false] rfl rfl rfl rfl (by kernel_rfl) rfl ⟨[0], by decide, rfl⟩ (qt_rd (rd_indexOld1 hx Try.underlying39 ty_3 rfl rfl (by omega) (by omega))) ?_
                        refine ga_first 7 #[true, true, true, true, true, true, true, true, false] rfl rfl rfl rfl (by kernel_rfl) rfl ⟨[0], by decide, rfl⟩ (qt_rd (rd_load Try.underlying3 rfl rfl (ld_slN hx (get_iv hz)))) ?_
                        refine ga_first 8 #[true, true, true, true, true, true, true, true, true] rfl rfl rfl rfl (by kernel_rfl) rfl ⟨[0], by decide, rfl⟩ (qt_rd (rd_neq rfl rfl)) (gk_dec (fun h106 => ?_) (fun h106 => ?_))
                        · skip
                          have hfirst := hlx i (by omega) hsame (by rw [hrd, hzd]; exact h106)
                          rw [hrd, hzd] at hfirst
                          refine ga_end (by kernel_rfl) (.inr ⟨[0], by decide, rfl⟩) ?_
                          refine gx_then ?_
                          refine gc_cond_t rfl ?_
                          refine gc_seq ?_
                          refine gc_drawP [0] true 26 rfl ?_
                          refine ga_first 0 #[true, false, false, false, false, false, false, false, false, false, false, false, false, false, false, false, false, false, false, false, false, false, false, false, false, false, false] rfl rfl rfl rfl (by kernel_rfl) rfl ⟨[0], by decide, rfl⟩ (qt_rd (rd_move rfl)) ?_
                          refine ga_first 1 #[true, true, false, false, false, false, false, false, false, false, false, false, false, false, false, false, false, false, false, false, false, false, false, false, false, false, false] rfl rfl rfl rfl (by kernel_rfl) rfl ⟨[0], by decide, rfl⟩ (qt_rd (rd_move rfl)) ?_
                          refine ga_first 2 #[true, true, true, false, false, false, false, false, false, false, false, false, false, false, false, false, false, false, false, false, false, false, false, false, false, false, false] rfl rfl rfl rfl (by kernel_rfl) rfl ⟨[0], by decide, rfl⟩ (qt_rd (rd_indexOld1 hx Try.underlying39 ty_3 rfl rfl (by omega) (by omega))) ?_
                          refine ga_first 3 #[true, true, true, true, false, false, false, false, false, false, false, false, false, false, false, false, false, false, false, false, false, false, false, false, false, false, false] rfl rfl rfl rfl (by kernel_rfl) rfl ⟨[0], by decide, rfl⟩ (qt_rd (rd_load Try.underlying3 rfl rfl (ld_slN hx (get_iv hz)))) ?_
                          refine ga_first 4 #[true, true, true, true, true, false, false, false, false, false, false, false, false, false, false, false, false, false, false, false, false, false, false, false, false, false, false] rfl rfl rfl rfl (by kernel_rfl) rfl ⟨[0], by decide, rfl⟩ (qt_rd (rd_eql rfl rfl)) (gk_dec (fun h111 => ?_) (fun h111 => ?_))
                          · skip
                            refine ga_first 5 #[true, true, true, true, true, true, false, false, false, false, false, false, false, false, false, false, false, false, false, false, false, false, false, false, false, false, false] rfl rfl rfl rfl (by kernel_rfl) rfl ⟨[0], by decide, rfl⟩ (qt_rd (rd_move rfl)) ?_
                            refine ga_firstN 6 #[true, true, true, true, true, true, true, false, false, false, false, false, false, false, false, false, false, false, false, false, false, false, false, false, false, false, false] rfl rfl rfl rfl rfl rfl (by kernel_rfl) rfl ⟨[0], by decide, rfl⟩ ?_
                            refine ga_firstN 7 #[true, true, true, true, true, true, true, true, false, false, false, false, false, false, false, false, false, false, false, false, false, false, false, false, false, false, false] rfl rfl rfl rfl rfl rfl (by kernel_rfl) rfl ⟨[0], by decide, rfl⟩ ?_
                            refine ga_firstN 8 #[true, true, true, true, true, true, true, true, true, false, false, false, false, false, false, false, false, false, false, false, false, false, false, false, false, false, false] rfl rfl rfl rfl rfl rfl (by kernel_rfl) rfl ⟨[0], by decide, rfl⟩ ?_
                            refine ga_firstN 9 #[true, true, true, true, true, true, true, true, true, true, false, false, false, false, false, false, false, false, false, false, false, false, false, false, false, false, false] rfl rfl rfl rfl rfl rfl (by kernel_rfl) rfl ⟨[0], by decide, rfl⟩ ?_
                            refine ga_firstN 10 #[true, true, true, true, true, true, true, true, true, true, true, false, false, false, false, false, false, false, false, false, false, false, false, false, false, false, false] rfl rfl rfl rfl rfl rfl (by kernel_rfl) rfl ⟨[0], by decide, rfl⟩ ?_
                            refine ga_firstN 11 #[true, true, true, true, true, true, true, true, true, true, true, true, false, false, false, false, false, false, false, false, false, false, false, false, false, false, false] rfl rfl rfl rfl rfl rfl (by kernel_rfl) rfl ⟨[0], by decide, rfl⟩ ?_
                            refine ga_firstNU 12 #[true, true, true, true, true, true, true, true, true, true, true, true, true, false, false, false, false, false, false, false, false, false, false, false, false, false, false] rfl rfl rfl rfl rfl rfl (by kernel_rfl) rfl ⟨[0], by decide, rfl⟩ ?_
                            refine ga_firstNU 13 #[true, true, true, true, true, true, true, true, true, true, true, true, true, true, false, false, false, false, false, false, false, false, false, false, false, false, false] rfl rfl rfl rfl rfl rfl (by kernel_rfl) rfl ⟨[0], by decide, rfl⟩ ?_
                            refine ga_firstNU 14 #[true, true, true, true, true, true, true, true, true, true, true, true, true, true, true, false, false, false, false, false, false, false, false, false, false, false, false] rfl rfl rfl rfl rfl rfl (by kernel_rfl) rfl ⟨[0], by decide, rfl⟩ ?_
                            refine ga_firstNU 15 #[true, true, true, true, true, true, true, true, true, true, true, true, true, true, true, true, false, false, false, false, false, false, false, false, false, false, false] rfl rfl rfl rfl rfl rfl (by kernel_rfl) rfl ⟨[0], by decide, rfl⟩ ?_
                            refine ga_firstNU 16 #[true, true, true, true, true, true, true, true, true, true, true, true, true, true, true, true, true, false, false, false, false, false, false, false, false, false, false] rfl rfl rfl rfl rfl rfl (by kernel_rfl) rfl ⟨[0], by decide, rfl⟩ ?_
                            refine ga_firstNU 17 #[true, true, true, true, true, true, true, true, true, true, true, true, true, true, true, true, true, true, false, false, false, false, false, false, false, false, false] rfl rfl rfl rfl rfl rfl (by kernel_rfl) rfl ⟨[0], by decide, rfl⟩ ?_
                            refine ga_firstNU 18 #[true, true, true, true, true, true, true, true, true, true, true, true, true, true, true, true, true, true, true, false, false, false, false, false, false, false, false] rfl rfl rfl rfl rfl rfl (by kernel_rfl) rfl ⟨[0], by decide, rfl⟩ ?_
                            refine ga_firstNU 19 #[true, true, true, true, true, true, true, true, true, true, true, true, true, true, true, true, true, true, true, true, false, false, false, false, false, false, false] rfl rfl rfl rfl rfl rfl (by kernel_rfl) rfl ⟨[0], by decide, rfl⟩ ?_
                            refine ga_firstNU 20 #[true, true, true, true, true, true, true, true, true, true, true, true, true, true, true, true, true, true, true, true, true, false, false, false, false, false, false] rfl rfl rfl rfl rfl rfl (by kernel_rfl) rfl ⟨[0], by decide, rfl⟩ ?_
                            refine ga_firstN 21 #[true, true, true, true, true, true, true, true, true, true, true, true, true, true, true, true, true, true, true, true, true, true, false, false, false, false, false] rfl rfl rfl rfl rfl rfl (by kernel_rfl) rfl ⟨[0], by decide, rfl⟩ ?_
                            refine ga_first 22 #[true, true, true, true, true, true, true, true, true, true, true, true, true, true, true, true, true, true, true, true, true, true, true, false, false, false, false] rfl rfl rfl rfl (by kernel_rfl) rfl ⟨[0], by decide, rfl⟩ (qt_rd (rd_pick_t rfl rfl)) ?_
                            refine ga_first 23 #[true, true, true, true, true, true, true, true, true, true, true, true, true, true, true, true, true, true, true, true, true, true, true, true, false, false, false] rfl rfl rfl rfl (by kernel_rfl) rfl ⟨[0], by decide, rfl⟩ (qt_rd (rd_move rfl)) ?_
                            refine ga_firstY 24 #[true, true, true, true, true, true, true, true, true, true, true, true, true, true, true, true, true, true, true, true, true, true, true, true, true, false, false] rfl rfl rfl rfl rfl rfl (by kernel_rfl) rfl ⟨[0], by decide, rfl⟩ (qt_call (vf := []) (vc := []) rfl rfl Try.call8 (fun w1 ho => shown_ok w1) (by rintro _ _ ⟨h, _⟩; exact h)) ?_
                            refine ga_first 25 #[true, true, true, true, true, true, true, true, true, true, true, true, true, true, true, true, true, true, true, true, true, true, true, true, true, true, false] rfl rfl rfl rfl (by kernel_rfl) rfl ⟨[0], by decide, rfl⟩ (qt_rd (rd_pick_t rfl rfl)) ?_
                            refine ga_first 26 #[true, true, true, true, true, true, true, true, true, true, true, true, true, true, true, true, true, true, true, true, true, true, true, true, true, true, true] rfl rfl rfl rfl (by kernel_rfl) rfl ⟨[0], by decide, rfl⟩ (qt_rd (rd_assign rfl)) ?_
                            refine ga_end (by kernel_rfl) (.inr ⟨[0], by decide, rfl⟩) ?_
                            refine gx_then ?_
                            refine gc_ret ?_
                            refine gx_block_ret ?_
                            refine gx_then_ret ?_
                            refine gx_then_ret ?_
                            refine gx_block_ret ?_
                            refine gx_then_ret ?_
                            refine gx_ret1 (.inl rfl) Try.results6 rfl [] (by decide) ?_
                            exact ⟨rfl, rfl⟩
                          · skip
                            refine ga_first 5 #[true, true, true, true, true, true, false, false, false, false, false, false, false, false, false, false, false, false, false, false, false, false, false, false, false, false, false] rfl rfl rfl rfl (by kernel_rfl) rfl ⟨[0], by decide, rfl⟩ (qt_rd (rd_move rfl)) ?_
                            refine ga_firstY 6 #[true, true, true, true, true, true, true, false, false, false, false, false, false, false, false, false, false, false, false, false, false, false, false, false, false, false, false] rfl rfl rfl rfl rfl rfl (by kernel_rfl) rfl ⟨[0], by decide, rfl⟩ (qt_rd (rd_move rfl)) ?_
                            refine ga_firstY 7 #[true, true, true, true, true, true, true, true, false, false, false, false, false, false, false, false, false, false, false, false, false, false, false, false, false, false, false] rfl rfl rfl rfl rfl rfl (by kernel_rfl) rfl ⟨[0], by decide, rfl⟩ (qt_rd (rd_move rfl)) ?_
                            refine ga_firstY 8 #[true, true, true, true, true, true, true, true, true, false, false, false, false, false, false, false, false, false, false, false, false, false, false, false, false, false, false] rfl rfl rfl rfl rfl rfl (by kernel_rfl) rfl ⟨[0], by decide, rfl⟩ (qt_rd (rd_indexRow1 0 rfl Try.underlying39 ty_3 rfl rfl (by omega) (by omega))) ?_
                            refine ga_firstY 9 #[true, true, true, true, true, true, true, true, true, true, false, false, false, false, false, false, false, false, false, false, false, false, false, false, false, false, false] rfl rfl rfl rfl rfl rfl (by kernel_rfl) rfl ⟨[0], by decide, rfl⟩ (qt_rd (rd_load Try.underlying3 rfl rfl (ld_rowN 0 rfl (get_iv hr)))) ?_
                            refine ga_firstY 10 #[true, true, true, true, true, true, true, true, true, true, true, false, false, false, false, false, false, false, false, false, false, false, false, false, false, false, false] rfl rfl rfl rfl rfl rfl (by kernel_rfl) rfl ⟨[0], by decide, rfl⟩ (qt_rd (rd_geq rfl rfl)) (gk_dec (fun h117 => ?_) (fun h117 => ?_))
                            · skip
                              refine ga_firstY 11 #[true, true, true, true, true, true, true, true, true, true, true, true, false, false, false, false, false, false, false, false, false, false, false, false, false, false, false] rfl rfl rfl rfl rfl rfl (by kernel_rfl) rfl ⟨[0], by decide, rfl⟩ (qt_rd (rd_move rfl)) ?_
                              refine ga_firstY 12 #[true, true, true, true, true, true, true, true, true, true, true, true, true, false, false, false, false, false, false, false, false, false, false, false, false, false, false] rfl rfl rfl rfl rfl rfl (by kernel_rfl) rfl ⟨[0], by decide, rfl⟩ (qt_rd (rd_move rfl)) ?_
                              refine ga_firstY 13 #[true, true, true, true, true, true, true, true, true, true, true, true, true, true, false, false, false, false, false, false, false, false, false, false, false, false, false] rfl rfl rfl rfl rfl rfl (by kernel_rfl) rfl ⟨[0], by decide, rfl⟩ (qt_rd (rd_move rfl)) ?_
                              refine ga_firstY 14 #[true, true, true, true, true, true, true, true, true, true, true, true, true, true, true, false, false, false, false, false, false, false, false, false, false, false, false] rfl rfl rfl rfl rfl rfl (by kernel_rfl) rfl ⟨[0], by decide, rfl⟩ (qt_rd (rd_indexRow1 0 rfl Try.underlying39 ty_3 rfl rfl (by omega) (by omega))) ?_
                              refine ga_firstY 15 #[true, true, true, true, true, true, true, true, true, true, true, true, true, true, true, true, false, false, false, false, false, false, false, false, false, false, false] rfl rfl rfl rfl rfl rfl (by kernel_rfl) rfl ⟨[0], by decide, rfl⟩ (qt_rd (rd_load Try.underlying3 rfl rfl (ld_rowN 0 rfl (get_iv hr)))) ?_
                              refine ga_firstY 16 #[true, true, true, true, true, true, true, true, true, true, true, true, true, true, true, true, true, false, false, false, false, false, false, false, false, false, false] rfl rfl rfl rfl rfl rfl (by kernel_rfl) rfl ⟨[0], by decide, rfl⟩ (qt_rd (rd_move rfl)) ?_
                              refine ga_firstY 17 #[true, true, true, true, true, true, true, true, true, true, true, true, true, true, true, true, true, true, false, false, false, false, false, false, false, false, false] rfl rfl rfl rfl rfl rfl (by kernel_rfl) rfl ⟨[0], by decide, rfl⟩ (qt_rd (rd_move rfl)) ?_
                              refine ga_firstY 18 #[true, true, true, true, true, true, true, true, true, true, true, true, true, true, true, true, true, true, true, false, false, false, false, false, false, false, false] rfl rfl rfl rfl rfl rfl (by kernel_rfl) rfl ⟨[0], by decide, rfl⟩ (qt_rd (rd_indexOld1 hx Try.underlying39 ty_3 rfl rfl (by omega) (by omega))) ?_
                              refine ga_firstY 19 #[true, true, true, true, true, true, true, true, true, true, true, true, true, true, true, true, true, true, true, true, false, false, false, false, false, false, false] rfl rfl rfl rfl rfl rfl (by kernel_rfl) rfl ⟨[0], by decide, rfl⟩ (qt_rd (rd_load Try.underlying3 rfl rfl (ld_slN hx (get_iv hz)))) ?_
                              refine ga_firstY 20 #[true, true, true, true, true, true, true, true, true, true, true, true, true, true, true, true, true, true, true, true, true, false, false, false, false, false, false] rfl rfl rfl rfl rfl rfl (by kernel_rfl) rfl ⟨[0], by decide, rfl⟩ (qt_rd (rd_lss rfl rfl)) (gk_dec (fun h127 => ?_) (fun h127 => ?_))
                              · skip
                                refine ga_firstY 21 #[true, true, true, true, true, true, true, true, true, true, true, true, true, true, true, true, true, true, true, true, true, true, false, false, false, false, false] rfl rfl rfl rfl rfl rfl (by kernel_rfl) rfl ⟨[0], by decide, rfl⟩ (qt_rd (rd_pick_t rfl rfl)) ?_
                                refine ga_first 22 #[true, true, true, true, true, true, true, true, true, true, true, true, true, true, true, true, true, true, true, true, true, true, true, false, false, false, false] rfl rfl rfl rfl (by kernel_rfl) rfl ⟨[0], by decide, rfl⟩ (qt_rd (rd_pick_f rfl rfl)) ?_
                                refine ga_first 23 #[true, true, true, true, true, true, true, true, true, true, true, true, true, true, true, true, true, true, true, true, true, true, true, true, false, false, false] rfl rfl rfl rfl (by kernel_rfl) rfl ⟨[0], by decide, rfl⟩ (qt_rd (rd_move rfl)) ?_
                                refine ga_firstY 24 #[true, true, true, true, true, true, true, true, true, true, true, true, true, true, true, true, true, true, true, true, true, true, true, true, true, false, false] rfl rfl rfl rfl rfl rfl (by kernel_rfl) rfl ⟨[0], by decide, rfl⟩ (qt_call (vf := []) (vc := []) rfl rfl Try.call8 (fun w1 ho => shown_ok w1) (by rintro _ _ ⟨h, _⟩; exact h)) ?_
                                refine ga_first 25 #[true, true, true, true, true, true, true, true, true, true, true, true, true, true, true, true, true, true, true, true, true, true, true, true, true, true, false] rfl rfl rfl rfl (by kernel_rfl) rfl ⟨[0], by decide, rfl⟩ (qt_rd (rd_pick_t rfl rfl)) ?_
                                refine ga_first 26 #[true, true, true, true, true, true, true, true, true, true, true, true, true, true, true, true, true, true, true, true, true, true, true, true, true, true, true] rfl rfl rfl rfl (by kernel_rfl) rfl ⟨[0], by decide, rfl⟩ (qt_rd (rd_assign rfl)) ?_
                                refine ga_end (by kernel_rfl) (.inr ⟨[0], by decide, rfl⟩) ?_
                                refine gx_then ?_
                                refine gc_ret ?_
                                refine gx_block_ret ?_
                                refine gx_then_ret ?_
                                refine gx_then_ret ?_
                                refine gx_block_ret ?_
                                refine gx_then_ret ?_
                                refine gx_ret1 (.inl rfl) Try.results6 rfl [] (by decide) ?_
                                exact ⟨rfl, rfl⟩
                              · skip
                                exfalso; omega
                            · skip
                              exfalso; omega
                        · skip
                          refine ga_end (by kernel_rfl) (.inr ⟨[0], by decide, rfl⟩) ?_
                          refine gx_then ?_
                          refine gc_cond_f rfl ?_
                          refine gc_skip ?_
                          refine gx_block ?_
                          refine gx_then ?_
                          refine gc_region ?_
                          refine gl_op (op_rd rfl (rd_move rfl) ?_)
                          refine gl_op (op_rd rfl (by first | exact rd_addN (b := 1) rfl rfl (by omega) | exact rd_add rfl rfl (by omega) (by omega)) ?_)
                          refine gl_op (op_rd rfl (rd_assign rfl) ?_)
                          refine gl_nil ?_
                          refine gx_then ?_
                          exact gx_cut (i + 1) ⟨⟨by omega, fun q hq => by rcases Nat.lt_succ_iff_lt_or_eq.1 hq with h | rfl; exact hsame q h; rw [hrd, hzd]; omega⟩, by omega⟩ ⟨rfl, rfl, rfl, trivial⟩ ⟨[0], by decide, rfl⟩
                      · skip
                        refine gl_nil ?_
                        refine gx_then ?_
                        refine gc_cond_f rfl ?_
                        refine gc_exit ?_
                        refine gx_then_exit ?_
                        refine gx_then_exit ?_
                        refine gx_block_exit ?_
                        refine gx_then ?_
                        refine gc_seq ?_
                        refine gc_region ?_
                        refine gl_op (op_call rfl (vf := []) (vc := []) rfl rfl Try.call8 (fun w1 ho => shown_ok w1) ?_)
                        rintro _ _ ⟨rfl, rfl⟩
                        refine gl_op (op_rd rfl (rd_assign rfl) ?_)
                        refine gl_nil ?_
                        refine gx_then ?_
                        refine gc_ret ?_
                        refine gx_ret1 (.inl rfl) Try.results6 rfl [] (by decide) ?_
                        exact ⟨rfl, rfl⟩
              · skip
                refine gl_yes rfl rfl (op_rd rfl (rd_move rfl) ?_)
                refine gl_no rfl rfl rfl ?_
                refine gl_no rfl rfl rfl ?_
                refine gl_no rfl rfl rfl ?_
                refine gl_yes rfl rfl (op_rd rfl (rd_pick_f rfl rfl) ?_)
                refine gl_op (op_rd rfl (rd_pick_f rfl rfl) ?_)
                refine gl_nil ?_
                refine gx_then ?_
                refine gc_cond_f rfl ?_
                refine gc_skip ?_
                refine gx_then ?_
                refine gc_seq ?_
                refine gc_seq ?_
                refine gc_region ?_
                refine gl_op (op_rd rfl (rd_move rfl) ?_)
                refine gl_op (op_rd rfl (rd_move rfl) ?_)
                refine gl_op (op_rd rfl (rd_neq rfl rfl) (gk_dec (fun h85 => ?_) (fun h85 => ?_)))
                · skip
                  refine gl_op (op_rd rfl (rd_move rfl) ?_)
                  refine gl_no rfl rfl rfl ?_
                  refine gl_no rfl rfl rfl ?_
                  refine gl_no rfl rfl rfl ?_
                  refine gl_op (op_rd rfl (rd_pick_t rfl rfl) ?_)
                  refine gl_nil ?_
                  refine gx_then ?_
                  refine gc_cond_t rfl ?_
                  refine gc_seq ?_
                  refine gc_region ?_
                  refine gl_op (op_call rfl (vf := []) (vc := []) rfl rfl Try.call8 (fun w1 ho => shown_ok w1) ?_)
                  rintro _ _ ⟨rfl, rfl⟩
                  refine gl_op (op_rd rfl (rd_assign rfl) ?_)
                  refine gl_nil ?_
                  refine gx_then ?_
                  refine gc_ret ?_
                  refine gx_then_ret ?_
                  refine gx_ret1 (.inl rfl) Try.results6 rfl [] (by decide) ?_
                  exact ⟨rfl, rfl⟩
                · skip
                  refine gl_op (op_rd rfl (rd_move rfl) ?_)
                  refine gl_yes rfl rfl (op_rd rfl (rd_move rfl) ?_)
                  refine gl_yes rfl rfl (op_rd rfl (rd_move rfl) ?_)
                  refine gl_yes rfl rfl (op_rd rfl (rd_neq rfl rfl) (gk_dec (fun h89 => ?_) (fun h89 => ?_)))
                  · skip
                    refine gl_op (op_rd rfl (rd_pick_f rfl rfl) ?_)
                    refine gl_nil ?_
                    refine gx_then ?_
                    refine gc_cond_t rfl ?_
                    refine gc_seq ?_
                    refine gc_region ?_
                    refine gl_op (op_call rfl (vf := []) (vc := []) rfl rfl Try.call8 (fun w1 ho => shown_ok w1) ?_)
                    rintro _ _ ⟨rfl, rfl⟩
                    refine gl_op (op_rd rfl (rd_assign rfl) ?_)
                    refine gl_nil ?_
                    refine gx_then ?_
                    refine gc_ret ?_
                    refine gx_then_ret ?_
                    refine gx_ret1 (.inl rfl) Try.results6 rfl [] (by decide) ?_
                    exact ⟨rfl, rfl⟩
                  · skip
                    obtain ⟨hxl, hlex⟩ : xs.length = w.length ∧ LexLe ol (colsI l.length xs) := by
                      rcases hcase with ⟨e1, _⟩ | ⟨n2, e1, e2, e3⟩
                      · omega
                      · exact ⟨e2, (met_le hd hopt hkey hcw hb0 hb1 e2 e3).2.2 (by omega) (by omega)⟩
                    have hlx := lex_res hd hopt hxl (metok hcase (by omega)) hlex
                    refine gl_op (op_rd rfl (rd_pick_f rfl rfl) ?_)
                    refine gl_nil ?_
                    refine gx_then ?_
                    refine gc_cond_f rfl ?_
                    refine gc_skip ?_
                    refine gx_then ?_
                    refine gc_seq ?_
                    refine gc_seq ?_
                    refine gc_region ?_
                    refine gl_op (op_rd rfl (rd_assign rfl) ?_)
                    refine gl_nil ?_
                    refine gx_then ?_
                    refine gc_block ?_
                    refine gc_loopF (ι := Nat) [(2, _), (7, _)] [_] (fun j => j ≤ w.length ∧ ∀ q, q < j → (resI l ol).getD q 0 = xs.getD q 0) (fun j Fr0 => ((14, natV j) :: Fr0)) (fun j Fr0 => Fr0) (fun j => w.length - j) 0 (⟨Nat.zero_le _, fun q h => absurd h (Nat.not_lt_zero q)⟩) ⟨rfl, rfl, rfl, trivial⟩ ⟨[0], by decide, rfl⟩ ?_
                    rintro i ⟨hi, hsame⟩
                    refine gc_seq ?_
                    refine gc_seq ?_
                    refine gc_region ?_
                    refine gl_op (op_rd rfl (rd_move rfl) ?_)
                    refine gl_op (op_rd rfl (rd_move rfl) ?_)
                    refine gl_op (op_rd rfl (rd_lenSlice Try.underlying39 rfl) ?_)
                    refine gl_op (op_rd rfl (rd_lss rfl rfl) (gk_dec (fun hlt => ?_) (fun hlt => ?_)))
                    · skip
                      obtain ⟨r, hr⟩ := get_some (show i < (resI l ol).length by omega)
                      obtain ⟨z, hz⟩ := get_some (show i < xs.length by omega)
                      have hrd : (resI l ol).getD i 0 = r := getD_some hr
                      have hzd : xs.getD i 0 = z := getD_some hz
                      refine gl_nil ?_
                      refine gx_then ?_
                      refine gc_cond_t rfl ?_
                      refine gc_skip ?_
                      refine gx_then ?_
                      refine gc_seq ?_
                      refine gc_block ?_
                      refine gc_seq ?_
                      refine gc_drawP [0] true 8 rfl ?_
                      refine ga_first 0 #[true, false, false, false, false, false, false, false, false] rfl rfl rfl rfl (by kernel_rfl) rfl ⟨[0], by decide, rfl⟩ (qt_rd (rd_move rfl)) ?_
                      refine ga_first 1 #[true, true, false, false, false, false, false, false, false] rfl rfl rfl rfl (by kernel_rfl) rfl ⟨[0], by decide, rfl⟩ (qt_rd (rd_move rfl)) ?_
                      refine ga_first 2 #[true, true, true, false, false, false, false, false, false] rfl rfl rfl rfl (by kernel_rfl) rfl ⟨[0], by decide, rfl⟩ (qt_rd (rd_indexRow1 0 rfl Try.underlying39 ty_3 rfl rfl (by omega) (by omega))) ?_
                      refine ga_first 3 #[true, true, true, true, false, false, false, false, false] rfl rfl rfl rfl (by kernel_rfl) rfl ⟨[0], by decide, rfl⟩ (qt_rd (rd_load Try.underlying3 rfl rfl (ld_rowN 0 rfl (get_iv hr)))) ?_
                      refine ga_first 4 #[true, true, true, true, true, false, false, false, false] rfl rfl rfl rfl (by kernel_rfl) rfl ⟨[0], by decide, rfl⟩ (qt_rd (rd_move rfl)) ?_
                      refine ga_first 5 #[true, true, true, true, true, true, false, false, false] rfl rfl rfl rfl (by kernel_rfl) rfl ⟨[0], by decide, rfl⟩ (qt_rd (rd_move rfl)) ?_
                      refine ga_first 6 #[true, true, true, true, true, true, true, false, false] rfl rfl rfl rfl (by kernel_rfl) rfl ⟨[0], by decide, rfl⟩ (qt_rd (rd_indexOld1 hx Try.underlying39 ty_3 rfl rfl (by omega) (by omega))) ?_
                      refine ga_first 7 #[true, true, true, true, true, true, true, true, false] rfl rfl rfl rfl (by kernel_rfl) rfl ⟨[0], by decide, rfl⟩ (qt_rd (rd_load Try.underlying3 rfl rfl (ld_slN hx (get_iv hz)))) ?_
                      refine ga_first 8 #[true, true, true, true, true, true, true, true, true] rfl rfl rfl rfl (by kernel_rfl) rfl ⟨[0], by decide, rfl⟩ (qt_rd (rd_neq rfl rfl)) (gk_dec (fun h106 => ?_) (fun h106 => ?_))
                      · skip
                        have hfirst := hlx i (by omega) hsame (by rw [hrd, hzd]; exact h106)
                        rw [hrd, hzd] at hfirst
                        refine ga_end (by kernel_rfl) (.inr ⟨[0], by decide, rfl⟩) ?_
                        refine gx_then ?_
                        refine gc_cond_t rfl ?_
                        refine gc_seq ?_
                        refine gc_drawP [0] true 26 rfl ?_
                        refine ga_first 0 #[true, false, false, false, false, false, false, false, false, false, false, false, false, false, false, false, false, false, false, false, false, false, false, false, false, false, false] rfl rfl rfl rfl (by kernel_rfl) rfl ⟨[0], by decide, rfl⟩ (qt_rd (rd_move rfl)) ?_
                        refine ga_first 1 #[true, true, false, false, false, false, false, false, false, false, false, false, false, false, false, false, false, false, false, false, false, false, false, false, false, false, false] rfl rfl rfl rfl (by kernel_rfl) rfl ⟨[0], by decide, rfl⟩ (qt_rd (rd_move rfl)) ?_
                        refine ga_first 2 #[true, true, true, false, false, false, false, false, false, false, false, false, false, false, false, false, false, false, false, false, false, false, false, false, false, false, false] rfl rfl rfl rfl (by kernel_rfl) rfl ⟨[0], by decide, rfl⟩ (qt_rd (rd_indexOld1 hx Try.underlying39 ty_3 rfl rfl (by omega) (by omega))) ?_
                        refine ga_first 3 #[true, true, true, true, false, false, false, false, false, false, false, false, false, false, false, false, false, false, false, false, false, false, false, false, false, false, false] rfl rfl rfl rfl (by kernel_rfl) rfl ⟨[0], by decide, rfl⟩ (qt_rd (rd_load Try.underlying3 rfl rfl (ld_slN hx (get_iv hz)))) ?_
                        refine ga_first 4 #[true, true, true, true, true, false, false, false, false, false, false, false, false, false, false, false, false, false, false, false, false, false, false, false, false, false, false] rfl rfl rfl rfl (by kernel_rfl) rfl ⟨[0], by decide, rfl⟩ (qt_rd (rd_eql rfl rfl)) (gk_dec (fun h111 => ?_) (fun h111 => ?_))
                        · skip
                          refine ga_first 5 #[true, true, true, true, true, true, false, false, false, false, false, false, false, false, false, false, false, false, false, false, false, false, false, false, false, false, false] rfl rfl rfl rfl (by kernel_rfl) rfl ⟨[0], by decide, rfl⟩ (qt_rd (rd_move rfl)) ?_
                          refine ga_firstN 6 #[true, true, true, true, true, true, true, false, false, false, false, false, false, false, false, false, false, false, false, false, false, false, false, false, false, false, false] rfl rfl rfl rfl rfl rfl (by kernel_rfl) rfl ⟨[0], by decide, rfl⟩ ?_
                          refine ga_firstN 7 #[true, true, true, true, true, true, true, true, false, false, false, false, false, false, false, false, false, false, false, false, false, false, false, false, false, false, false] rfl rfl rfl rfl rfl rfl (by kernel_rfl) rfl ⟨[0], by decide, rfl⟩ ?_
                          refine ga_firstN 8 #[true, true, true, true, true, true, true, true, true, false, false, false, false, false, false, false, false, false, false, false, false, false, false, false, false, false, false] rfl rfl rfl rfl rfl rfl (by kernel_rfl) rfl ⟨[0], by decide, rfl⟩ ?_
                          refine ga_firstN 9 #[true, true, true, true, true, true, true, true, true, true, false, false, false, false, false, false, false, false, false, false, false, false, false, false, false, false, false] rfl rfl rfl rfl rfl rfl (by kernel_rfl) rfl ⟨[0], by decide, rfl⟩ ?_
                          refine ga_firstN 10 #[true, true, true, true, true, true, true, true, true, true, true, false, false, false, false, false, false, false, false, false, false, false, false, false, false, false, false] rfl rfl rfl rfl rfl rfl (by kernel_rfl) rfl ⟨[0], by decide, rfl⟩ ?_
                          refine ga_firstN 11 #[true, true, true, true, true, true, true, true, true, true, true, true, false, false, false, false, false, false, false, false, false, false, false, false, false, false, false] rfl rfl rfl rfl rfl rfl (by kernel_rfl) rfl ⟨[0], by decide, rfl⟩ ?_
                          refine ga_firstNU 12 #[true, true, true, true, true, true, true, true, true, true, true, true, true, false, false, false, false, false, false, false, false, false, false, false, false, false, false] rfl rfl rfl rfl rfl rfl (by kernel_rfl) rfl ⟨[0], by decide, rfl⟩ ?_
                          refine ga_firstNU 13 #[true, true, true, true, true, true, true, true, true, true, true, true, true, true, false, false, false, false, false, false, false, false, false, false, false, false, false] rfl rfl rfl rfl rfl rfl (by kernel_rfl) rfl ⟨[0], by decide, rfl⟩ ?_
                          refine ga_firstNU 14 #[true, true, true, true, true, true, true, true, true, true, true, true, true, true, true, false, false, false, false, false, false, false, false, false, false, false, false] rfl rfl rfl rfl rfl rfl (by kernel_rfl) rfl ⟨[0], by decide, rfl⟩ ?_
                          refine ga_firstNU 15 #[true, true, true, true, true, true, true, true, true, true, true, true, true, true, true, true, false, false, false, false, false, false, false, false, false, false, false] rfl rfl rfl rfl rfl rfl (by kernel_rfl) rfl ⟨[0], by decide, rfl⟩ ?_
                          refine ga_firstNU 16 #[true, true, true, true, true, true, true, true, true, true, true, true, true, true, true, true, true, false, false, false, false, false, false, false, false, false, false] rfl rfl rfl rfl rfl rfl (by kernel_rfl) rfl ⟨[0], by decide, rfl⟩ ?_
                          refine ga_firstNU 17 #[true, true, true, true, true, true, true, true, true, true, true, true, true, true, true, true, true, true, false, false, false, false, false, false, false, false, false] rfl rfl rfl rfl rfl rfl (by kernel_rfl) rfl ⟨[0], by decide, rfl⟩ ?_
                          refine ga_firstNU 18 #[true, true, true, true, true, true, true, true, true, true, true, true, true, true, true, true, true, true, true, false, false, false, false, false, false, false, false] rfl rfl rfl rfl rfl rfl (by kernel_rfl) rfl ⟨[0], by decide, rfl⟩ ?_
                          refine ga_firstNU 19 #[true, true, true, true, true, true, true, true, true, true, true, true, true, true, true, true, true, true, true, true, false, false, false, false, false, false, false] rfl rfl rfl rfl rfl rfl (by kernel_rfl) rfl ⟨[0], by decide, rfl⟩ ?_
                          refine ga_firstNU 20 #[true, true, true, true, true, true, true, true, true, true, true, true, true, true, true, true, true, true, true, true, true, false, false, false, false, false, false] rfl rfl rfl rfl rfl rfl (by kernel_rfl) rfl ⟨[0], by decide, rfl⟩ ?_
                          refine ga_firstN 21 #[true, true, true, true, true, true, true, true, true, true, true, true, true, true, true, true, true, true, true, true, true, true, false, false, false, false, false] rfl rfl rfl rfl rfl rfl (by kernel_rfl) rfl ⟨[0], by decide, rfl⟩ ?_
                          refine ga_first 22 #[true, true, true, true, true, true, true, true, true, true, true, true, true, true, true, true, true, true, true, true, true, true, true, false, false, false, false] rfl rfl rfl rfl (by kernel_rfl) rfl ⟨[0], by decide, rfl⟩ (qt_rd (rd_pick_t rfl rfl)) ?_
                          refine ga_first 23 #[true, true, true, true, true, true, true, true, true, true, true, true, true, true, true, true, true, true, true, true, true, true, true, true, false, false, false] rfl rfl rfl rfl (by kernel_rfl) rfl ⟨[0], by decide, rfl⟩ (qt_rd (rd_move rfl)) ?_
                          refine ga_firstY 24 #[true, true, true, true, true, true, true, true, true, true, true, true, true, true, true, true, true, true, true, true, true, true, true, true, true, false, false] rfl rfl rfl rfl rfl rfl (by kernel_rfl) rfl ⟨[0], by decide, rfl⟩ (qt_call (vf := []) (vc := []) rfl rfl Try.call8 (fun w1 ho => shown_ok w1) (by rintro _ _ ⟨h, _⟩; exact h)) ?_
                          refine ga_first 25 #[true, true, true, true, true, true, true, true, true, true, true, true, true, true, true, true, true, true, true, true, true, true, true, true, true, true, false] rfl rfl rfl rfl (by kernel_rfl) rfl ⟨[0], by decide, rfl⟩ (qt_rd (rd_pick_t rfl rfl)) ?_
                          refine ga_first 26 #[true, true, true, true, true, true, true, true, true, true, true, true, true, true, true, true, true, true, true, true, true, true, true, true, true, true, true] rfl rfl rfl rfl (by kernel_rfl) rfl ⟨[0], by decide, rfl⟩ (qt_rd (rd_assign rfl)) ?_
                          refine ga_end (by kernel_rfl) (.inr ⟨[0], by decide, rfl⟩) ?_
                          refine gx_then ?_
                          refine gc_ret ?_
                          refine gx_block_ret ?_
                          refine gx_then_ret ?_
                          refine gx_then_ret ?_
                          refine gx_block_ret ?_
                          refine gx_then_ret ?_
                          refine gx_ret1 (.inl rfl) Try.results6 rfl [] (by decide) ?_
                          exact ⟨rfl, rfl⟩
                        · skip
                          refine ga_first 5 #[true, true, true, true, true, true, false, false, false, false, false, false, false, false, false, false, false, false, false, false, false, false, false, false, false, false, false] rfl rfl rfl rfl (by kernel_rfl) rfl ⟨[0], by decide, rfl⟩ (qt_rd (rd_move rfl)) ?_
                          refine ga_firstY 6 #[true, true, true, true, true, true, true, false, false, false, false, false, false, false, false, false, false, false, false, false, false, false, false, false, false, false, false] rfl rfl rfl rfl rfl rfl (by kernel_rfl) rfl ⟨[0], by decide, rfl⟩ (qt_rd (rd_move rfl)) ?_
                          refine ga_firstY 7 #[true, true, true, true, true, true, true, true, false, false, false, false, false, false, false, false, false, false, false, false, false, false, false, false, false, false, false] rfl rfl rfl rfl rfl rfl (by kernel_rfl) rfl ⟨[0], by decide, rfl⟩ (qt_rd (rd_move rfl)) ?_
                          refine ga_firstY 8 #[true, true, true, true, true, true, true, true, true, false, false, false, false, false, false, false, false, false, false, false, false, false, false, false, false, false, false] rfl rfl rfl rfl rfl rfl (by kernel_rfl) rfl ⟨[0], by decide, rfl⟩ (qt_rd (rd_indexRow1 0 rfl Try.underlying39 ty_3 rfl rfl (by omega) (by omega))) ?_
                          refine ga_firstY 9 #[true, true, true, true, true, true, true, true, true, true, false, false, false, false, false, false, false, false, false, false, false, false, false, false, false, false, false] rfl rfl rfl rfl rfl rfl (by kernel_rfl) rfl ⟨[0], by decide, rfl⟩ (qt_rd (rd_load Try.underlying3 rfl rfl (ld_rowN 0 rfl (get_iv hr)))) ?_
                          refine ga_firstY 10 #[true, true, true, true, true, true, true, true, true, true, true, false, false, false, false, false, false, false, false, false, false, false, false, false, false, false, false] rfl rfl rfl rfl rfl rfl (by kernel_rfl) rfl ⟨[0], by decide, rfl⟩ (qt_rd (rd_geq rfl rfl)) (gk_dec (fun h117 => ?_) (fun h117 => ?_))
                          · skip
                            refine ga_firstY 11 #[true, true, true, true, true, true, true, true, true, true, true, true, false, false, false, false, false, false, false, false, false, false, false, false, false, false, false] rfl rfl rfl rfl rfl rfl (by kernel_rfl) rfl ⟨[0], by decide, rfl⟩ (qt_rd (rd_move rfl)) ?_
                            refine ga_firstY 12 #[true, true, true, true, true, true, true, true, true, true, true, true, true, false, false, false, false, false, false, false, false, false, false, false, false, false, false] rfl rfl rfl rfl rfl rfl (by kernel_rfl) rfl ⟨[0], by decide, rfl⟩ (qt_rd (rd_move rfl)) ?_
                            refine ga_firstY 13 #[true, true, true, true, true, true, true, true, true, true, true, true, true, true, false, false, false, false, false, false, false, false, false, false, false, false, false] rfl rfl rfl rfl rfl rfl (by kernel_rfl) rfl ⟨[0], by decide, rfl⟩ (qt_rd (rd_move rfl)) ?_
                            refine ga_firstY 14 #[true, true, true, true, true, true, true, true, true, true, true, true, true, true, true, false, false, false, false, false, false, false, false, false, false, false, false] rfl rfl rfl rfl rfl rfl (by kernel_rfl) rfl ⟨[0], by decide, rfl⟩ (qt_rd (rd_indexRow1 0 rfl Try.underlying39 ty_3 rfl rfl (by omega) (by omega))) ?_
                            refine ga_firstY 15 #[true, true, true, true, true, true, true, true, true, true, true, true, true, true, true, true, false, false, false, false, false, false, false, false, false, false, false] rfl rfl rfl rfl rfl rfl (by kernel_rfl) rfl ⟨[0], by decide, rfl⟩ (qt_rd (rd_load Try.underlying3 rfl rfl (ld_rowN 0 rfl (get_iv hr)))) ?_
                            refine ga_firstY 16 #[true, true, true, true, true, true, true, true, true, true, true, true, true, true, true, true, true, false, false, false, false, false, false, false, false, false, false] rfl rfl rfl rfl rfl rfl (by kernel_rfl) rfl ⟨[0], by decide, rfl⟩ (qt_rd (rd_move rfl)) ?_
                            refine ga_firstY 17 #[true, true, true, true, true, true, true, true, true, true, true, true, true, true, true, true, true, true, false, false, false, false, false, false, false, false, false] rfl rfl rfl rfl rfl rfl (by kernel_rfl) rfl ⟨[0], by decide, rfl⟩ (qt_rd (rd_move rfl)) ?_
                            refine ga_firstY 18 #[true, true, true, true, true, true, true, true, true, true, true, true, true, true, true, true, true, true, true, false, false, false, false, false, false, false, false] rfl rfl rfl rfl rfl rfl (by kernel_rfl) rfl ⟨[0], by decide, rfl⟩ (qt_rd (rd_indexOld1 hx Try.underlying39 ty_3 rfl rfl (by omega) (by omega))) ?_
                            refine ga_firstY 19 #[true, true, true, true, true, true, true, true, true, true, true, true, true, true, true, true, true, true, true, true, false, false, false, false, false, false, false] rfl rfl rfl rfl rfl rfl (by kernel_rfl) rfl ⟨[0], by decide, rfl⟩ (qt_rd (rd_load Try.underlying3 rfl rfl (ld_slN hx (get_iv hz)))) ?_
                            refine ga_firstY 20 #[true, true, true, true, true, true, true, true, true, true, true, true, true, true, true, true, true, true, true, true, true, false, false, false, false, false, false] rfl rfl rfl rfl rfl rfl (by kernel_rfl) rfl ⟨[0], by decide, rfl⟩ (qt_rd (rd_lss rfl rfl)) (gk_dec (fun h127 => ?_) (fun h127 => ?_))
                            · skip
                              refine ga_firstY 21 #[true, true, true, true, true, true, true, true, true, true, true, true, true, true, true, true, true, true, true, true, true, true, false, false, false, false, false] rfl rfl rfl rfl rfl rfl (by kernel_rfl) rfl ⟨[0], by decide, rfl⟩ (qt_rd (rd_pick_t rfl rfl)) ?_
                              refine ga_first 22 #[true, true, true, true, true, true, true, true, true, true, true, true, true, true, true, true, true, true, true, true, true, true, true, false, false, false, false] rfl rfl rfl rfl (by kernel_rfl) rfl ⟨[0], by decide, rfl⟩ (qt_rd (rd_pick_f rfl rfl)) ?_
                              refine ga_first 23 #[true, true, true, true, true, true, true, true, true, true, true, true, true, true, true, true, true, true, true, true, true, true, true, true, false, false, false] rfl rfl rfl rfl (by kernel_rfl) rfl ⟨[0], by decide, rfl⟩ (qt_rd (rd_move rfl)) ?_
                              refine ga_firstY 24 #[true, true, true, true, true, true, true, true, true, true, true, true, true, true, true, true, true, true, true, true, true, true, true, true, true, false, false] rfl rfl rfl rfl rfl rfl (by kernel_rfl) rfl ⟨[0], by decide, rfl⟩ (qt_call (vf := []) (vc := []) rfl rfl Try.call8 (fun w1 ho => shown_ok w1) (by rintro _ _ ⟨h, _⟩; exact h)) ?_
                              refine ga_first 25 #[true, true, true, true, true, true, true, true, true, true, true, true, true, true, true, true, true, true, true, true, true, true, true, true, true, true, false] rfl rfl rfl rfl (by kernel_rfl) rfl ⟨[0], by decide, rfl⟩ (qt_rd (rd_pick_t rfl rfl)) ?_
                              refine ga_first 26 #[true, true, true, true, true, true, true, true, true, true, true, true, true, true, true, true, true, true, true, true, true, true, true, true, true, true, true] rfl rfl rfl rfl (by kernel_rfl) rfl ⟨[0], by decide, rfl⟩ (qt_rd (rd_assign rfl)) ?_
                              refine ga_end (by kernel_rfl) (.inr ⟨[0], by decide, rfl⟩) ?_
                              refine gx_then ?_
                              refine gc_ret ?_
                              refine gx_block_ret ?_
                              refine gx_then_ret ?_
                              refine gx_then_ret ?_
                              refine gx_block_ret ?_
                              refine gx_then_ret ?_
                              refine gx_ret1 (.inl rfl) Try.results6 rfl [] (by decide) ?_
                              exact ⟨rfl, rfl⟩
                            · skip
                              exfalso; omega
                          · skip
                            exfalso; omega
                      · skip
                        refine ga_end (by kernel_rfl) (.inr ⟨[0], by decide, rfl⟩) ?_
                        refine gx_then ?_
                        refine gc_cond_f rfl ?_
                        refine gc_skip ?_
                        refine gx_block ?_
                        refine gx_then ?_
                        refine gc_region ?_
                        refine gl_op (op_rd rfl (rd_move rfl) ?_)
                        refine gl_op (op_rd rfl (by first | exact rd_addN (b := 1) rfl rfl (by omega) | exact rd_add rfl rfl (by omega) (by omega)) ?_)
                        refine gl_op (op_rd rfl (rd_assign rfl) ?_)
                        refine gl_nil ?_
                        refine gx_then ?_
                        exact gx_cut (i + 1) ⟨⟨by omega, fun q hq => by rcases Nat.lt_succ_iff_lt_or_eq.1 hq with h | rfl; exact hsame q h; rw [hrd, hzd]; omega⟩, by omega⟩ ⟨rfl, rfl, rfl, trivial⟩ ⟨[0], by decide, rfl⟩
                    · skip
                      refine gl_nil ?_
                      refine gx_then ?_
                      refine gc_cond_f rfl ?_
                      refine gc_exit ?_
                      refine gx_then_exit ?_
                      refine gx_then_exit ?_
                      refine gx_block_exit ?_
                      refine gx_then ?_
                      refine gc_seq ?_
                      refine gc_region ?_
                      refine gl_op (op_call rfl (vf := []) (vc := []) rfl rfl Try.call8 (fun w1 ho => shown_ok w1) ?_)
                      rintro _ _ ⟨rfl, rfl⟩
                      refine gl_op (op_rd rfl (rd_assign rfl) ?_)
                      refine gl_nil ?_
                      refine gx_then ?_
                      refine gc_ret ?_
                      refine gx_ret1 (.inl rfl) Try.results6 rfl [] (by decide) ?_
                      exact ⟨rfl, rfl⟩

end Go.Proofs.Yteiopfefmphhaaa

set_option autoImplicit false
set_option linter.unusedVariables false
namespace Go.Proofs.Yteiopfefmphhaaa
open Go.Gv
open Go.RowKit Go.ChangeShapes Go.WideShapes
open Iv
set_option maxHeartbeats 1000000 in
set_option maxRecDepth 100000 in
theorem inventoryNone_lifted (os : Os) (started : os.Started) (H : Type) (enc : TypeId × Value → H) :
    ReturnsInHanded {} Try.checked os 6 .any (Rows.inventoryNoneSpec.pre6 enc Try.prog Try.f6 Rows.inventoryNoneRow.domain false) (Rows.inventoryNoneSpec.post enc Try.prog Try.f6 false true false false) := by
  refine returnsInHanded_of_change_sized (C := Try.checked) tryOwn started (by kernel_rfl) Try.func6
    (ChangeSpec.witness6 (enc := enc) (C := Try.checked) false ⟨#[], #[.slice none 0 0, .slice none 0 0, .slice none 0 0], []⟩ 8 (by kernel_rfl) (by kernel_rfl) (by kernel_rfl) (by kernel_rfl)) ?_
  intro W base args ds gs before hval0 hW _ hwt _
  have hval : ∀ (j : Nat) t v, Try.f6.params[j]? = some t → args[j]? = some v → Value.okWide Try.prog W .any base t v := hval0
  have hW' := hW
  obtain ⟨p, q, hA0, hV, rfl, hfz, hnd⟩ := hW
  have hA : DataW.TrodAll enc Try.prog W 0 (fun _ => true) true Try.f6.params.toList args.toList ds p := hA0
  rw [Try.params6] at hA hval
  obtain ⟨v0, vs0, d0, ds0, p0, q0, hargs, rfl, rfl, h0, r0⟩ := trodAll_cons hA
  obtain ⟨v1, vs1, d1, ds1, p1, q1, rfl, rfl, rfl, h1, r1⟩ := trodAll_cons r0
  obtain ⟨v2, vs2, d2, ds2, p2, q2, rfl, rfl, rfl, h2, r2⟩ := trodAll_cons r1
  obtain ⟨rfl, rfl, rfl⟩ := trodAll_nil r2
  obtain rfl : args = #[v0, v1, v2] := Array.toList_inj.1 hargs
  obtain ⟨rfl, rfl⟩ := trodVars_none hV
  obtain ⟨sa0, sn0, sc0, rfl⟩ := okWide_slice Try.underlying22 (hval 0 22 v0 rfl rfl)
  obtain ⟨fuel0, hf0⟩ := h0
  obtain ⟨pa0, zs0, cp0, hz0, hsl0, hlen0⟩ := openPipes hf0 (fun b hb => by
    have := List.all_eq_true.1 hwt b (DataW.weights_mem_each (j := 0) (t := 22) rfl rfl b hb)
    simpa using this)
  have e0 : Value.slice sa0 sn0 sc0 = .slice pa0 zs0.length cp0 := by
    simpa [Value.cells] using hz0
  obtain ⟨sa1, sn1, sc1, rfl⟩ := okWide_slice Try.underlying23 (hval 1 23 v1 rfl rfl)
  obtain ⟨fuel1, hf1⟩ := h1
  obtain ⟨pa1, zs1, cp1, hz1, hsl1, hlen1⟩ := openWishes hf1 (fun b hb => by
    have := List.all_eq_true.1 hwt b (DataW.weights_mem_each (j := 1) (t := 23) rfl rfl b hb)
    simpa using this)
  have e1 : Value.slice sa1 sn1 sc1 = .slice pa1 zs1.length cp1 := by
    simpa [Value.cells] using hz1
  obtain ⟨sa2, sn2, sc2, rfl⟩ := okWide_slice Try.underlying39 (hval 2 39 v2 rfl rfl)
  obtain ⟨fuel2, hf2⟩ := h2
  obtain ⟨pa2, zs2, cp2, hz2, hsl2, hlen2⟩ := openInts hf2 (fun b hb => by
    have := List.all_eq_true.1 hwt b (DataW.weights_mem_each (j := 2) (t := 39) rfl rfl b hb)
    simpa using this)
  have e2 : Value.slice sa2 sn2 sc2 = .slice pa2 zs2.length cp2 := by
    simpa [Value.cells] using hz2
  have hcall := InventoryNone_ok zs0 zs1 zs2 pa0 pa1 pa2 cp0 cp1 cp2 W hsl0 hsl1 hsl2 hlen0 hlen1 hlen2
  rw [e0]
  rw [e0] at hW'
  rw [e1]
  rw [e1] at hW'
  rw [e2]
  rw [e2] at hW'
  unfold Sp at hcall
  refine Calls.mono hcall fun e W' ⟨v, l, he, hR, ho⟩ => ⟨v, he, ?_⟩
  obtain ⟨rfl, rfl⟩ := hR
  exact law_post hW' rfl ho.below rfl rfl rfl rfl (by rw [Try.params6]; intro t ht; simp at ht; rcases ht with rfl | rfl | rfl <;> exact ⟨by kernel_rfl, of_decide_eq_true (by kernel_rfl)⟩)
theorem inventoryNone_over : Rows.inventoryNoneRow.holds Try.pinned (OpenSpec.ofChange Rows.inventoryNoneSpec) :=
  OpenClaim.holds_of_wide 6 Try.f6 rfl rfl rfl rfl rfl rfl rfl ⟨rfl, rfl, rfl, rfl, rfl⟩ rfl rfl rfl rfl rfl (by kernel_rfl) Try.func6 (by kernel_rfl)
    (of_decide_eq_true (by kernel_rfl)) (by unfold Func.isWrapper; first | (rw [if_pos (by decide +kernel)]; kernel_rfl) | (rw [if_neg (by decide +kernel)]; exact ⟨rfl, rfl⟩))
    (fun os started H enc _ => inventoryNone_lifted os started H enc)
theorem inventoryNone_proved : Rows.InventoryNoneSaid := inventoryNone_over
end Go.Proofs.Yteiopfefmphhaaa
