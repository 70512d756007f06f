import Derived.Test.YteiopfefmphhaaaVh
import Derived.Test.YteiopfefmphhaaaVd
import Derived.Test.YteiopfefmphhaaaVf
/- This text proves InventoryProvesSaid: for all pipes, wishes and one pipe more InventoryProves returns true, and its arguments read as before. -/
set_option linter.unusedSimpArgs false
set_option linter.unusedVariables false
set_option linter.unnecessarySimpa false
set_option autoImplicit false
set_option linter.unusedVariables false
namespace Go.Proofs.Yteiopfefmphhaaa
open Go.Gv
open Go.RowKit
namespace Iv
theorem filt_at {p : Nat → Bool} {k : Nat} (hk : p k = true) : ∀ n, k < n → ((List.range n).filter p)[((List.range k).filter p).length]? = some k
  | 0, h => by omega
  | n + 1, h => by
    rw [filt_succ]
    by_cases e : k = n
    · subst e
      rw [if_pos hk, List.getElem?_append_right (Nat.le_refl _), Nat.sub_self]; rfl
    · have ih := filt_at hk n (by omega)
      have hlt := (List.getElem?_eq_some_iff.1 ih).1
      split
      · rw [List.getElem?_append_left hlt]; exact ih
      · exact ih
theorem filt_up {p : Nat → Bool} {n i u v : Nat} (hu : ((List.range n).filter p)[i]? = some u) (hv : ((List.range n).filter p)[i - 1]? = some v) (hi : 0 < i) : v < u := by
  have hp : List.Pairwise (fun a b => a < b) ((List.range n).filter p) := List.Pairwise.filter _ List.pairwise_lt_range
  obtain ⟨h1, rfl⟩ := List.getElem?_eq_some_iff.1 hu
  obtain ⟨h2, rfl⟩ := List.getElem?_eq_some_iff.1 hv
  exact List.pairwise_iff_getElem.1 hp (i - 1) i h2 h1 (by omega)
theorem FitP_ok {p : Pipe} {x : Wish} (hp : p.Ok) (hx : x.Ok) : (FitP p x).2.1 = fits p x ∧ (FitP p x).2.2 = 0 := by
  unfold FitP
  rw [if_pos ⟨(pipedB_iff p).2 hp, (wishedB_iff x).2 hx⟩]
  unfold fitP
  cases h : fits p x with
  | true => exact ⟨rfl, rfl⟩
  | false => exact ⟨rfl, rfl⟩
theorem any_snoc (xs : List Nat) (p : Nat → Bool) {k x : Nat} (h : xs[k]? = some x) : (xs.take (k + 1)).any p = ((xs.take k).any p || p x) := by
  rw [take_at h]; simp
end Iv
end Go.Proofs.Yteiopfefmphhaaa

set_option autoImplicit false
set_option linter.unusedVariables false
namespace Go.Proofs.Yteiopfefmphhaaa
open Go.Gv
open Go.RowKit
open Iv
set_option maxRecDepth 100000 in
set_option maxHeartbeats 4000000 in
theorem InventoryProves_ok (l : List Pipe) (w : List Wish) (m2 : Pipe) (a b : Option Addr) (ca cb : Nat) (w0 : World) (hl : OldSl w0 [] a l.length 3 (l.flatMap Pipe.cells)) (hw : OldSl w0 [] b w.length 5 (w.flatMap Wish.cells)) (hlb : l.length ≤ 140737488355328) (hwb : w.length ≤ 140737488355328) : Sp Try.prog 7 [.slice a l.length ca, .slice b w.length cb, m2.val] w0 [] (RV (.bool true)) := by
  refine spec_enter Try.func7 rfl Try.ntmps7 rfl (Own.refl _) ?_
  simp only [argEnv]
  refine gc_seq ?_
  refine gc_region ?_
  refine gl_op (op_box rfl rfl rfl (fun b5 => ?_))
  refine gl_op (op_rd rfl (rd_assign rfl) ?_)
  refine gl_nil ?_
  refine gx_then ?_
  refine gc_seq ?_
  refine gc_seq ?_
  refine gc_region ?_
  refine gl_op (op_rd rfl (rd_move rfl) ?_)
  refine gl_op (op_rd rfl (rd_lenSlice Try.underlying22 rfl) ?_)
  refine gl_op (op_rd rfl (rd_move rfl) ?_)
  refine gl_op (op_rd rfl (rd_lenSlice Try.underlying23 rfl) ?_)
  refine gl_op (op_rd rfl (by first | exact rd_addN rfl rfl (by omega) | exact rd_add rfl rfl (by omega) (by omega)) ?_)
  refine gl_op (op_rd rfl (rd_gtr rfl rfl) (gk_dec (fun h33 => ?_) (fun h33 => ?_)))
  · skip
    refine gl_op (op_rd rfl (rd_move rfl) ?_)
    refine gl_no rfl rfl rfl ?_
    refine gl_no rfl rfl rfl ?_
    refine gl_no rfl rfl rfl ?_
    refine gl_no rfl rfl rfl ?_
    refine gl_op (op_rd rfl (rd_pick_t rfl rfl) ?_)
    refine gl_nil ?_
    refine gx_then ?_
    refine gc_cond_t rfl ?_
    refine gc_seq ?_
    refine gc_region ?_
    refine gl_op (op_call rfl (vf := []) (vc := []) rfl rfl Try.call8 (fun w1 ho => shown_ok w1) ?_)
    rintro _ _ ⟨rfl, rfl⟩
    refine gl_op (op_rd rfl (rd_assign rfl) ?_)
    refine gl_nil ?_
    refine gx_then ?_
    refine gc_ret ?_
    refine gx_then_ret ?_
    refine gx_ret1 (.inl rfl) Try.results7 rfl [] (by decide) ?_
    exact ⟨rfl, rfl⟩
  · skip
    refine gl_op (op_rd rfl (rd_move rfl) ?_)
    refine gl_yes rfl rfl (op_rd rfl (rd_move rfl) ?_)
    refine gl_yes rfl rfl (op_rd rfl (rd_move rfl) ?_)
    refine gl_yes rfl rfl (op_call rfl (vf := []) (vc := []) rfl rfl Try.call12 (fun w1 ho => rCheck_ok l w a b ca cb w1 (hl.at ho) (hw.at ho) hlb hwb) ?_)
    rintro _ _ ⟨rfl, rfl⟩
    refine gl_yes rfl rfl (op_rd rfl (rd_neq rfl rfl) (gk_dec (fun h38 => ?_) (fun h38 => ?_)))
    · skip
      refine gl_op (op_rd rfl (rd_pick_f rfl rfl) ?_)
      refine gl_nil ?_
      refine gx_then ?_
      refine gc_cond_t rfl ?_
      refine gc_seq ?_
      refine gc_region ?_
      refine gl_op (op_call rfl (vf := []) (vc := []) rfl rfl Try.call8 (fun w1 ho => shown_ok w1) ?_)
      rintro _ _ ⟨rfl, rfl⟩
      refine gl_op (op_rd rfl (rd_assign rfl) ?_)
      refine gl_nil ?_
      refine gx_then ?_
      refine gc_ret ?_
      refine gx_then_ret ?_
      refine gx_ret1 (.inl rfl) Try.results7 rfl [] (by decide) ?_
      exact ⟨rfl, rfl⟩
    · skip
      have hck : checkP l w = 0 := by omega
      have hd := checkP_ok hck
      have hln := hd.ln
      have hwn := hd.wn
      obtain ⟨res, cst, hbest, hbc⟩ := best_any l w
      obtain ⟨ol, sum, hopt, hre, _⟩ := hbc.2 hck
      have hM := lst_max hd hopt.lst
      rw [hre] at hM
      have hrl : res.length = w.length := by rw [← hre, resI_len, hopt.asg.len]
      clear hbc hopt hre
      obtain ⟨us, fs, hsh0, hS⟩ := short_spec hd
      have hsh : shortF l w = some (us, fs) := by rw [shortF, if_pos hck, hsh0]
      obtain ⟨hlen, hin⟩ := hS.hlen _ hM
      have hul : us.length ≤ w.length := by rw [hS.hu]; exact filt_len _ _
      have hfl : fs.length ≤ l.length := by rw [hS.hf]; exact filt_len _ _
      have hum : ∀ q ∈ us, q < w.length := fun q hq => by rw [hS.hu] at hq; exact List.mem_range.1 (List.mem_filter.1 hq).1
      have hup : ∀ i u v, us[i]? = some u → us[i - 1]? = some v → 0 < i → v < u := fun i u v h1 h2 h3 => by rw [hS.hu] at h1 h2; exact filt_up h1 h2 h3
      refine gl_op (op_rd rfl (rd_pick_f rfl rfl) ?_)
      refine gl_nil ?_
      refine gx_then ?_
      refine gc_cond_f rfl ?_
      refine gc_skip ?_
      refine gx_then ?_
      refine gc_seq ?_
      refine gc_region ?_
      refine gl_op (op_rd rfl (rd_move rfl) ?_)
      refine gl_op (op_rd rfl (rd_move rfl) ?_)
      refine gl_op (op_call rfl (vf := []) (vc := []) rfl rfl Try.call14 (fun w2 ho => Best_ok l w a b ca cb w2 (hl.at ho) (hw.at ho) hlb hwb res cst hbest) ?_)
      rintro _ _ ⟨rr, kr, rfl, rfl⟩
      rw [hck]
      refine gl_op (op_rd rfl (rd_move rfl) ?_)
      refine gl_op (op_rd rfl (rd_extract rfl rfl) ?_)
      refine gl_op (op_rd rfl (rd_extract rfl rfl) ?_)
      refine gl_op (op_rd rfl (rd_extract rfl rfl) ?_)
      refine gl_op (op_rd rfl (rd_assign rfl) ?_)
      refine gl_op (op_rd rfl (rd_assign rfl) ?_)
      refine gl_op (op_rd rfl (rd_assign rfl) ?_)
      refine gl_nil ?_
      refine gx_then ?_
      refine gc_seq ?_
      refine gc_region ?_
      refine gl_op (op_rd rfl (rd_move rfl) ?_)
      refine gl_op (op_rd rfl (rd_move rfl) ?_)
      refine gl_op (op_call rfl (vf := []) (vc := []) rfl rfl Try.call17 (fun w2 ho => Short_ok l w a b ca cb w2 (hl.at ho) (hw.at ho) hlb hwb us fs hsh) ?_)
      rintro _ _ ⟨ru, ku, rf, kf, rfl, rfl⟩
      rw [hck]
      refine gl_op (op_rd rfl (rd_move rfl) ?_)
      refine gl_op (op_rd rfl (rd_extract rfl rfl) ?_)
      refine gl_op (op_rd rfl (rd_extract rfl rfl) ?_)
      refine gl_op (op_rd rfl (rd_extract rfl rfl) ?_)
      refine gl_op (op_rd rfl (rd_assign rfl) ?_)
      refine gl_op (op_rd rfl (rd_assign rfl) ?_)
      refine gl_op (op_rd rfl (rd_assign rfl) ?_)
      refine gl_nil ?_
      refine gx_then ?_
      refine gc_seq ?_
      refine gc_seq ?_
      refine gc_region ?_
      refine gl_op (op_rd rfl (rd_move rfl) ?_)
      refine gl_op (op_rd rfl (rd_neq rfl rfl) (gk_dec (fun h56 => ?_) (fun h56 => ?_)))
      · skip
        exact absurd rfl h56
      · skip
        refine gl_op (op_rd rfl (rd_move rfl) ?_)
        refine gl_yes rfl rfl (op_rd rfl (rd_move rfl) ?_)
        refine gl_yes rfl rfl (op_rd rfl (rd_neq rfl rfl) (gk_dec (fun h59 => ?_) (fun h59 => ?_)))
        · skip
          exact absurd rfl h59
        · skip
          refine gl_op (op_rd rfl (rd_pick_f rfl rfl) ?_)
          refine gl_op (op_rd rfl (rd_move rfl) ?_)
          refine gl_yes rfl rfl (op_rd rfl (rd_move rfl) ?_)
          refine gl_yes rfl rfl (op_rd rfl (rd_lenSlice Try.underlying39 rfl) ?_)
          refine gl_yes rfl rfl (op_rd rfl (rd_move rfl) ?_)
          refine gl_yes rfl rfl (op_rd rfl (rd_lenSlice Try.underlying23 rfl) ?_)
          refine gl_yes rfl rfl (op_rd rfl (rd_neq rfl rfl) (gk_dec (fun h66 => ?_) (fun h66 => ?_)))
          · skip
            exfalso; omega
          · skip
            refine gl_op (op_rd rfl (rd_pick_f rfl rfl) ?_)
            refine gl_nil ?_
            refine gx_then ?_
            refine gc_cond_f rfl ?_
            refine gc_skip ?_
            refine gx_then ?_
            refine gc_seq ?_
            refine gc_region ?_
            refine gl_op (op_rd rfl (rd_move rfl) ?_)
            refine gl_op (op_rd rfl (rd_lenSlice Try.underlying23 rfl) ?_)
            refine gl_op (op_makeSlice (w.length) Try.underlying48 ty_4 rfl rfl rfl (by omega) (by omega) (by omega) (by omega) (fun b70 => ?_))
            refine gl_op (op_rd rfl (rd_assign rfl) ?_)
            refine gl_nil ?_
            refine gx_then ?_
            refine gc_seq ?_
            refine gc_seq ?_
            rw [made_one _ rfl, show List.replicate w.length (Value.bool false) = (List.replicate w.length false).map boolV by simp]
            refine gc_region ?_
            refine gl_op (op_rd rfl (rd_assign rfl) ?_)
            refine gl_nil ?_
            refine gx_then ?_
            refine gc_block ?_
            refine gc_loopF (ι := Nat × List Bool) [(0, _), (1, _), (5, _), (7, _), (10, _), (11, _), (13, _)] [_, _, _, _] (fun j => j.1 ≤ us.length ∧ j.2.length = w.length ∧ ∀ q, q < j.1 → j.2.getD (us.getD q 0) false = true) (fun j Fr0 => ((14, natV j.1) :: Fr0)) (fun j Fr0 => (.row 4 1 (some b70) w.length w.length (j.2.map boolV) :: Fr0)) (fun j => us.length - j.1) (0, List.replicate w.length false) (⟨Nat.zero_le _, by simp, fun q h => absurd h (Nat.not_lt_zero q)⟩) ⟨rfl, rfl, rfl, rfl, rfl, rfl, rfl, rfl, trivial⟩ ⟨[0, 1, 2, 3, 4], by decide, rfl⟩ ?_
            rintro ⟨i, mk⟩ ⟨hi, hmk, hmks⟩
            simp only at hi hmk hmks ⊢
            refine gc_seq ?_
            refine gc_seq ?_
            refine gc_region ?_
            refine gl_op (op_rd rfl (rd_move rfl) ?_)
            refine gl_op (op_rd rfl (rd_move rfl) ?_)
            refine gl_op (op_rd rfl (rd_lenSlice Try.underlying39 rfl) ?_)
            refine gl_op (op_rd rfl (rd_lss rfl rfl) (gk_dec (fun hlt => ?_) (fun hlt => ?_)))
            · skip
              obtain ⟨u, hu⟩ := get_some (show i < us.length by omega)
              have hud : us.getD i 0 = u := getD_some hu
              have huw := hum u (List.mem_of_getElem? hu)
              refine gl_nil ?_
              refine gx_then ?_
              refine gc_cond_t rfl ?_
              refine gc_skip ?_
              refine gx_then ?_
              refine gc_seq ?_
              refine gc_block ?_
              refine gc_seq ?_
              refine gc_seq ?_
              refine gc_drawP [0, 1, 2, 3, 4] true 29 rfl ?_
              refine ga_first 0 #[true, false, false, false, false, false, false, false, false, false, false, false, false, false, false, false, false, false, false, false, false, false, false, false, false, false, false, false, false, false] rfl rfl rfl rfl (by kernel_rfl) rfl ⟨[0, 1, 2, 3, 4], by decide, rfl⟩ (qt_rd (rd_move rfl)) ?_
              refine ga_first 1 #[true, true, false, false, false, false, false, false, false, false, false, false, false, false, false, false, false, false, false, false, false, false, false, false, false, false, false, false, false, false] rfl rfl rfl rfl (by kernel_rfl) rfl ⟨[0, 1, 2, 3, 4], by decide, rfl⟩ (qt_rd (rd_move rfl)) ?_
              refine ga_first 2 #[true, true, true, false, false, false, false, false, false, false, false, false, false, false, false, false, false, false, false, false, false, false, false, false, false, false, false, false, false, false] rfl rfl rfl rfl (by kernel_rfl) rfl ⟨[0, 1, 2, 3, 4], by decide, rfl⟩ (qt_rd (rd_indexRow1 1 rfl Try.underlying39 ty_3 rfl rfl (by omega) (by omega))) ?_
              refine ga_first 3 #[true, true, true, true, false, false, false, false, false, false, false, false, false, false, false, false, false, false, false, false, false, false, false, false, false, false, false, false, false, false] rfl rfl rfl rfl (by kernel_rfl) rfl ⟨[0, 1, 2, 3, 4], by decide, rfl⟩ (qt_rd (rd_load Try.underlying3 rfl rfl (ld_rowN 1 rfl (show (us.map natV)[_]? = some (natV _) by rw [List.getElem?_map, hu]; rfl)))) ?_
              refine ga_first 4 #[true, true, true, true, true, false, false, false, false, false, false, false, false, false, false, false, false, false, false, false, false, false, false, false, false, false, false, false, false, false] rfl rfl rfl rfl (by kernel_rfl) rfl ⟨[0, 1, 2, 3, 4], by decide, rfl⟩ (qt_rd (rd_lss rfl rfl)) (gk_dec (fun h81 => ?_) (fun h81 => ?_))
              · skip
                exfalso; omega
              · skip
                refine ga_first 5 #[true, true, true, true, true, true, false, false, false, false, false, false, false, false, false, false, false, false, false, false, false, false, false, false, false, false, false, false, false, false] rfl rfl rfl rfl (by kernel_rfl) rfl ⟨[0, 1, 2, 3, 4], by decide, rfl⟩ (qt_rd (rd_move rfl)) ?_
                refine ga_firstY 6 #[true, true, true, true, true, true, true, false, false, false, false, false, false, false, false, false, false, false, false, false, false, false, false, false, false, false, false, false, false, false] rfl rfl rfl rfl rfl rfl (by kernel_rfl) rfl ⟨[0, 1, 2, 3, 4], by decide, rfl⟩ (qt_rd (rd_move rfl)) ?_
                refine ga_firstY 7 #[true, true, true, true, true, true, true, true, false, false, false, false, false, false, false, false, false, false, false, false, false, false, false, false, false, false, false, false, false, false] rfl rfl rfl rfl rfl rfl (by kernel_rfl) rfl ⟨[0, 1, 2, 3, 4], by decide, rfl⟩ (qt_rd (rd_move rfl)) ?_
                refine ga_firstY 8 #[true, true, true, true, true, true, true, true, true, false, false, false, false, false, false, false, false, false, false, false, false, false, false, false, false, false, false, false, false, false] rfl rfl rfl rfl rfl rfl (by kernel_rfl) rfl ⟨[0, 1, 2, 3, 4], by decide, rfl⟩ (qt_rd (rd_indexRow1 1 rfl Try.underlying39 ty_3 rfl rfl (by omega) (by omega))) ?_
                refine ga_firstY 9 #[true, true, true, true, true, true, true, true, true, true, false, false, false, false, false, false, false, false, false, false, false, false, false, false, false, false, false, false, false, false] rfl rfl rfl rfl rfl rfl (by kernel_rfl) rfl ⟨[0, 1, 2, 3, 4], by decide, rfl⟩ (qt_rd (rd_load Try.underlying3 rfl rfl (ld_rowN 1 rfl (show (us.map natV)[_]? = some (natV _) by rw [List.getElem?_map, hu]; rfl)))) ?_
                refine ga_firstY 10 #[true, true, true, true, true, true, true, true, true, true, true, false, false, false, false, false, false, false, false, false, false, false, false, false, false, false, false, false, false, false] rfl rfl rfl rfl rfl rfl (by kernel_rfl) rfl ⟨[0, 1, 2, 3, 4], by decide, rfl⟩ (qt_rd (rd_move rfl)) ?_
                refine ga_firstY 11 #[true, true, true, true, true, true, true, true, true, true, true, true, false, false, false, false, false, false, false, false, false, false, false, false, false, false, false, false, false, false] rfl rfl rfl rfl rfl rfl (by kernel_rfl) rfl ⟨[0, 1, 2, 3, 4], by decide, rfl⟩ (qt_rd (rd_lenSlice Try.underlying23 rfl)) ?_
                refine ga_firstY 12 #[true, true, true, true, true, true, true, true, true, true, true, true, true, false, false, false, false, false, false, false, false, false, false, false, false, false, false, false, false, false] rfl rfl rfl rfl rfl rfl (by kernel_rfl) rfl ⟨[0, 1, 2, 3, 4], by decide, rfl⟩ (qt_rd (rd_geq rfl rfl)) (gk_dec (fun h89 => ?_) (fun h89 => ?_))
                · skip
                  exfalso; omega
                · skip
                  refine ga_first 13 #[true, true, true, true, true, true, true, true, true, true, true, true, true, true, false, false, false, false, false, false, false, false, false, false, false, false, false, false, false, false] rfl rfl rfl rfl (by kernel_rfl) rfl ⟨[0, 1, 2, 3, 4], by decide, rfl⟩ (qt_rd (rd_pick_f rfl rfl)) ?_
                  refine ga_first 14 #[true, true, true, true, true, true, true, true, true, true, true, true, true, true, true, false, false, false, false, false, false, false, false, false, false, false, false, false, false, false] rfl rfl rfl rfl (by kernel_rfl) rfl ⟨[0, 1, 2, 3, 4], by decide, rfl⟩ (qt_rd (rd_move rfl)) ?_
                  refine ga_firstY 15 #[true, true, true, true, true, true, true, true, true, true, true, true, true, true, true, true, false, false, false, false, false, false, false, false, false, false, false, false, false, false] rfl rfl rfl rfl rfl rfl (by kernel_rfl) rfl ⟨[0, 1, 2, 3, 4], by decide, rfl⟩ (qt_rd (rd_move rfl)) ?_
                  refine ga_firstY 16 #[true, true, true, true, true, true, true, true, true, true, true, true, true, true, true, true, true, false, false, false, false, false, false, false, false, false, false, false, false, false] rfl rfl rfl rfl rfl rfl (by kernel_rfl) rfl ⟨[0, 1, 2, 3, 4], by decide, rfl⟩ (qt_rd (rd_gtr rfl rfl)) (gk_dec (fun h93 => ?_) (fun h93 => ?_))
                  · skip
                    obtain ⟨v, hv⟩ := get_some (show i - 1 < us.length by omega)
                    have hvu := hup i u v hu hv (by omega)
                    refine ga_firstY 17 #[true, true, true, true, true, true, true, true, true, true, true, true, true, true, true, true, true, true, false, false, false, false, false, false, false, false, false, false, false, false] rfl rfl rfl rfl rfl rfl (by kernel_rfl) rfl ⟨[0, 1, 2, 3, 4], by decide, rfl⟩ (qt_rd (rd_move rfl)) ?_
                    refine ga_firstY 18 #[true, true, true, true, true, true, true, true, true, true, true, true, true, true, true, true, true, true, true, false, false, false, false, false, false, false, false, false, false, false] rfl rfl rfl rfl rfl rfl (by kernel_rfl) rfl ⟨[0, 1, 2, 3, 4], by decide, rfl⟩ (qt_rd (rd_move rfl)) ?_
                    refine ga_firstY 19 #[true, true, true, true, true, true, true, true, true, true, true, true, true, true, true, true, true, true, true, true, false, false, false, false, false, false, false, false, false, false] rfl rfl rfl rfl rfl rfl (by kernel_rfl) rfl ⟨[0, 1, 2, 3, 4], by decide, rfl⟩ (qt_rd (rd_move rfl)) ?_
                    refine ga_firstY 20 #[true, true, true, true, true, true, true, true, true, true, true, true, true, true, true, true, true, true, true, true, true, false, false, false, false, false, false, false, false, false] rfl rfl rfl rfl rfl rfl (by kernel_rfl) rfl ⟨[0, 1, 2, 3, 4], by decide, rfl⟩ (qt_rd (by first | exact rd_subN (b := 1) rfl rfl (by omega) (by omega) | exact rd_sub rfl rfl (by omega) (by omega))) ?_
                    refine ga_firstY 21 #[true, true, true, true, true, true, true, true, true, true, true, true, true, true, true, true, true, true, true, true, true, true, false, false, false, false, false, false, false, false] rfl rfl rfl rfl rfl rfl (by kernel_rfl) rfl ⟨[0, 1, 2, 3, 4], by decide, rfl⟩ (qt_rd (rd_indexRow1 1 rfl Try.underlying39 ty_3 rfl rfl (by omega) (by omega))) ?_
                    refine ga_firstY 22 #[true, true, true, true, true, true, true, true, true, true, true, true, true, true, true, true, true, true, true, true, true, true, true, false, false, false, false, false, false, false] rfl rfl rfl rfl rfl rfl (by kernel_rfl) rfl ⟨[0, 1, 2, 3, 4], by decide, rfl⟩ (qt_rd (rd_load Try.underlying3 rfl rfl (ld_rowN 1 rfl (show (us.map natV)[_]? = some (natV _) by rw [List.getElem?_map, hv]; rfl)))) ?_
                    refine ga_firstY 23 #[true, true, true, true, true, true, true, true, true, true, true, true, true, true, true, true, true, true, true, true, true, true, true, true, false, false, false, false, false, false] rfl rfl rfl rfl rfl rfl (by kernel_rfl) rfl ⟨[0, 1, 2, 3, 4], by decide, rfl⟩ (qt_rd (rd_move rfl)) ?_
                    refine ga_firstY 24 #[true, true, true, true, true, true, true, true, true, true, true, true, true, true, true, true, true, true, true, true, true, true, true, true, true, false, false, false, false, false] rfl rfl rfl rfl rfl rfl (by kernel_rfl) rfl ⟨[0, 1, 2, 3, 4], by decide, rfl⟩ (qt_rd (rd_move rfl)) ?_
                    refine ga_firstY 25 #[true, true, true, true, true, true, true, true, true, true, true, true, true, true, true, true, true, true, true, true, true, true, true, true, true, true, false, false, false, false] rfl rfl rfl rfl rfl rfl (by kernel_rfl) rfl ⟨[0, 1, 2, 3, 4], by decide, rfl⟩ (qt_rd (rd_indexRow1 1 rfl Try.underlying39 ty_3 rfl rfl (by omega) (by omega))) ?_
                    refine ga_firstY 26 #[true, true, true, true, true, true, true, true, true, true, true, true, true, true, true, true, true, true, true, true, true, true, true, true, true, true, true, false, false, false] rfl rfl rfl rfl rfl rfl (by kernel_rfl) rfl ⟨[0, 1, 2, 3, 4], by decide, rfl⟩ (qt_rd (rd_load Try.underlying3 rfl rfl (ld_rowN 1 rfl (show (us.map natV)[_]? = some (natV _) by rw [List.getElem?_map, hu]; rfl)))) ?_
                    refine ga_firstY 27 #[true, true, true, true, true, true, true, true, true, true, true, true, true, true, true, true, true, true, true, true, true, true, true, true, true, true, true, true, false, false] rfl rfl rfl rfl rfl rfl (by kernel_rfl) rfl ⟨[0, 1, 2, 3, 4], by decide, rfl⟩ (qt_rd (rd_geq rfl rfl)) (gk_dec (fun h104 => ?_) (fun h104 => ?_))
                    · skip
                      exfalso; omega
                    · skip
                      refine ga_firstY 28 #[true, true, true, true, true, true, true, true, true, true, true, true, true, true, true, true, true, true, true, true, true, true, true, true, true, true, true, true, true, false] rfl rfl rfl rfl rfl rfl (by kernel_rfl) rfl ⟨[0, 1, 2, 3, 4], by decide, rfl⟩ (qt_rd (rd_pick_t rfl rfl)) ?_
                      refine ga_first 29 #[true, true, true, true, true, true, true, true, true, true, true, true, true, true, true, true, true, true, true, true, true, true, true, true, true, true, true, true, true, true] rfl rfl rfl rfl (by kernel_rfl) rfl ⟨[0, 1, 2, 3, 4], by decide, rfl⟩ (qt_rd (rd_pick_f rfl rfl)) ?_
                      refine ga_end (by kernel_rfl) (.inr ⟨[0, 1, 2, 3, 4], by decide, rfl⟩) ?_
                      refine gx_then ?_
                      refine gc_cond_f rfl ?_
                      refine gc_skip ?_
                      refine gx_then ?_
                      refine gc_region ?_
                      refine gl_op (op_rd rfl (rd_move rfl) ?_)
                      refine gl_op (op_rd rfl (rd_move rfl) ?_)
                      refine gl_op (op_rd rfl (rd_move rfl) ?_)
                      refine gl_op (op_rd rfl (rd_indexRow1 1 rfl Try.underlying39 ty_3 rfl rfl (by omega) (by omega)) ?_)
                      refine gl_op (op_rd rfl (rd_load Try.underlying3 rfl rfl (ld_rowN 1 rfl (show (us.map natV)[_]? = some (natV _) by rw [List.getElem?_map, hu]; rfl))) ?_)
                      refine gl_op (op_rd rfl (rd_indexRow1 0 rfl Try.underlying48 ty_4 rfl rfl (by omega) (by omega)) ?_)
                      refine gl_op (op_storeRowE 0 ty_4 rfl rfl rfl rfl (by simp; omega) (setB mk u true) (by first | rfl | (simp only [List.set_cons_succ, List.set_cons_zero]; exact rfl)) ?_)
                      refine gl_nil ?_
                      refine gx_block ?_
                      refine gx_then ?_
                      refine gc_region ?_
                      refine gl_op (op_rd rfl (rd_move rfl) ?_)
                      refine gl_op (op_rd rfl (by first | exact rd_addN (b := 1) rfl rfl (by omega) | exact rd_add rfl rfl (by omega) (by omega)) ?_)
                      refine gl_op (op_rd rfl (rd_assign rfl) ?_)
                      refine gl_nil ?_
                      refine gx_then ?_
                      exact gx_cut ((i + 1, mk.set u true)) ⟨⟨by simp only; omega, by simp [hmk], fun q hq => by simp only; rw [getD_set mk u _ true (by omega)]; split; rfl; rename_i hne; exact hmks q (by rcases Nat.lt_succ_iff_lt_or_eq.1 hq with h | rfl; exact h; exact absurd hud.symm hne)⟩, by simp only; omega⟩ ⟨rfl, rfl, rfl, rfl, rfl, rfl, rfl, rfl, trivial⟩ ⟨[0, 1, 2, 3, 4], by decide, rfl⟩
                  · skip
                    refine ga_firstY 17 #[true, true, true, true, true, true, true, true, true, true, true, true, true, true, true, true, true, true, false, false, false, false, false, false, false, false, false, false, false, false] rfl rfl rfl rfl rfl rfl (by kernel_rfl) rfl ⟨[0, 1, 2, 3, 4], by decide, rfl⟩ (qt_rd (rd_move rfl)) ?_
                    refine ga_firstN 18 #[true, true, true, true, true, true, true, true, true, true, true, true, true, true, true, true, true, true, true, false, false, false, false, false, false, false, false, false, false, false] rfl rfl rfl rfl rfl rfl (by kernel_rfl) rfl ⟨[0, 1, 2, 3, 4], by decide, rfl⟩ ?_
                    refine ga_firstN 19 #[true, true, true, true, true, true, true, true, true, true, true, true, true, true, true, true, true, true, true, true, false, false, false, false, false, false, false, false, false, false] rfl rfl rfl rfl rfl rfl (by kernel_rfl) rfl ⟨[0, 1, 2, 3, 4], by decide, rfl⟩ ?_
                    refine ga_firstN 20 #[true, true, true, true, true, true, true, true, true, true, true, true, true, true, true, true, true, true, true, true, true, false, false, false, false, false, false, false, false, false] rfl rfl rfl rfl rfl rfl (by kernel_rfl) rfl ⟨[0, 1, 2, 3, 4], by decide, rfl⟩ ?_
                    refine ga_firstN 21 #[true, true, true, true, true, true, true, true, true, true, true, true, true, true, true, true, true, true, true, true, true, true, false, false, false, false, false, false, false, false] rfl rfl rfl rfl rfl rfl (by kernel_rfl) rfl ⟨[0, 1, 2, 3, 4], by decide, rfl⟩ ?_
                    refine ga_firstN 22 #[true, true, true, true, true, true, true, true, true, true, true, true, true, true, true, true, true, true, true, true, true, true, true, false, false, false, false, false, false, false] rfl rfl rfl rfl rfl rfl (by kernel_rfl) rfl ⟨[0, 1, 2, 3, 4], by decide, rfl⟩ ?_
                    refine ga_firstN 23 #[true, true, true, true, true, true, true, true, true, true, true, true, true, true, true, true, true, true, true, true, true, true, true, true, false, false, false, false, false, false] rfl rfl rfl rfl rfl rfl (by kernel_rfl) rfl ⟨[0, 1, 2, 3, 4], by decide, rfl⟩ ?_
                    refine ga_firstN 24 #[true, true, true, true, true, true, true, true, true, true, true, true, true, true, true, true, true, true, true, true, true, true, true, true, true, false, false, false, false, false] rfl rfl rfl rfl rfl rfl (by kernel_rfl) rfl ⟨[0, 1, 2, 3, 4], by decide, rfl⟩ ?_
                    refine ga_firstN 25 #[true, true, true, true, true, true, true, true, true, true, true, true, true, true, true, true, true, true, true, true, true, true, true, true, true, true, false, false, false, false] rfl rfl rfl rfl rfl rfl (by kernel_rfl) rfl ⟨[0, 1, 2, 3, 4], by decide, rfl⟩ ?_
                    refine ga_firstN 26 #[true, true, true, true, true, true, true, true, true, true, true, true, true, true, true, true, true, true, true, true, true, true, true, true, true, true, true, false, false, false] rfl rfl rfl rfl rfl rfl (by kernel_rfl) rfl ⟨[0, 1, 2, 3, 4], by decide, rfl⟩ ?_
                    refine ga_firstN 27 #[true, true, true, true, true, true, true, true, true, true, true, true, true, true, true, true, true, true, true, true, true, true, true, true, true, true, true, true, false, false] rfl rfl rfl rfl rfl rfl (by kernel_rfl) rfl ⟨[0, 1, 2, 3, 4], by decide, rfl⟩ ?_
                    refine ga_firstY 28 #[true, true, true, true, true, true, true, true, true, true, true, true, true, true, true, true, true, true, true, true, true, true, true, true, true, true, true, true, true, false] rfl rfl rfl rfl rfl rfl (by kernel_rfl) rfl ⟨[0, 1, 2, 3, 4], by decide, rfl⟩ (qt_rd (rd_pick_f rfl rfl)) ?_
                    refine ga_first 29 #[true, true, true, true, true, true, true, true, true, true, true, true, true, true, true, true, true, true, true, true, true, true, true, true, true, true, true, true, true, true] rfl rfl rfl rfl (by kernel_rfl) rfl ⟨[0, 1, 2, 3, 4], by decide, rfl⟩ (qt_rd (rd_pick_f rfl rfl)) ?_
                    refine ga_end (by kernel_rfl) (.inr ⟨[0, 1, 2, 3, 4], by decide, rfl⟩) ?_
                    refine gx_then ?_
                    refine gc_cond_f rfl ?_
                    refine gc_skip ?_
                    refine gx_then ?_
                    refine gc_region ?_
                    refine gl_op (op_rd rfl (rd_move rfl) ?_)
                    refine gl_op (op_rd rfl (rd_move rfl) ?_)
                    refine gl_op (op_rd rfl (rd_move rfl) ?_)
                    refine gl_op (op_rd rfl (rd_indexRow1 1 rfl Try.underlying39 ty_3 rfl rfl (by omega) (by omega)) ?_)
                    refine gl_op (op_rd rfl (rd_load Try.underlying3 rfl rfl (ld_rowN 1 rfl (show (us.map natV)[_]? = some (natV _) by rw [List.getElem?_map, hu]; rfl))) ?_)
                    refine gl_op (op_rd rfl (rd_indexRow1 0 rfl Try.underlying48 ty_4 rfl rfl (by omega) (by omega)) ?_)
                    refine gl_op (op_storeRowE 0 ty_4 rfl rfl rfl rfl (by simp; omega) (setB mk u true) (by first | rfl | (simp only [List.set_cons_succ, List.set_cons_zero]; exact rfl)) ?_)
                    refine gl_nil ?_
                    refine gx_block ?_
                    refine gx_then ?_
                    refine gc_region ?_
                    refine gl_op (op_rd rfl (rd_move rfl) ?_)
                    refine gl_op (op_rd rfl (by first | exact rd_addN (b := 1) rfl rfl (by omega) | exact rd_add rfl rfl (by omega) (by omega)) ?_)
                    refine gl_op (op_rd rfl (rd_assign rfl) ?_)
                    refine gl_nil ?_
                    refine gx_then ?_
                    exact gx_cut ((i + 1, mk.set u true)) ⟨⟨by simp only; omega, by simp [hmk], fun q hq => by simp only; rw [getD_set mk u _ true (by omega)]; split; rfl; rename_i hne; exact hmks q (by rcases Nat.lt_succ_iff_lt_or_eq.1 hq with h | rfl; exact h; exact absurd hud.symm hne)⟩, by simp only; omega⟩ ⟨rfl, rfl, rfl, rfl, rfl, rfl, rfl, rfl, trivial⟩ ⟨[0, 1, 2, 3, 4], by decide, rfl⟩
            · skip
              refine gl_nil ?_
              refine gx_then ?_
              refine gc_cond_f rfl ?_
              refine gc_exit ?_
              refine gx_then_exit ?_
              refine gx_then_exit ?_
              refine gx_block_exit ?_
              refine gx_then ?_
              refine gc_seq ?_
              have hall : ∀ q ∈ us, mk.getD q false = true := fun q hq => by
                obtain ⟨z, hz⟩ := List.getElem?_of_mem hq
                have := hmks z (by have := (List.getElem?_eq_some_iff.1 hz).1; omega)
                rwa [getD_some hz] at this
              refine gc_region ?_
              refine gl_op (op_rd rfl (rd_assign rfl) ?_)
              refine gl_op (op_rd rfl (rd_assign rfl) ?_)
              refine gl_nil ?_
              refine gx_then ?_
              refine gc_seq ?_
              refine gc_seq ?_
              refine gc_region ?_
              refine gl_op (op_rd rfl (rd_assign rfl) ?_)
              refine gl_nil ?_
              refine gx_then ?_
              refine gc_block ?_
              refine gc_loopF (ι := Nat × Nat) [(0, _), (1, _), (5, _), (7, _), (10, _), (11, _), (13, _), (16, _)] [_, _, _, _, _] (fun j => j.1 ≤ res.length ∧ j.2 = unm (fun q => res.getD q 0) j.1) (fun j Fr0 => ((17, natV j.1) :: (15, natV j.2) :: Fr0)) (fun j Fr0 => Fr0) (fun j => res.length - j.1) (0, 0) (⟨Nat.zero_le _, rfl⟩) ⟨rfl, rfl, rfl, rfl, rfl, rfl, rfl, rfl, rfl, rfl, trivial⟩ ⟨[0, 1, 2, 3, 4], by decide, rfl⟩ ?_
              rintro ⟨i, n⟩ ⟨hi, hn⟩
              simp only at hi hn ⊢
              have hni : n ≤ i := by rw [hn]; exact filt_len _ _
              refine gc_seq ?_
              refine gc_seq ?_
              refine gc_region ?_
              refine gl_op (op_rd rfl (rd_move rfl) ?_)
              refine gl_op (op_rd rfl (rd_move rfl) ?_)
              refine gl_op (op_rd rfl (rd_lenSlice Try.underlying39 rfl) ?_)
              refine gl_op (op_rd rfl (rd_lss rfl rfl) (gk_dec (fun hlt1 => ?_) (fun hlt1 => ?_)))
              · skip
                obtain ⟨z, hz⟩ := get_some (show i < res.length by omega)
                have hzd : res.getD i 0 = z := getD_some hz
                refine gl_nil ?_
                refine gx_then ?_
                refine gc_cond_t rfl ?_
                refine gc_skip ?_
                refine gx_then ?_
                refine gc_seq ?_
                refine gc_block ?_
                refine gc_seq ?_
                refine gc_seq ?_
                refine gc_region ?_
                refine gl_op (op_rd rfl (rd_move rfl) ?_)
                refine gl_op (op_rd rfl (rd_move rfl) ?_)
                refine gl_op (op_rd rfl (rd_indexRow1 3 rfl Try.underlying39 ty_3 rfl rfl (by omega) (by omega)) ?_)
                refine gl_op (op_rd rfl (rd_load Try.underlying3 rfl rfl (ld_rowN 3 rfl (get_iv hz))) ?_)
                refine gl_op (op_rd rfl (rd_eql rfl rfl) (gk_dec (fun h123 => ?_) (fun h123 => ?_)))
                · skip
                  refine gl_nil ?_
                  refine gx_then ?_
                  refine gc_cond_t rfl ?_
                  refine gc_region ?_
                  refine gl_op (op_rd rfl (rd_move rfl) ?_)
                  refine gl_op (op_rd rfl (by first | exact rd_addN (b := 1) rfl rfl (by omega) | exact rd_add rfl rfl (by omega) (by omega)) ?_)
                  refine gl_op (op_rd rfl (rd_assign rfl) ?_)
                  refine gl_nil ?_
                  refine gx_then ?_
                  refine gc_seq ?_
                  refine gc_region ?_
                  refine gl_op (op_rd rfl (rd_move rfl) ?_)
                  refine gl_op (op_rd rfl (rd_move rfl) ?_)
                  refine gl_op (op_rd rfl (rd_indexRow1 3 rfl Try.underlying39 ty_3 rfl rfl (by omega) (by omega)) ?_)
                  refine gl_op (op_rd rfl (rd_load Try.underlying3 rfl rfl (ld_rowN 3 rfl (get_iv hz))) ?_)
                  refine gl_op (op_rd rfl (rd_eql rfl rfl) (gk_dec (fun h130 => ?_) (fun h130 => ?_)))
                  · skip
                    have hmi : mk.getD i false = true := hall i (hin i (by omega) (by rw [hzd]; exact h130))
                    refine gl_op (op_rd rfl (rd_move rfl) ?_)
                    refine gl_yes rfl rfl (op_rd rfl (rd_move rfl) ?_)
                    refine gl_yes rfl rfl (op_rd rfl (rd_move rfl) ?_)
                    refine gl_yes rfl rfl (op_rd rfl (rd_indexRow1 0 rfl Try.underlying48 ty_4 rfl rfl (by omega) (by omega)) ?_)
                    refine gl_yes rfl rfl (op_rd rfl (rd_load Try.underlying4 rfl rfl (ld_rowN 0 rfl (get_bools (by omega)))) ?_)
                    refine gk_bool (fun h135 => ?_) (fun h135 => ?_)
                    · skip
                      refine gl_yes rfl rfl (op_rd rfl (rd_not rfl) ?_)
                      refine gl_op (op_rd rfl (rd_pick_t rfl rfl) ?_)
                      refine gl_nil ?_
                      refine gx_then ?_
                      refine gc_cond_f rfl ?_
                      refine gc_skip ?_
                      refine gx_block ?_
                      refine gx_then ?_
                      refine gc_region ?_
                      refine gl_op (op_rd rfl (rd_move rfl) ?_)
                      refine gl_op (op_rd rfl (by first | exact rd_addN (b := 1) rfl rfl (by omega) | exact rd_add rfl rfl (by omega) (by omega)) ?_)
                      refine gl_op (op_rd rfl (rd_assign rfl) ?_)
                      refine gl_nil ?_
                      refine gx_then ?_
                      exact gx_cut ((i + 1, n + 1)) ⟨⟨by simp only; omega, by simp only; rw [unm_succ, hn, if_pos (by rw [hzd]; exact h123)]⟩, by simp only; omega⟩ ⟨rfl, rfl, rfl, rfl, rfl, rfl, rfl, rfl, rfl, rfl, trivial⟩ ⟨[0, 1, 2, 3, 4], by decide, rfl⟩
                    · skip
                      rw [hmi] at h135; cases h135
                  · skip
                    exact absurd h123 h130
                · skip
                  refine gl_nil ?_
                  refine gx_then ?_
                  refine gc_cond_f rfl ?_
                  refine gc_skip ?_
                  refine gx_then ?_
                  refine gc_seq ?_
                  refine gc_region ?_
                  refine gl_op (op_rd rfl (rd_move rfl) ?_)
                  refine gl_op (op_rd rfl (rd_move rfl) ?_)
                  refine gl_op (op_rd rfl (rd_indexRow1 3 rfl Try.underlying39 ty_3 rfl rfl (by omega) (by omega)) ?_)
                  refine gl_op (op_rd rfl (rd_load Try.underlying3 rfl rfl (ld_rowN 3 rfl (get_iv hz))) ?_)
                  refine gl_op (op_rd rfl (rd_eql rfl rfl) (gk_dec (fun h130 => ?_) (fun h130 => ?_)))
                  · skip
                    exact absurd h130 h123
                  · skip
                    refine gl_op (op_rd rfl (rd_move rfl) ?_)
                    refine gl_no rfl rfl rfl ?_
                    refine gl_no rfl rfl rfl ?_
                    refine gl_no rfl rfl rfl ?_
                    refine gl_no rfl rfl rfl ?_
                    refine gl_no rfl rfl rfl ?_
                    refine gl_op (op_rd rfl (rd_pick_f rfl rfl) ?_)
                    refine gl_nil ?_
                    refine gx_then ?_
                    refine gc_cond_f rfl ?_
                    refine gc_skip ?_
                    refine gx_block ?_
                    refine gx_then ?_
                    refine gc_region ?_
                    refine gl_op (op_rd rfl (rd_move rfl) ?_)
                    refine gl_op (op_rd rfl (by first | exact rd_addN (b := 1) rfl rfl (by omega) | exact rd_add rfl rfl (by omega) (by omega)) ?_)
                    refine gl_op (op_rd rfl (rd_assign rfl) ?_)
                    refine gl_nil ?_
                    refine gx_then ?_
                    exact gx_cut ((i + 1, n)) ⟨⟨by simp only; omega, by simp only; rw [unm_succ, hn, if_neg (by rw [hzd]; exact h123)]; rfl⟩, by simp only; omega⟩ ⟨rfl, rfl, rfl, rfl, rfl, rfl, rfl, rfl, rfl, rfl, trivial⟩ ⟨[0, 1, 2, 3, 4], by decide, rfl⟩
              · skip
                refine gl_nil ?_
                refine gx_then ?_
                refine gc_cond_f rfl ?_
                refine gc_exit ?_
                refine gx_then_exit ?_
                refine gx_then_exit ?_
                refine gx_block_exit ?_
                refine gx_then ?_
                refine gc_seq ?_
                refine gc_seq ?_
                have hn1 : n = unm (fun q => res.getD q 0) w.length := by rw [hn, show i = w.length by omega]
                refine gc_region ?_
                refine gl_op (op_rd rfl (rd_assign rfl) ?_)
                refine gl_nil ?_
                refine gx_then ?_
                refine gc_block ?_
                refine gc_loopF (ι := Nat × Nat) [(0, _), (1, _), (5, _), (10, _), (11, _), (15, _)] [_, _, _, _, _] (fun j => j.1 ≤ l.length ∧ j.2 = ((List.range j.1).filter fun k => us.any fun q => fits (l.getD k default) (w.getD q default)).length) (fun j Fr0 => ((18, natV j.1) :: (16, natV j.2) :: Fr0)) (fun j Fr0 => Fr0) (fun j => l.length - j.1) (0, 0) (⟨Nat.zero_le _, rfl⟩) ⟨rfl, rfl, rfl, rfl, rfl, rfl, rfl, rfl, trivial⟩ ⟨[0, 1, 2, 3, 4], by decide, rfl⟩ ?_
                rintro ⟨k, nd⟩ ⟨hk, hnd⟩
                simp only at hk hnd ⊢
                have hndk : nd ≤ k := by rw [hnd]; exact filt_len _ _
                refine gc_seq ?_
                refine gc_seq ?_
                refine gc_region ?_
                refine gl_op (op_rd rfl (rd_move rfl) ?_)
                refine gl_op (op_rd rfl (rd_move rfl) ?_)
                refine gl_op (op_rd rfl (rd_lenSlice Try.underlying22 rfl) ?_)
                refine gl_op (op_rd rfl (rd_lss rfl rfl) (gk_dec (fun hlt2 => ?_) (fun hlt2 => ?_)))
                · skip
                  obtain ⟨p, hp⟩ := get_some (show k < l.length by omega)
                  have hpd : l.getD k default = p := getD_some hp
                  have hpo := hd.p p (List.mem_of_getElem? hp)
                  refine gl_nil ?_
                  refine gx_then ?_
                  refine gc_cond_t rfl ?_
                  refine gc_skip ?_
                  refine gx_then ?_
                  refine gc_seq ?_
                  refine gc_block ?_
                  refine gc_seq ?_
                  refine gc_region ?_
                  refine gl_op (op_rd rfl (rd_assign rfl) ?_)
                  refine gl_nil ?_
                  refine gx_then ?_
                  refine gc_seq ?_
                  refine gc_seq ?_
                  refine gc_region ?_
                  refine gl_op (op_rd rfl (rd_assign rfl) ?_)
                  refine gl_nil ?_
                  refine gx_then ?_
                  refine gc_block ?_
                  refine gc_loopF (ι := Nat × Bool) [(0, _), (1, _), (5, _), (10, _), (11, _), (15, _), (16, _), (18, _)] [_, _, _, _, _] (fun j => j.1 ≤ us.length ∧ j.2 = (us.take j.1).any fun q => fits p (w.getD q default)) (fun j Fr0 => ((20, natV j.1) :: (19, .bool j.2) :: Fr0)) (fun j Fr0 => Fr0) (fun j => us.length - j.1) (0, false) (⟨Nat.zero_le _, rfl⟩) ⟨rfl, rfl, rfl, rfl, rfl, rfl, rfl, rfl, rfl, rfl, trivial⟩ ⟨[0, 1, 2, 3, 4], by decide, rfl⟩ ?_
                  rintro ⟨q, fb⟩ ⟨hq, hfb⟩
                  simp only at hq hfb ⊢
                  refine gc_seq ?_
                  refine gc_seq ?_
                  refine gc_region ?_
                  refine gl_op (op_rd rfl (rd_move rfl) ?_)
                  refine gl_op (op_rd rfl (rd_move rfl) ?_)
                  refine gl_op (op_rd rfl (rd_lenSlice Try.underlying39 rfl) ?_)
                  refine gl_op (op_rd rfl (rd_lss rfl rfl) (gk_dec (fun hlt3 => ?_) (fun hlt3 => ?_)))
                  · skip
                    obtain ⟨u, hu⟩ := get_some (show q < us.length by omega)
                    have huw := hum u (List.mem_of_getElem? hu)
                    obtain ⟨x, hx⟩ := get_some huw
                    have hxd : w.getD u default = x := getD_some hx
                    have hxo := hd.w x (List.mem_of_getElem? hx)
                    obtain ⟨hF1, hF2⟩ := FitP_ok hpo hxo
                    refine gl_nil ?_
                    refine gx_then ?_
                    refine gc_cond_t rfl ?_
                    refine gc_skip ?_
                    refine gx_then ?_
                    refine gc_seq ?_
                    refine gc_block ?_
                    refine gc_seq ?_
                    refine gc_drawP [0, 1, 2, 3, 4] true 18 rfl ?_
                    refine ga_first 0 #[true, false, false, false, false, false, false, false, false, false, false, false, false, false, false, false, false, false, false] rfl rfl rfl rfl (by kernel_rfl) rfl ⟨[0, 1, 2, 3, 4], by decide, rfl⟩ (qt_rd (rd_move rfl)) ?_
                    refine ga_first 1 #[true, true, false, false, false, false, false, false, false, false, false, false, false, false, false, false, false, false, false] rfl rfl rfl rfl (by kernel_rfl) rfl ⟨[0, 1, 2, 3, 4], by decide, rfl⟩ (qt_rd (rd_move rfl)) ?_
                    refine ga_first 2 #[true, true, true, false, false, false, false, false, false, false, false, false, false, false, false, false, false, false, false] rfl rfl rfl rfl (by kernel_rfl) rfl ⟨[0, 1, 2, 3, 4], by decide, rfl⟩ (qt_rd (rd_indexOld hl Try.underlying22 ty_25 rfl rfl (by omega) (by omega))) ?_
                    refine ga_first 3 #[true, true, true, true, false, false, false, false, false, false, false, false, false, false, false, false, false, false, false] rfl rfl rfl rfl (by kernel_rfl) rfl ⟨[0, 1, 2, 3, 4], by decide, rfl⟩ (qt_rd (rd_loadAgg Try.underlying25 rfl ty_25 rfl (cs_slN hl (flat_drop_get Pipe.cells 3 (fun _ => rfl) hp)) rfl)) ?_
                    refine ga_first 4 #[true, true, true, true, true, false, false, false, false, false, false, false, false, false, false, false, false, false, false] rfl rfl rfl rfl (by kernel_rfl) rfl ⟨[0, 1, 2, 3, 4], by decide, rfl⟩ (qt_rd (rd_move rfl)) ?_
                    refine ga_first 5 #[true, true, true, true, true, true, false, false, false, false, false, false, false, false, false, false, false, false, false] rfl rfl rfl rfl (by kernel_rfl) rfl ⟨[0, 1, 2, 3, 4], by decide, rfl⟩ (qt_rd (rd_move rfl)) ?_
                    refine ga_first 6 #[true, true, true, true, true, true, true, false, false, false, false, false, false, false, false, false, false, false, false] rfl rfl rfl rfl (by kernel_rfl) rfl ⟨[0, 1, 2, 3, 4], by decide, rfl⟩ (qt_rd (rd_move rfl)) ?_
                    refine ga_first 7 #[true, true, true, true, true, true, true, true, false, false, false, false, false, false, false, false, false, false, false] rfl rfl rfl rfl (by kernel_rfl) rfl ⟨[0, 1, 2, 3, 4], by decide, rfl⟩ (qt_rd (rd_indexRow1 1 rfl Try.underlying39 ty_3 rfl rfl (by omega) (by omega))) ?_
                    refine ga_first 8 #[true, true, true, true, true, true, true, true, true, false, false, false, false, false, false, false, false, false, false] rfl rfl rfl rfl (by kernel_rfl) rfl ⟨[0, 1, 2, 3, 4], by decide, rfl⟩ (qt_rd (rd_load Try.underlying3 rfl rfl (ld_rowN 1 rfl (show (us.map natV)[_]? = some (natV _) by rw [List.getElem?_map, hu]; rfl)))) ?_
                    refine ga_first 9 #[true, true, true, true, true, true, true, true, true, true, false, false, false, false, false, false, false, false, false] rfl rfl rfl rfl (by kernel_rfl) rfl ⟨[0, 1, 2, 3, 4], by decide, rfl⟩ (qt_rd (rd_indexOld hw Try.underlying23 ty_29 rfl rfl (by omega) (by omega))) ?_
                    refine ga_first 10 #[true, true, true, true, true, true, true, true, true, true, true, false, false, false, false, false, false, false, false] rfl rfl rfl rfl (by kernel_rfl) rfl ⟨[0, 1, 2, 3, 4], by decide, rfl⟩ (qt_rd (rd_loadAgg Try.underlying29 rfl ty_29 rfl (cs_slN hw (flat_drop_get Wish.cells 5 (fun _ => rfl) hx)) rfl)) ?_
                    refine ga_first 11 #[true, true, true, true, true, true, true, true, true, true, true, true, false, false, false, false, false, false, false] rfl rfl rfl rfl (by kernel_rfl) rfl ⟨[0, 1, 2, 3, 4], by decide, rfl⟩ (qt_call (vf := []) (vc := []) rfl rfl Try.call10 (fun w1 ho => rFit_ok p x w1) (by rintro _ _ ⟨h, _⟩; exact h)) ?_
                    refine ga_first 12 #[true, true, true, true, true, true, true, true, true, true, true, true, true, false, false, false, false, false, false] rfl rfl rfl rfl (by kernel_rfl) rfl ⟨[0, 1, 2, 3, 4], by decide, rfl⟩ (qt_rd (rd_move rfl)) ?_
                    refine ga_first 13 #[true, true, true, true, true, true, true, true, true, true, true, true, true, true, false, false, false, false, false] rfl rfl rfl rfl (by kernel_rfl) rfl ⟨[0, 1, 2, 3, 4], by decide, rfl⟩ (qt_rd (rd_extract rfl rfl)) ?_
                    refine ga_first 14 #[true, true, true, true, true, true, true, true, true, true, true, true, true, true, true, false, false, false, false] rfl rfl rfl rfl (by kernel_rfl) rfl ⟨[0, 1, 2, 3, 4], by decide, rfl⟩ (qt_rd (rd_extract rfl rfl)) ?_
                    refine ga_first 15 #[true, true, true, true, true, true, true, true, true, true, true, true, true, true, true, true, false, false, false] rfl rfl rfl rfl (by kernel_rfl) rfl ⟨[0, 1, 2, 3, 4], by decide, rfl⟩ (qt_rd (rd_extract rfl rfl)) ?_
                    refine ga_first 16 #[true, true, true, true, true, true, true, true, true, true, true, true, true, true, true, true, true, false, false] rfl rfl rfl rfl (by kernel_rfl) rfl ⟨[0, 1, 2, 3, 4], by decide, rfl⟩ (qt_rd (rd_assign rfl)) ?_
                    refine ga_first 17 #[true, true, true, true, true, true, true, true, true, true, true, true, true, true, true, true, true, true, false] rfl rfl rfl rfl (by kernel_rfl) rfl ⟨[0, 1, 2, 3, 4], by decide, rfl⟩ (qt_rd (rd_assign rfl)) ?_
                    refine ga_first 18 #[true, true, true, true, true, true, true, true, true, true, true, true, true, true, true, true, true, true, true] rfl rfl rfl rfl (by kernel_rfl) rfl ⟨[0, 1, 2, 3, 4], by decide, rfl⟩ (qt_rd (rd_assign rfl)) ?_
                    refine ga_end (by kernel_rfl) (.inr ⟨[0, 1, 2, 3, 4], by decide, rfl⟩) ?_
                    refine gx_then ?_
                    refine gc_region ?_
                    refine gl_op (op_rd rfl (rd_move rfl) ?_)
                    refine gk_bool (fun hfbt => ?_) (fun hfbt => ?_)
                    · skip
                      refine gl_op (op_rd rfl (rd_move rfl) ?_)
                      refine gl_no rfl rfl rfl ?_
                      refine gl_no rfl rfl rfl ?_
                      refine gl_noU rfl rfl rfl ?_
                      refine gl_noU rfl rfl rfl ?_
                      refine gl_no rfl rfl rfl ?_
                      refine gl_op (op_rd rfl (rd_pick_t rfl rfl) ?_)
                      refine gl_op (op_rd rfl (rd_assign rfl) ?_)
                      refine gl_nil ?_
                      refine gx_block ?_
                      refine gx_then ?_
                      refine gc_region ?_
                      refine gl_op (op_rd rfl (rd_move rfl) ?_)
                      refine gl_op (op_rd rfl (by first | exact rd_addN (b := 1) rfl rfl (by omega) | exact rd_add rfl rfl (by omega) (by omega)) ?_)
                      refine gl_op (op_rd rfl (rd_assign rfl) ?_)
                      refine gl_nil ?_
                      refine gx_then ?_
                      exact gx_cut ((q + 1, true)) ⟨⟨by simp only; omega, by simp only; rw [any_snoc us _ hu, ← hfb, hfbt]; rfl⟩, by simp only; omega⟩ ⟨rfl, rfl, rfl, rfl, rfl, rfl, rfl, rfl, rfl, rfl, trivial⟩ ⟨[0, 1, 2, 3, 4], by decide, rfl⟩
                    · skip
                      refine gl_op (op_rd rfl (rd_move rfl) ?_)
                      refine gl_yes rfl rfl (op_rd rfl (rd_move rfl) ?_)
                      refine gk_bool (fun hft => ?_) (fun hft => ?_)
                      · skip
                        refine gl_yes rfl rfl (op_rd rfl (rd_move rfl) ?_)
                        refine gl_yes rfl rfl (op_rd rfl (rd_move rfl) ?_)
                        refine gl_yes rfl rfl (op_rd rfl (rd_eql rfl rfl) (gk_dec (fun h171 => ?_) (fun h171 => ?_)))
                        · skip
                          refine gl_yes rfl rfl (op_rd rfl (rd_pick_t rfl rfl) ?_)
                          refine gl_op (op_rd rfl (rd_pick_f rfl rfl) ?_)
                          refine gl_op (op_rd rfl (rd_assign rfl) ?_)
                          refine gl_nil ?_
                          refine gx_block ?_
                          refine gx_then ?_
                          refine gc_region ?_
                          refine gl_op (op_rd rfl (rd_move rfl) ?_)
                          refine gl_op (op_rd rfl (by first | exact rd_addN (b := 1) rfl rfl (by omega) | exact rd_add rfl rfl (by omega) (by omega)) ?_)
                          refine gl_op (op_rd rfl (rd_assign rfl) ?_)
                          refine gl_nil ?_
                          refine gx_then ?_
                          exact gx_cut ((q + 1, true)) ⟨⟨by simp only; omega, by simp only; rw [any_snoc us _ hu, hxd, ← hfb, hfbt, show fits p x = true by rw [← hF1]; exact hft]; rfl⟩, by simp only; omega⟩ ⟨rfl, rfl, rfl, rfl, rfl, rfl, rfl, rfl, rfl, rfl, trivial⟩ ⟨[0, 1, 2, 3, 4], by decide, rfl⟩
                        · skip
                          exact absurd hF2 h171
                      · skip
                        refine gl_yes rfl rfl (op_rd rfl (rd_move rfl) ?_)
                        refine gl_no rfl rfl rfl ?_
                        refine gl_no rfl rfl rfl ?_
                        refine gl_yes rfl rfl (op_rd rfl (rd_pick_f rfl rfl) ?_)
                        refine gl_op (op_rd rfl (rd_pick_f rfl rfl) ?_)
                        refine gl_op (op_rd rfl (rd_assign rfl) ?_)
                        refine gl_nil ?_
                        refine gx_block ?_
                        refine gx_then ?_
                        refine gc_region ?_
                        refine gl_op (op_rd rfl (rd_move rfl) ?_)
                        refine gl_op (op_rd rfl (by first | exact rd_addN (b := 1) rfl rfl (by omega) | exact rd_add rfl rfl (by omega) (by omega)) ?_)
                        refine gl_op (op_rd rfl (rd_assign rfl) ?_)
                        refine gl_nil ?_
                        refine gx_then ?_
                        exact gx_cut ((q + 1, false)) ⟨⟨by simp only; omega, by simp only; rw [any_snoc us _ hu, hxd, ← hfb, hfbt, show fits p x = false by rw [← hF1]; exact hft]; rfl⟩, by simp only; omega⟩ ⟨rfl, rfl, rfl, rfl, rfl, rfl, rfl, rfl, rfl, rfl, trivial⟩ ⟨[0, 1, 2, 3, 4], by decide, rfl⟩
                  · skip
                    refine gl_nil ?_
                    refine gx_then ?_
                    refine gc_cond_f rfl ?_
                    refine gc_exit ?_
                    refine gx_then_exit ?_
                    refine gx_then_exit ?_
                    refine gx_block_exit ?_
                    refine gx_then ?_
                    refine gc_seq ?_
                    refine gc_region ?_
                    refine gl_op (op_rd rfl (rd_move rfl) ?_)
                    refine gl_nil ?_
                    refine gx_then ?_
                    refine gc_cond rfl (fun h174 => ?_) (fun h174 => ?_)
                    · skip
                      have hPk : (us.any fun q => fits (l.getD k default) (w.getD q default)) = true := by
                        rw [hpd, ← h174, hfb, show q = us.length by omega, List.take_length]
                      have hfa : fs[nd]? = some k := by
                        rw [hS.hf, hnd]
                        exact filt_at (p := fun k => us.any fun q => fits (l.getD k default) (w.getD q default)) hPk l.length (by omega)
                      have hfa2 := (List.getElem?_eq_some_iff.1 hfa).1
                      refine gc_seq ?_
                      refine gc_seq ?_
                      refine gc_region ?_
                      refine gl_op (op_rd rfl (rd_move rfl) ?_)
                      refine gl_op (op_rd rfl (rd_move rfl) ?_)
                      refine gl_op (op_rd rfl (rd_lenSlice Try.underlying39 rfl) ?_)
                      refine gl_op (op_rd rfl (rd_geq rfl rfl) (gk_dec (fun h178 => ?_) (fun h178 => ?_)))
                      · skip
                        exfalso; omega
                      · skip
                        refine gl_op (op_rd rfl (rd_move rfl) ?_)
                        refine gl_yes rfl rfl (op_rd rfl (rd_move rfl) ?_)
                        refine gl_yes rfl rfl (op_rd rfl (rd_move rfl) ?_)
                        refine gl_yes rfl rfl (op_rd rfl (rd_indexRow1 2 rfl Try.underlying39 ty_3 rfl rfl (by omega) (by omega)) ?_)
                        refine gl_yes rfl rfl (op_rd rfl (rd_load Try.underlying3 rfl rfl (ld_rowN 2 rfl (show (fs.map natV)[nd]? = some (natV k) by rw [List.getElem?_map, hfa]; rfl))) ?_)
                        refine gl_yes rfl rfl (op_rd rfl (rd_move rfl) ?_)
                        refine gl_yes rfl rfl (op_rd rfl (rd_neq rfl rfl) (gk_dec (fun h185 => ?_) (fun h185 => ?_)))
                        · skip
                          exact absurd rfl h185
                        · skip
                          refine gl_op (op_rd rfl (rd_pick_f rfl rfl) ?_)
                          refine gl_nil ?_
                          refine gx_then ?_
                          refine gc_cond_f rfl ?_
                          refine gc_skip ?_
                          refine gx_then ?_
                          refine gc_region ?_
                          refine gl_op (op_rd rfl (rd_move rfl) ?_)
                          refine gl_op (op_rd rfl (by first | exact rd_addN (b := 1) rfl rfl (by omega) | exact rd_add rfl rfl (by omega) (by omega)) ?_)
                          refine gl_op (op_rd rfl (rd_assign rfl) ?_)
                          refine gl_nil ?_
                          refine gx_block ?_
                          refine gx_then ?_
                          refine gc_region ?_
                          refine gl_op (op_rd rfl (rd_move rfl) ?_)
                          refine gl_op (op_rd rfl (by first | exact rd_addN (b := 1) rfl rfl (by omega) | exact rd_add rfl rfl (by omega) (by omega)) ?_)
                          refine gl_op (op_rd rfl (rd_assign rfl) ?_)
                          refine gl_nil ?_
                          refine gx_then ?_
                          exact gx_cut ((k + 1, nd + 1)) ⟨⟨by simp only; omega, by simp only; rw [filt_succ, if_pos hPk, List.length_append, ← hnd]; rfl⟩, by simp only; omega⟩ ⟨rfl, rfl, rfl, rfl, rfl, rfl, rfl, rfl, trivial⟩ ⟨[0, 1, 2, 3, 4], by decide, rfl⟩
                    · skip
                      have hPk : (us.any fun q => fits (l.getD k default) (w.getD q default)) = false := by
                        rw [hpd, ← h174, hfb, show q = us.length by omega, List.take_length]
                      refine gc_skip ?_
                      refine gx_block ?_
                      refine gx_then ?_
                      refine gc_region ?_
                      refine gl_op (op_rd rfl (rd_move rfl) ?_)
                      refine gl_op (op_rd rfl (by first | exact rd_addN (b := 1) rfl rfl (by omega) | exact rd_add rfl rfl (by omega) (by omega)) ?_)
                      refine gl_op (op_rd rfl (rd_assign rfl) ?_)
                      refine gl_nil ?_
                      refine gx_then ?_
                      exact gx_cut ((k + 1, nd)) ⟨⟨by simp only; omega, by simp only; rw [filt_succ, if_neg (by rw [hPk]; decide), ← hnd]⟩, by simp only; omega⟩ ⟨rfl, rfl, rfl, rfl, rfl, rfl, rfl, rfl, trivial⟩ ⟨[0, 1, 2, 3, 4], by decide, rfl⟩
                · skip
                  refine gl_nil ?_
                  refine gx_then ?_
                  refine gc_cond_f rfl ?_
                  refine gc_exit ?_
                  refine gx_then_exit ?_
                  refine gx_then_exit ?_
                  refine gx_block_exit ?_
                  refine gx_then ?_
                  refine gc_seq ?_
                  refine gc_seq ?_
                  have hnf : nd = fs.length := by rw [hnd, hS.hf, show k = l.length by omega]; rfl
                  refine gc_region ?_
                  refine gl_op (op_rd rfl (rd_move rfl) ?_)
                  refine gl_op (op_rd rfl (rd_move rfl) ?_)
                  refine gl_op (op_rd rfl (rd_lenSlice Try.underlying39 rfl) ?_)
                  refine gl_op (op_rd rfl (rd_neq rfl rfl) (gk_dec (fun h192 => ?_) (fun h192 => ?_)))
                  · skip
                    exfalso; omega
                  · skip
                    refine gl_op (op_rd rfl (rd_move rfl) ?_)
                    refine gl_yes rfl rfl (op_rd rfl (rd_move rfl) ?_)
                    refine gl_yes rfl rfl (op_rd rfl (rd_lenSlice Try.underlying39 rfl) ?_)
                    refine gl_yes rfl rfl (op_rd rfl (rd_move rfl) ?_)
                    refine gl_yes rfl rfl (op_rd rfl (rd_lenSlice Try.underlying39 rfl) ?_)
                    refine gl_yes rfl rfl (op_rd rfl (by first | exact rd_subN rfl rfl (by omega) (by omega) | exact rd_sub rfl rfl (by omega) (by omega)) ?_)
                    refine gl_yes rfl rfl (op_rd rfl (rd_move rfl) ?_)
                    refine gl_yes rfl rfl (op_rd rfl (rd_neq rfl rfl) (gk_dec (fun h200 => ?_) (fun h200 => ?_)))
                    · skip
                      exfalso; omega
                    · skip
                      refine gl_op (op_rd rfl (rd_pick_f rfl rfl) ?_)
                      refine gl_nil ?_
                      refine gx_then ?_
                      refine gc_cond_f rfl ?_
                      refine gc_skip ?_
                      refine gx_then ?_
                      refine gc_seq ?_
                      refine gc_cut (ι := List Int × Int × Option Nat × Nat) (fun j => bestF (l ++ [m2]) w = some (j.1, j.2.1)) (fun j => [(0, .slice a l.length ca), (1, .slice b w.length cb), (5, .pointer (some ⟨b5, 0, none⟩)), (15, natV n), (24, .slice (rowA j.2.2.1) j.1.length j.2.2.2), (9, .int .i64 (checkP (l ++ [m2]) w))]) (fun j => [.blk b5 [.int .i64 m2.kind, .int .i64 m2.d, .int .i64 m2.len] 25, .row 3 1 j.2.2.1 j.1.length j.2.2.2 (j.1.map intV)]) ?_ ?_
                      · skip
                        refine gc_drawP [0, 1, 2, 3, 4] false 14 rfl ?_
                        refine ga_first 1 #[false, true, false, false, false, false, false, false, false, false, false, false, false, false, false] rfl rfl rfl rfl (by kernel_rfl) rfl ⟨[0, 1, 2, 3, 4], by decide, rfl⟩ (qt_rd (rd_move rfl)) ?_
                        refine ga_first 3 #[false, true, false, true, false, false, false, false, false, false, false, false, false, false, false] rfl rfl rfl rfl (by kernel_rfl) rfl ⟨[0, 1, 2, 3, 4], by decide, rfl⟩ (qt_rd (rd_loadAgg Try.underlying25 rfl ty_25 rfl (by first | exact cs_blk 4 (off := 0) (k := 3) rfl rfl | exact cs_old (by assumption) (by simp)) rfl)) ?_
                        refine ga_first 6 #[false, true, false, true, false, false, true, false, false, false, false, false, false, false, false] rfl rfl rfl rfl (by kernel_rfl) rfl ⟨[0, 1, 2, 3, 4], by decide, rfl⟩ (qt_rd (rd_move rfl)) ?_
                        refine ga_two 0 4 #[true, true, false, true, false, false, true, false, false, false, false, false, false, false, false] #[false, true, false, true, true, false, true, false, false, false, false, false, false, false, false] rfl rfl rfl rfl (by kernel_rfl) rfl rfl (.inr ⟨[0, 1, 2, 3, 4], by decide, rfl⟩) ?_ ?_
                        · skip
                          refine (op_buildSlice (sz := 3) rfl rfl (fun _ => bs_22_0_) rfl rfl (fun b203 => ?_))
                          refine ga_two 2 4 #[true, true, true, true, false, false, true, false, false, false, false, false, false, false, false] #[true, true, false, true, true, false, true, false, false, false, false, false, false, false, false] rfl rfl rfl rfl (by kernel_rfl) rfl rfl (.inr ⟨[1, 2, 3, 4, 5], by decide, rfl⟩) ?_ ?_
                          · skip
                            refine (op_appendSl 0 hl Try.underlying22 ty_25 rfl (by decide) rfl rfl rfl rfl (fun u hu => pipe_one l u hu) (by omega) (by omega) (fun _ => (by first | rfl | (simp only [List.set_cons_succ, List.set_cons_zero]; exact rfl))) (fun r205 c205 => ?_))
                            refine ga_only 4 #[true, true, true, true, true, false, true, false, false, false, false, false, false, false, false] rfl rfl (by kernel_rfl) rfl (.inr ⟨[1, 2, 3, 4, 5], by decide, rfl⟩) (op_buildSlice (sz := 3) rfl rfl (fun _ => bs_22_1_0 _ _ _) rfl rfl (fun b207 => ?_))
                            refine ga_only 5 #[true, true, true, true, true, true, true, false, false, false, false, false, false, false, false] rfl rfl (by kernel_rfl) rfl (.inr ⟨[2, 3, 4, 5, 6], by decide, rfl⟩) (op_appendRow 1 0 Try.underlying22 ty_25 rfl (by decide) rfl rfl rfl rfl rfl (by simp [Value.oneCell']) (by omega) (by omega) (fun _ => (by first | rfl | (simp only [List.set_cons_succ, List.set_cons_zero]; exact rfl))) (fun r208 c208 => ?_))
                            rw [show [] ++ l.flatMap Pipe.cells ++ [.int .i64 m2.kind, .int .i64 m2.d, .int .i64 m2.len] = (l ++ [m2]).flatMap Pipe.cells by simp [List.flatMap_append, Pipe.cells], show 0 + l.length + 1 = (l ++ [m2]).length by simp]
                            obtain ⟨res2, cst2, hbest2, hbc2⟩ := best_any (l ++ [m2]) w
                            refine ga_only 7 #[true, true, true, true, true, true, true, true, false, false, false, false, false, false, false] rfl rfl (by kernel_rfl) rfl (.inr ⟨[2, 3, 4, 5, 6], by decide, rfl⟩) (op_call rfl (vf := []) (vc := []) rfl rfl Try.call14 (fun w2 ho => Best_ok (l ++ [m2]) w (rowA r208) b c208 cb w2 (ho.rowSl 1 rfl) (hw.at ho) (by simp; omega) hwb res2 cst2 hbest2) ?_)
                            rintro _ _ ⟨rb, kb, rfl, rfl⟩
                            refine ga_first 8 #[true, true, true, true, true, true, true, true, true, false, false, false, false, false, false] rfl rfl rfl rfl (by kernel_rfl) rfl ⟨[3, 4, 5, 6, 7], by decide, rfl⟩ (qt_rd (rd_move rfl)) ?_
                            refine ga_first 9 #[true, true, true, true, true, true, true, true, true, true, false, false, false, false, false] rfl rfl rfl rfl (by kernel_rfl) rfl ⟨[3, 4, 5, 6, 7], by decide, rfl⟩ (qt_rd (rd_extract rfl rfl)) ?_
                            refine ga_first 10 #[true, true, true, true, true, true, true, true, true, true, true, false, false, false, false] rfl rfl rfl rfl (by kernel_rfl) rfl ⟨[3, 4, 5, 6, 7], by decide, rfl⟩ (qt_rd (rd_extract rfl rfl)) ?_
                            refine ga_first 11 #[true, true, true, true, true, true, true, true, true, true, true, true, false, false, false] rfl rfl rfl rfl (by kernel_rfl) rfl ⟨[3, 4, 5, 6, 7], by decide, rfl⟩ (qt_rd (rd_extract rfl rfl)) ?_
                            refine ga_first 12 #[true, true, true, true, true, true, true, true, true, true, true, true, true, false, false] rfl rfl rfl rfl (by kernel_rfl) rfl ⟨[3, 4, 5, 6, 7], by decide, rfl⟩ (qt_rd (rd_assign rfl)) ?_
                            refine ga_first 13 #[true, true, true, true, true, true, true, true, true, true, true, true, true, true, false] rfl rfl rfl rfl (by kernel_rfl) rfl ⟨[3, 4, 5, 6, 7], by decide, rfl⟩ (qt_rd (rd_assign rfl)) ?_
                            refine ga_only 14 #[true, true, true, true, true, true, true, true, true, true, true, true, true, true, true] rfl rfl (by kernel_rfl) rfl (.inr ⟨[3, 4, 5, 6, 7], by decide, rfl⟩) (op_rd rfl (rd_assign rfl) ?_)
                            refine ga_end (by kernel_rfl) (.inl (by kernel_rfl)) ?_
                            refine gx_then ?_
                            exact gx_cut (res2, cst2, rb, kb) hbest2 ⟨rfl, rfl, rfl, rfl, rfl, rfl, trivial⟩ ⟨[7, 0], by decide, rfl⟩
                          · skip
                            refine (op_buildSlice (sz := 3) rfl rfl (fun _ => bs_22_1_0 _ _ _) rfl rfl (fun b207 => ?_))
                            refine ga_only 2 #[true, true, true, true, true, false, true, false, false, false, false, false, false, false, false] rfl rfl (by kernel_rfl) rfl (.inr ⟨[2, 3, 4, 5, 6], by decide, rfl⟩) (op_appendSl 1 hl Try.underlying22 ty_25 rfl (by decide) rfl rfl rfl rfl (fun u hu => pipe_one l u hu) (by omega) (by omega) (fun _ => (by first | rfl | (simp only [List.set_cons_succ, List.set_cons_zero]; exact rfl))) (fun r205 c205 => ?_))
                            refine ga_only 5 #[true, true, true, true, true, true, true, false, false, false, false, false, false, false, false] rfl rfl (by kernel_rfl) rfl (.inr ⟨[2, 3, 4, 5, 6], by decide, rfl⟩) (op_appendRow 1 0 Try.underlying22 ty_25 rfl (by decide) rfl rfl rfl rfl rfl (by simp [Value.oneCell']) (by omega) (by omega) (fun _ => (by first | rfl | (simp only [List.set_cons_succ, List.set_cons_zero]; exact rfl))) (fun r208 c208 => ?_))
                            rw [show [] ++ l.flatMap Pipe.cells ++ [.int .i64 m2.kind, .int .i64 m2.d, .int .i64 m2.len] = (l ++ [m2]).flatMap Pipe.cells by simp [List.flatMap_append, Pipe.cells], show 0 + l.length + 1 = (l ++ [m2]).length by simp]
                            obtain ⟨res2, cst2, hbest2, hbc2⟩ := best_any (l ++ [m2]) w
                            refine ga_only 7 #[true, true, true, true, true, true, true, true, false, false, false, false, false, false, false] rfl rfl (by kernel_rfl) rfl (.inr ⟨[2, 3, 4, 5, 6], by decide, rfl⟩) (op_call rfl (vf := []) (vc := []) rfl rfl Try.call14 (fun w2 ho => Best_ok (l ++ [m2]) w (rowA r208) b c208 cb w2 (ho.rowSl 1 rfl) (hw.at ho) (by simp; omega) hwb res2 cst2 hbest2) ?_)
                            rintro _ _ ⟨rb, kb, rfl, rfl⟩
                            refine ga_first 8 #[true, true, true, true, true, true, true, true, true, false, false, false, false, false, false] rfl rfl rfl rfl (by kernel_rfl) rfl ⟨[3, 4, 5, 6, 7], by decide, rfl⟩ (qt_rd (rd_move rfl)) ?_
                            refine ga_first 9 #[true, true, true, true, true, true, true, true, true, true, false, false, false, false, false] rfl rfl rfl rfl (by kernel_rfl) rfl ⟨[3, 4, 5, 6, 7], by decide, rfl⟩ (qt_rd (rd_extract rfl rfl)) ?_
                            refine ga_first 10 #[true, true, true, true, true, true, true, true, true, true, true, false, false, false, false] rfl rfl rfl rfl (by kernel_rfl) rfl ⟨[3, 4, 5, 6, 7], by decide, rfl⟩ (qt_rd (rd_extract rfl rfl)) ?_
                            refine ga_first 11 #[true, true, true, true, true, true, true, true, true, true, true, true, false, false, false] rfl rfl rfl rfl (by kernel_rfl) rfl ⟨[3, 4, 5, 6, 7], by decide, rfl⟩ (qt_rd (rd_extract rfl rfl)) ?_
                            refine ga_first 12 #[true, true, true, true, true, true, true, true, true, true, true, true, true, false, false] rfl rfl rfl rfl (by kernel_rfl) rfl ⟨[3, 4, 5, 6, 7], by decide, rfl⟩ (qt_rd (rd_assign rfl)) ?_
                            refine ga_first 13 #[true, true, true, true, true, true, true, true, true, true, true, true, true, true, false] rfl rfl rfl rfl (by kernel_rfl) rfl ⟨[3, 4, 5, 6, 7], by decide, rfl⟩ (qt_rd (rd_assign rfl)) ?_
                            refine ga_only 14 #[true, true, true, true, true, true, true, true, true, true, true, true, true, true, true] rfl rfl (by kernel_rfl) rfl (.inr ⟨[3, 4, 5, 6, 7], by decide, rfl⟩) (op_rd rfl (rd_assign rfl) ?_)
                            refine ga_end (by kernel_rfl) (.inl (by kernel_rfl)) ?_
                            refine gx_then ?_
                            exact gx_cut (res2, cst2, rb, kb) hbest2 ⟨rfl, rfl, rfl, rfl, rfl, rfl, trivial⟩ ⟨[7, 0], by decide, rfl⟩
                        · skip
                          refine (op_buildSlice (sz := 3) rfl rfl (fun _ => bs_22_1_0 _ _ _) rfl rfl (fun b207 => ?_))
                          refine ga_only 0 #[true, true, false, true, true, false, true, false, false, false, false, false, false, false, false] rfl rfl (by kernel_rfl) rfl (.inr ⟨[1, 2, 3, 4, 5], by decide, rfl⟩) (op_buildSlice (sz := 3) rfl rfl (fun _ => bs_22_0_) rfl rfl (fun b203 => ?_))
                          refine ga_only 2 #[true, true, true, true, true, false, true, false, false, false, false, false, false, false, false] rfl rfl (by kernel_rfl) rfl (.inr ⟨[2, 3, 4, 5, 6], by decide, rfl⟩) (op_appendSl 0 hl Try.underlying22 ty_25 rfl (by decide) rfl rfl rfl rfl (fun u hu => pipe_one l u hu) (by omega) (by omega) (fun _ => (by first | rfl | (simp only [List.set_cons_succ, List.set_cons_zero]; exact rfl))) (fun r205 c205 => ?_))
                          refine ga_only 5 #[true, true, true, true, true, true, true, false, false, false, false, false, false, false, false] rfl rfl (by kernel_rfl) rfl (.inr ⟨[2, 3, 4, 5, 6], by decide, rfl⟩) (op_appendRow 0 1 Try.underlying22 ty_25 rfl (by decide) rfl rfl rfl rfl rfl (by simp [Value.oneCell']) (by omega) (by omega) (fun _ => (by first | rfl | (simp only [List.set_cons_succ, List.set_cons_zero]; exact rfl))) (fun r208 c208 => ?_))
                          rw [show [] ++ l.flatMap Pipe.cells ++ [.int .i64 m2.kind, .int .i64 m2.d, .int .i64 m2.len] = (l ++ [m2]).flatMap Pipe.cells by simp [List.flatMap_append, Pipe.cells], show 0 + l.length + 1 = (l ++ [m2]).length by simp]
                          obtain ⟨res2, cst2, hbest2, hbc2⟩ := best_any (l ++ [m2]) w
                          refine ga_only 7 #[true, true, true, true, true, true, true, true, false, false, false, false, false, false, false] rfl rfl (by kernel_rfl) rfl (.inr ⟨[2, 3, 4, 5, 6], by decide, rfl⟩) (op_call rfl (vf := []) (vc := []) rfl rfl Try.call14 (fun w2 ho => Best_ok (l ++ [m2]) w (rowA r208) b c208 cb w2 (ho.rowSl 0 rfl) (hw.at ho) (by simp; omega) hwb res2 cst2 hbest2) ?_)
                          rintro _ _ ⟨rb, kb, rfl, rfl⟩
                          refine ga_first 8 #[true, true, true, true, true, true, true, true, true, false, false, false, false, false, false] rfl rfl rfl rfl (by kernel_rfl) rfl ⟨[3, 4, 5, 6, 7], by decide, rfl⟩ (qt_rd (rd_move rfl)) ?_
                          refine ga_first 9 #[true, true, true, true, true, true, true, true, true, true, false, false, false, false, false] rfl rfl rfl rfl (by kernel_rfl) rfl ⟨[3, 4, 5, 6, 7], by decide, rfl⟩ (qt_rd (rd_extract rfl rfl)) ?_
                          refine ga_first 10 #[true, true, true, true, true, true, true, true, true, true, true, false, false, false, false] rfl rfl rfl rfl (by kernel_rfl) rfl ⟨[3, 4, 5, 6, 7], by decide, rfl⟩ (qt_rd (rd_extract rfl rfl)) ?_
                          refine ga_first 11 #[true, true, true, true, true, true, true, true, true, true, true, true, false, false, false] rfl rfl rfl rfl (by kernel_rfl) rfl ⟨[3, 4, 5, 6, 7], by decide, rfl⟩ (qt_rd (rd_extract rfl rfl)) ?_
                          refine ga_first 12 #[true, true, true, true, true, true, true, true, true, true, true, true, true, false, false] rfl rfl rfl rfl (by kernel_rfl) rfl ⟨[3, 4, 5, 6, 7], by decide, rfl⟩ (qt_rd (rd_assign rfl)) ?_
                          refine ga_first 13 #[true, true, true, true, true, true, true, true, true, true, true, true, true, true, false] rfl rfl rfl rfl (by kernel_rfl) rfl ⟨[3, 4, 5, 6, 7], by decide, rfl⟩ (qt_rd (rd_assign rfl)) ?_
                          refine ga_only 14 #[true, true, true, true, true, true, true, true, true, true, true, true, true, true, true] rfl rfl (by kernel_rfl) rfl (.inr ⟨[3, 4, 5, 6, 7], by decide, rfl⟩) (op_rd rfl (rd_assign rfl) ?_)
                          refine ga_end (by kernel_rfl) (.inl (by kernel_rfl)) ?_
                          refine gx_then ?_
                          exact gx_cut (res2, cst2, rb, kb) hbest2 ⟨rfl, rfl, rfl, rfl, rfl, rfl, trivial⟩ ⟨[7, 0], by decide, rfl⟩
                      · rintro ⟨res2, cst2, rb, kb⟩ hbest2
                        simp only at hbest2 ⊢
                        refine gc_seq ?_
                        refine gc_seq ?_
                        refine gc_region ?_
                        refine gl_op (op_rd rfl (rd_move rfl) ?_)
                        refine gl_op (op_rd rfl (rd_neq rfl rfl) (gk_dec (fun h215 => ?_) (fun h215 => ?_)))
                        · skip
                          refine gl_nil ?_
                          refine gx_then ?_
                          refine gc_cond_t rfl ?_
                          refine gc_seq ?_
                          refine gc_drawP [0, 1] false 13 rfl ?_
                          refine ga_first 1 #[false, true, false, false, false, false, false, false, false, false, false, false, false, false] rfl rfl rfl rfl (by kernel_rfl) rfl ⟨[0, 1], by decide, rfl⟩ (qt_rd (rd_move rfl)) ?_
                          refine ga_first 3 #[false, true, false, true, false, false, false, false, false, false, false, false, false, false] rfl rfl rfl rfl (by kernel_rfl) rfl ⟨[0, 1], by decide, rfl⟩ (qt_rd (rd_loadAgg Try.underlying25 rfl ty_25 rfl (by first | exact cs_blk 0 (off := 0) (k := 3) rfl rfl | exact cs_old (by assumption) (by simp)) rfl)) ?_
                          refine ga_first 6 #[false, true, false, true, false, false, true, false, false, false, false, false, false, false] rfl rfl rfl rfl (by kernel_rfl) rfl ⟨[0, 1], by decide, rfl⟩ (qt_rd (rd_move rfl)) ?_
                          refine ga_first 8 #[false, true, false, true, false, false, true, false, true, false, false, false, false, false] rfl rfl rfl rfl (by kernel_rfl) rfl ⟨[0, 1], by decide, rfl⟩ (qt_rd (rd_move rfl)) ?_
                          refine ga_two 0 4 #[true, true, false, true, false, false, true, false, true, false, false, false, false, false] #[false, true, false, true, true, false, true, false, true, false, false, false, false, false] rfl rfl rfl rfl (by kernel_rfl) rfl rfl (.inr ⟨[0, 1], by decide, rfl⟩) ?_ ?_
                          · skip
                            refine (op_buildSlice (sz := 3) rfl rfl (fun _ => bs_22_0_) rfl rfl (fun b216 => ?_))
                            refine ga_two 2 4 #[true, true, true, true, false, false, true, false, true, false, false, false, false, false] #[true, true, false, true, true, false, true, false, true, false, false, false, false, false] rfl rfl rfl rfl (by kernel_rfl) rfl rfl (.inr ⟨[1, 2], by decide, rfl⟩) ?_ ?_
                            · skip
                              refine (op_appendSl 0 hl Try.underlying22 ty_25 rfl (by decide) rfl rfl rfl rfl (fun u hu => pipe_one l u hu) (by omega) (by omega) (fun _ => (by first | rfl | (simp only [List.set_cons_succ, List.set_cons_zero]; exact rfl))) (fun r218 c218 => ?_))
                              refine ga_only 4 #[true, true, true, true, true, false, true, false, true, false, false, false, false, false] rfl rfl (by kernel_rfl) rfl (.inr ⟨[1, 2], by decide, rfl⟩) (op_buildSlice (sz := 3) rfl rfl (fun _ => bs_22_1_0 _ _ _) rfl rfl (fun b220 => ?_))
                              refine ga_only 5 #[true, true, true, true, true, true, true, false, true, false, false, false, false, false] rfl rfl (by kernel_rfl) rfl (.inr ⟨[2, 3], by decide, rfl⟩) (op_appendRow 1 0 Try.underlying22 ty_25 rfl (by decide) rfl rfl rfl rfl rfl (by simp [Value.oneCell']) (by omega) (by omega) (fun _ => (by first | rfl | (simp only [List.set_cons_succ, List.set_cons_zero]; exact rfl))) (fun r221 c221 => ?_))
                              rw [show [] ++ l.flatMap Pipe.cells ++ [.int .i64 m2.kind, .int .i64 m2.d, .int .i64 m2.len] = (l ++ [m2]).flatMap Pipe.cells by simp [List.flatMap_append, Pipe.cells], show 0 + l.length + 1 = (l ++ [m2]).length by simp]
                              refine ga_only 7 #[true, true, true, true, true, true, true, true, true, false, false, false, false, false] rfl rfl (by kernel_rfl) rfl (.inr ⟨[2, 3], by decide, rfl⟩) (op_call rfl (vf := []) (vc := []) rfl rfl Try.call12 (fun w2 ho => rCheck_ok (l ++ [m2]) w (rowA r221) b c221 cb w2 (ho.rowSl 1 rfl) (hw.at ho) (by simp; omega) hwb) ?_)
                              rintro _ _ ⟨rfl, rfl⟩
                              refine ga_first 9 #[true, true, true, true, true, true, true, true, true, true, false, false, false, false] rfl rfl rfl rfl (by kernel_rfl) rfl ⟨[2, 3], by decide, rfl⟩ (qt_rd (rd_eql rfl rfl)) (gk_dec (fun h225 => ?_) (fun h225 => ?_))
                              · skip
                                refine ga_first 10 #[true, true, true, true, true, true, true, true, true, true, true, false, false, false] rfl rfl rfl rfl (by kernel_rfl) rfl ⟨[2, 3], by decide, rfl⟩ (qt_rd (rd_move rfl)) ?_
                                refine ga_onlyY 11 #[true, true, true, true, true, true, true, true, true, true, true, true, false, false] rfl rfl rfl rfl (by kernel_rfl) rfl (.inr ⟨[2, 3], by decide, rfl⟩) (op_call rfl (vf := []) (vc := []) rfl rfl Try.call8 (fun w1 ho => shown_ok w1) ?_)
                                rintro _ _ ⟨rfl, rfl⟩
                                refine ga_first 12 #[true, true, true, true, true, true, true, true, true, true, true, true, true, false] rfl rfl rfl rfl (by kernel_rfl) rfl ⟨[2, 3], by decide, rfl⟩ (qt_rd (rd_pick_t rfl rfl)) ?_
                                refine ga_only 13 #[true, true, true, true, true, true, true, true, true, true, true, true, true, true] rfl rfl (by kernel_rfl) rfl (.inr ⟨[2, 3], by decide, rfl⟩) (op_rd rfl (rd_assign rfl) ?_)
                                refine ga_end (by kernel_rfl) (.inl (by kernel_rfl)) ?_
                                refine gx_then ?_
                                refine gc_ret ?_
                                refine gx_then_ret ?_
                                refine gx_ret1 (.inl rfl) Try.results7 rfl [] (by decide) ?_
                                exact ⟨rfl, rfl⟩
                              · skip
                                exact absurd rfl h225
                            · skip
                              refine (op_buildSlice (sz := 3) rfl rfl (fun _ => bs_22_1_0 _ _ _) rfl rfl (fun b220 => ?_))
                              refine ga_only 2 #[true, true, true, true, true, false, true, false, true, false, false, false, false, false] rfl rfl (by kernel_rfl) rfl (.inr ⟨[2, 3], by decide, rfl⟩) (op_appendSl 1 hl Try.underlying22 ty_25 rfl (by decide) rfl rfl rfl rfl (fun u hu => pipe_one l u hu) (by omega) (by omega) (fun _ => (by first | rfl | (simp only [List.set_cons_succ, List.set_cons_zero]; exact rfl))) (fun r218 c218 => ?_))
                              refine ga_only 5 #[true, true, true, true, true, true, true, false, true, false, false, false, false, false] rfl rfl (by kernel_rfl) rfl (.inr ⟨[2, 3], by decide, rfl⟩) (op_appendRow 1 0 Try.underlying22 ty_25 rfl (by decide) rfl rfl rfl rfl rfl (by simp [Value.oneCell']) (by omega) (by omega) (fun _ => (by first | rfl | (simp only [List.set_cons_succ, List.set_cons_zero]; exact rfl))) (fun r221 c221 => ?_))
                              rw [show [] ++ l.flatMap Pipe.cells ++ [.int .i64 m2.kind, .int .i64 m2.d, .int .i64 m2.len] = (l ++ [m2]).flatMap Pipe.cells by simp [List.flatMap_append, Pipe.cells], show 0 + l.length + 1 = (l ++ [m2]).length by simp]
                              refine ga_only 7 #[true, true, true, true, true, true, true, true, true, false, false, false, false, false] rfl rfl (by kernel_rfl) rfl (.inr ⟨[2, 3], by decide, rfl⟩) (op_call rfl (vf := []) (vc := []) rfl rfl Try.call12 (fun w2 ho => rCheck_ok (l ++ [m2]) w (rowA r221) b c221 cb w2 (ho.rowSl 1 rfl) (hw.at ho) (by simp; omega) hwb) ?_)
                              rintro _ _ ⟨rfl, rfl⟩
                              refine ga_first 9 #[true, true, true, true, true, true, true, true, true, true, false, false, false, false] rfl rfl rfl rfl (by kernel_rfl) rfl ⟨[2, 3], by decide, rfl⟩ (qt_rd (rd_eql rfl rfl)) (gk_dec (fun h225 => ?_) (fun h225 => ?_))
                              · skip
                                refine ga_first 10 #[true, true, true, true, true, true, true, true, true, true, true, false, false, false] rfl rfl rfl rfl (by kernel_rfl) rfl ⟨[2, 3], by decide, rfl⟩ (qt_rd (rd_move rfl)) ?_
                                refine ga_onlyY 11 #[true, true, true, true, true, true, true, true, true, true, true, true, false, false] rfl rfl rfl rfl (by kernel_rfl) rfl (.inr ⟨[2, 3], by decide, rfl⟩) (op_call rfl (vf := []) (vc := []) rfl rfl Try.call8 (fun w1 ho => shown_ok w1) ?_)
                                rintro _ _ ⟨rfl, rfl⟩
                                refine ga_first 12 #[true, true, true, true, true, true, true, true, true, true, true, true, true, false] rfl rfl rfl rfl (by kernel_rfl) rfl ⟨[2, 3], by decide, rfl⟩ (qt_rd (rd_pick_t rfl rfl)) ?_
                                refine ga_only 13 #[true, true, true, true, true, true, true, true, true, true, true, true, true, true] rfl rfl (by kernel_rfl) rfl (.inr ⟨[2, 3], by decide, rfl⟩) (op_rd rfl (rd_assign rfl) ?_)
                                refine ga_end (by kernel_rfl) (.inl (by kernel_rfl)) ?_
                                refine gx_then ?_
                                refine gc_ret ?_
                                refine gx_then_ret ?_
                                refine gx_ret1 (.inl rfl) Try.results7 rfl [] (by decide) ?_
                                exact ⟨rfl, rfl⟩
                              · skip
                                exact absurd rfl h225
                          · skip
                            refine (op_buildSlice (sz := 3) rfl rfl (fun _ => bs_22_1_0 _ _ _) rfl rfl (fun b220 => ?_))
                            refine ga_only 0 #[true, true, false, true, true, false, true, false, true, false, false, false, false, false] rfl rfl (by kernel_rfl) rfl (.inr ⟨[1, 2], by decide, rfl⟩) (op_buildSlice (sz := 3) rfl rfl (fun _ => bs_22_0_) rfl rfl (fun b216 => ?_))
                            refine ga_only 2 #[true, true, true, true, true, false, true, false, true, false, false, false, false, false] rfl rfl (by kernel_rfl) rfl (.inr ⟨[2, 3], by decide, rfl⟩) (op_appendSl 0 hl Try.underlying22 ty_25 rfl (by decide) rfl rfl rfl rfl (fun u hu => pipe_one l u hu) (by omega) (by omega) (fun _ => (by first | rfl | (simp only [List.set_cons_succ, List.set_cons_zero]; exact rfl))) (fun r218 c218 => ?_))
                            refine ga_only 5 #[true, true, true, true, true, true, true, false, true, false, false, false, false, false] rfl rfl (by kernel_rfl) rfl (.inr ⟨[2, 3], by decide, rfl⟩) (op_appendRow 0 1 Try.underlying22 ty_25 rfl (by decide) rfl rfl rfl rfl rfl (by simp [Value.oneCell']) (by omega) (by omega) (fun _ => (by first | rfl | (simp only [List.set_cons_succ, List.set_cons_zero]; exact rfl))) (fun r221 c221 => ?_))
                            rw [show [] ++ l.flatMap Pipe.cells ++ [.int .i64 m2.kind, .int .i64 m2.d, .int .i64 m2.len] = (l ++ [m2]).flatMap Pipe.cells by simp [List.flatMap_append, Pipe.cells], show 0 + l.length + 1 = (l ++ [m2]).length by simp]
                            refine ga_only 7 #[true, true, true, true, true, true, true, true, true, false, false, false, false, false] rfl rfl (by kernel_rfl) rfl (.inr ⟨[2, 3], by decide, rfl⟩) (op_call rfl (vf := []) (vc := []) rfl rfl Try.call12 (fun w2 ho => rCheck_ok (l ++ [m2]) w (rowA r221) b c221 cb w2 (ho.rowSl 0 rfl) (hw.at ho) (by simp; omega) hwb) ?_)
                            rintro _ _ ⟨rfl, rfl⟩
                            refine ga_first 9 #[true, true, true, true, true, true, true, true, true, true, false, false, false, false] rfl rfl rfl rfl (by kernel_rfl) rfl ⟨[2, 3], by decide, rfl⟩ (qt_rd (rd_eql rfl rfl)) (gk_dec (fun h225 => ?_) (fun h225 => ?_))
                            · skip
                              refine ga_first 10 #[true, true, true, true, true, true, true, true, true, true, true, false, false, false] rfl rfl rfl rfl (by kernel_rfl) rfl ⟨[2, 3], by decide, rfl⟩ (qt_rd (rd_move rfl)) ?_
                              refine ga_onlyY 11 #[true, true, true, true, true, true, true, true, true, true, true, true, false, false] rfl rfl rfl rfl (by kernel_rfl) rfl (.inr ⟨[2, 3], by decide, rfl⟩) (op_call rfl (vf := []) (vc := []) rfl rfl Try.call8 (fun w1 ho => shown_ok w1) ?_)
                              rintro _ _ ⟨rfl, rfl⟩
                              refine ga_first 12 #[true, true, true, true, true, true, true, true, true, true, true, true, true, false] rfl rfl rfl rfl (by kernel_rfl) rfl ⟨[2, 3], by decide, rfl⟩ (qt_rd (rd_pick_t rfl rfl)) ?_
                              refine ga_only 13 #[true, true, true, true, true, true, true, true, true, true, true, true, true, true] rfl rfl (by kernel_rfl) rfl (.inr ⟨[2, 3], by decide, rfl⟩) (op_rd rfl (rd_assign rfl) ?_)
                              refine ga_end (by kernel_rfl) (.inl (by kernel_rfl)) ?_
                              refine gx_then ?_
                              refine gc_ret ?_
                              refine gx_then_ret ?_
                              refine gx_ret1 (.inl rfl) Try.results7 rfl [] (by decide) ?_
                              exact ⟨rfl, rfl⟩
                            · skip
                              exact absurd rfl h225
                        · skip
                          have hck2 : checkP (l ++ [m2]) w = 0 := by omega
                          have hd2 := checkP_ok hck2
                          obtain ⟨res3, cst3, hbest3, hbc3⟩ := best_any (l ++ [m2]) w
                          rw [hbest2] at hbest3
                          cases hbest3
                          obtain ⟨ol2, sum2, hopt2, hre2, _⟩ := hbc3.2 hck2
                          have hM2 := lst_max hd2 hopt2.lst
                          rw [hre2] at hM2
                          have hle := hM2.le _ (more_mtc m2 hM.m)
                          have hrl2 : res2.length = w.length := by rw [← hre2, resI_len, hopt2.asg.len]
                          refine gl_nil ?_
                          refine gx_then ?_
                          refine gc_cond_f rfl ?_
                          refine gc_skip ?_
                          refine gx_then ?_
                          refine gc_seq ?_
                          refine gc_region ?_
                          refine gl_op (op_rd rfl (rd_assign rfl) ?_)
                          refine gl_nil ?_
                          refine gx_then ?_
                          refine gc_seq ?_
                          refine gc_seq ?_
                          refine gc_region ?_
                          refine gl_op (op_rd rfl (rd_assign rfl) ?_)
                          refine gl_nil ?_
                          refine gx_then ?_
                          refine gc_block ?_
                          refine gc_loopF (ι := Nat × Nat) [(15, _), (24, _)] [_, _] (fun j => j.1 ≤ res2.length ∧ j.2 = unm (fun q => res2.getD q 0) j.1) (fun j Fr0 => ((27, natV j.1) :: (26, natV j.2) :: Fr0)) (fun j Fr0 => Fr0) (fun j => res2.length - j.1) (0, 0) (⟨Nat.zero_le _, rfl⟩) ⟨rfl, rfl, rfl, rfl, trivial⟩ ⟨[0, 1], by decide, rfl⟩ ?_
                          rintro ⟨i, n2⟩ ⟨hi, hn⟩
                          simp only at hi hn ⊢
                          have hni : n2 ≤ i := by rw [hn]; exact filt_len _ _
                          refine gc_seq ?_
                          refine gc_seq ?_
                          refine gc_region ?_
                          refine gl_op (op_rd rfl (rd_move rfl) ?_)
                          refine gl_op (op_rd rfl (rd_move rfl) ?_)
                          refine gl_op (op_rd rfl (rd_lenSlice Try.underlying39 rfl) ?_)
                          refine gl_op (op_rd rfl (rd_lss rfl rfl) (gk_dec (fun hlt4 => ?_) (fun hlt4 => ?_)))
                          · skip
                            obtain ⟨z, hz⟩ := get_some (show i < res2.length by omega)
                            have hzd : res2.getD i 0 = z := getD_some hz
                            refine gl_nil ?_
                            refine gx_then ?_
                            refine gc_cond_t rfl ?_
                            refine gc_skip ?_
                            refine gx_then ?_
                            refine gc_seq ?_
                            refine gc_block ?_
                            refine gc_seq ?_
                            refine gc_region ?_
                            refine gl_op (op_rd rfl (rd_move rfl) ?_)
                            refine gl_op (op_rd rfl (rd_move rfl) ?_)
                            refine gl_op (op_rd rfl (rd_indexRow1 1 rfl Try.underlying39 ty_3 rfl rfl (by omega) (by omega)) ?_)
                            refine gl_op (op_rd rfl (rd_load Try.underlying3 rfl rfl (ld_rowN 1 rfl (get_iv hz))) ?_)
                            refine gl_op (op_rd rfl (rd_eql rfl rfl) (gk_dec (fun h239 => ?_) (fun h239 => ?_)))
                            · skip
                              refine gl_nil ?_
                              refine gx_then ?_
                              refine gc_cond_t rfl ?_
                              refine gc_region ?_
                              refine gl_op (op_rd rfl (rd_move rfl) ?_)
                              refine gl_op (op_rd rfl (by first | exact rd_addN (b := 1) rfl rfl (by omega) | exact rd_add rfl rfl (by omega) (by omega)) ?_)
                              refine gl_op (op_rd rfl (rd_assign rfl) ?_)
                              refine gl_nil ?_
                              refine gx_block ?_
                              refine gx_then ?_
                              refine gc_region ?_
                              refine gl_op (op_rd rfl (rd_move rfl) ?_)
                              refine gl_op (op_rd rfl (by first | exact rd_addN (b := 1) rfl rfl (by omega) | exact rd_add rfl rfl (by omega) (by omega)) ?_)
                              refine gl_op (op_rd rfl (rd_assign rfl) ?_)
                              refine gl_nil ?_
                              refine gx_then ?_
                              exact gx_cut ((i + 1, n2 + 1)) ⟨⟨by simp only; omega, by simp only; rw [unm_succ, hn, if_pos (by rw [hzd]; exact h239)]⟩, by simp only; omega⟩ ⟨rfl, rfl, rfl, rfl, trivial⟩ ⟨[0, 1], by decide, rfl⟩
                            · skip
                              refine gl_nil ?_
                              refine gx_then ?_
                              refine gc_cond_f rfl ?_
                              refine gc_skip ?_
                              refine gx_block ?_
                              refine gx_then ?_
                              refine gc_region ?_
                              refine gl_op (op_rd rfl (rd_move rfl) ?_)
                              refine gl_op (op_rd rfl (by first | exact rd_addN (b := 1) rfl rfl (by omega) | exact rd_add rfl rfl (by omega) (by omega)) ?_)
                              refine gl_op (op_rd rfl (rd_assign rfl) ?_)
                              refine gl_nil ?_
                              refine gx_then ?_
                              exact gx_cut ((i + 1, n2)) ⟨⟨by simp only; omega, by simp only; rw [unm_succ, hn, if_neg (by rw [hzd]; exact h239)]; rfl⟩, by simp only; omega⟩ ⟨rfl, rfl, rfl, rfl, trivial⟩ ⟨[0, 1], by decide, rfl⟩
                          · skip
                            have hn2 : n2 = unm (fun q => res2.getD q 0) w.length := by rw [hn, show i = w.length by omega]
                            refine gl_nil ?_
                            refine gx_then ?_
                            refine gc_cond_f rfl ?_
                            refine gc_exit ?_
                            refine gx_then_exit ?_
                            refine gx_then_exit ?_
                            refine gx_block_exit ?_
                            refine gx_then ?_
                            refine gc_seq ?_
                            refine gc_region ?_
                            refine gl_op (op_rd rfl (rd_move rfl) ?_)
                            refine gl_op (op_rd rfl (rd_move rfl) ?_)
                            refine gl_op (op_rd rfl (rd_leq rfl rfl) (gk_dec (fun h244 => ?_) (fun h244 => ?_)))
                            · skip
                              refine gl_op (op_rd rfl (rd_move rfl) ?_)
                              refine gl_yes rfl rfl (op_call rfl (vf := []) (vc := []) rfl rfl Try.call8 (fun w1 ho => shown_ok w1) ?_)
                              rintro _ _ ⟨rfl, rfl⟩
                              refine gl_op (op_rd rfl (rd_pick_t rfl rfl) ?_)
                              refine gl_op (op_rd rfl (rd_assign rfl) ?_)
                              refine gl_nil ?_
                              refine gx_then ?_
                              refine gc_ret ?_
                              refine gx_ret1 (.inl rfl) Try.results7 rfl [] (by decide) ?_
                              exact ⟨rfl, rfl⟩
                            · skip
                              exfalso; omega

end Go.Proofs.Yteiopfefmphhaaa

set_option autoImplicit false
set_option linter.unusedVariables false
namespace Go.Proofs.Yteiopfefmphhaaa
open Go.Gv
open Go.RowKit Go.ChangeShapes Go.WideShapes
open Iv
set_option maxHeartbeats 1000000 in
set_option maxRecDepth 100000 in
theorem inventoryProves_lifted (os : Os) (started : os.Started) (H : Type) (enc : TypeId × Value → H) :
    ReturnsInHanded {} Try.checked os 7 .any (Rows.inventoryProvesSpec.pre6 enc Try.prog Try.f7 Rows.inventoryProvesRow.domain false) (Rows.inventoryProvesSpec.post enc Try.prog Try.f7 false true false false) := by
  refine returnsInHanded_of_change_sized (C := Try.checked) tryOwn started (by kernel_rfl) Try.func7
    (ChangeSpec.witness6 (enc := enc) (C := Try.checked) false ⟨#[], #[.slice none 0 0, .slice none 0 0, .agg #[.int .i64 0, .int .i64 0, .int .i64 0]], []⟩ 8 (by kernel_rfl) (by kernel_rfl) (by kernel_rfl) (by kernel_rfl)) ?_
  intro W base args ds gs before hval0 hW _ hwt _
  have hval : ∀ (j : Nat) t v, Try.f7.params[j]? = some t → args[j]? = some v → Value.okWide Try.prog W .any base t v := hval0
  have hW' := hW
  obtain ⟨p, q, hA0, hV, rfl, hfz, hnd⟩ := hW
  have hA : DataW.TrodAll enc Try.prog W 0 (fun _ => true) true Try.f7.params.toList args.toList ds p := hA0
  rw [Try.params7] at hA hval
  obtain ⟨v0, vs0, d0, ds0, p0, q0, hargs, rfl, rfl, h0, r0⟩ := trodAll_cons hA
  obtain ⟨v1, vs1, d1, ds1, p1, q1, rfl, rfl, rfl, h1, r1⟩ := trodAll_cons r0
  obtain ⟨v2, vs2, d2, ds2, p2, q2, rfl, rfl, rfl, h2, r2⟩ := trodAll_cons r1
  obtain ⟨rfl, rfl, rfl⟩ := trodAll_nil r2
  obtain rfl : args = #[v0, v1, v2] := Array.toList_inj.1 hargs
  obtain ⟨rfl, rfl⟩ := trodVars_none hV
  obtain ⟨sa0, sn0, sc0, rfl⟩ := okWide_slice Try.underlying22 (hval 0 22 v0 rfl rfl)
  obtain ⟨fuel0, hf0⟩ := h0
  obtain ⟨pa0, zs0, cp0, hz0, hsl0, hlen0⟩ := openPipes hf0 (fun b hb => by
    have := List.all_eq_true.1 hwt b (DataW.weights_mem_each (j := 0) (t := 22) rfl rfl b hb)
    simpa using this)
  have e0 : Value.slice sa0 sn0 sc0 = .slice pa0 zs0.length cp0 := by
    simpa [Value.cells] using hz0
  obtain ⟨sa1, sn1, sc1, rfl⟩ := okWide_slice Try.underlying23 (hval 1 23 v1 rfl rfl)
  obtain ⟨fuel1, hf1⟩ := h1
  obtain ⟨pa1, zs1, cp1, hz1, hsl1, hlen1⟩ := openWishes hf1 (fun b hb => by
    have := List.all_eq_true.1 hwt b (DataW.weights_mem_each (j := 1) (t := 23) rfl rfl b hb)
    simpa using this)
  have e1 : Value.slice sa1 sn1 sc1 = .slice pa1 zs1.length cp1 := by
    simpa [Value.cells] using hz1
  obtain ⟨cs2, rfl, hsz2⟩ := okWide_struct Try.underlying25 (hval 2 25 v2 rfl rfl)
  obtain ⟨fuel2, hf2⟩ := h2
  obtain ⟨c2, hc2⟩ := openPipe hf2
  have e2 : Value.agg cs2 = c2.val := by
    have : cs2 = c2.cells.toArray := by rw [← hc2]; simp [Value.cells]
    rw [this]; rfl
  have hcall := InventoryProves_ok zs0 zs1 c2 pa0 pa1 cp0 cp1 W hsl0 hsl1 hlen0 hlen1
  rw [e0]
  rw [e0] at hW'
  rw [e1]
  rw [e1] at hW'
  rw [e2]
  rw [e2] at hW'
  unfold Sp at hcall
  refine Calls.mono hcall fun e W' ⟨v, l, he, hR, ho⟩ => ⟨v, he, ?_⟩
  obtain ⟨rfl, rfl⟩ := hR
  exact law_post hW' rfl ho.below rfl rfl rfl rfl (by rw [Try.params7]; intro t ht; simp at ht; rcases ht with rfl | rfl | rfl <;> exact ⟨by kernel_rfl, of_decide_eq_true (by kernel_rfl)⟩)
theorem inventoryProves_over : Rows.inventoryProvesRow.holds Try.pinned (OpenSpec.ofChange Rows.inventoryProvesSpec) :=
  OpenClaim.holds_of_wide 7 Try.f7 rfl rfl rfl rfl rfl rfl rfl ⟨rfl, rfl, rfl, rfl, rfl⟩ rfl rfl rfl rfl rfl (by kernel_rfl) Try.func7 (by kernel_rfl)
    (of_decide_eq_true (by kernel_rfl)) (by unfold Func.isWrapper; first | (rw [if_pos (by decide +kernel)]; kernel_rfl) | (rw [if_neg (by decide +kernel)]; exact ⟨rfl, rfl⟩))
    (fun os started H enc _ => inventoryProves_lifted os started H enc)
theorem inventoryProves_proved : Rows.InventoryProvesSaid := inventoryProves_over
end Go.Proofs.Yteiopfefmphhaaa
