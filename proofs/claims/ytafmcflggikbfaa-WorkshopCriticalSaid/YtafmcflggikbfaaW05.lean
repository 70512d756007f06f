import Derived.Test.YtafmcflggikbfaaW04
import Derived.Test.YtafmcflggikbfaaW00
/- A part of the proof: walks of the program. -/
set_option autoImplicit false
set_option linter.unusedSimpArgs false
set_option linter.unusedVariables false
set_option linter.unnecessarySimpa false
namespace Go.Proofs.Ytafmcflggikbfaa
open Go.Gv
open Go.RowKit
open Go.Sn
open Go.Wk
open Sx
namespace Sx
def lteJ (l : List Jb) (g : List Nat) (i j : Nat) : List Nat := g.set i (((jb l i).after.take j).foldl (aftS l g) (g.getD i 0))
def lteC (l : List Jb) (b : List Nat) (r i : Nat) : List Nat := (List.range i).foldl (lteS l) (lteR l b r)
theorem lteC_next (l : List Jb) (b : List Nat) (r i : Nat) : lteC l b r (i + 1) = lteS l (lteC l b r i) i := by
  unfold lteC; rw [List.range_succ, List.foldl_append]; rfl
theorem lteC_all (l : List Jb) (b : List Nat) (r : Nat) : lteC l b r l.length = lteR l b (r + 1) := rfl
theorem lteS_len (l : List Jb) (g : List Nat) (i : Nat) : (lteS l g i).length = g.length := by unfold lteS; rw [List.length_set]
theorem lteF_len (l : List Jb) (is : List Nat) : ∀ g : List Nat, (is.foldl (lteS l) g).length = g.length := by
  induction is with
  | nil => intro g; rfl
  | cons i is ih => intro g; rw [List.foldl_cons, ih, lteS_len]
theorem lteR_len (l : List Jb) (b : List Nat) : ∀ r, (lteR l b r).length = b.length
  | 0 => rfl
  | r + 1 => by unfold lteR; rw [lteF_len, lteR_len]
theorem lteC_len (l : List Jb) (b : List Nat) (r i : Nat) : (lteC l b r i).length = b.length := by unfold lteC; rw [lteF_len, lteR_len]
theorem lteJ_len (l : List Jb) (g : List Nat) (i j : Nat) : (lteJ l g i j).length = g.length := by unfold lteJ; rw [List.length_set]
theorem lteJ_zero {l : List Jb} {g : List Nat} {i : Nat} (hi : i < g.length) : lteJ l g i 0 = g := by
  unfold lteJ
  rw [List.take_zero, List.foldl_nil]
  apply List.ext_getElem?
  intro q
  rw [List.getElem?_set]
  split
  · rename_i e; subst e
    rw [List.getD_eq_getElem?_getD, List.getElem?_eq_getElem hi]; rfl
  · rfl
theorem lteJ_all {l : List Jb} {g : List Nat} {i j : Nat} {x : Jb} (hx : l[i]? = some x) (hj : x.after.length ≤ j) : lteJ l g i j = lteS l g i := by
  unfold lteJ lteS
  rw [List.take_of_length_le (by rw [jb_at hx]; exact hj)]
theorem lteJ_st {l : List Jb} {g : List Nat} {i j : Nat} {x z : Jb} {y : Nat × Nat} (hi : i < g.length) (hx : l[i]? = some x) (hy : x.after[j]? = some y) (hz : l[y.1]? = some z) (hne : y.1 ≠ i) : ((lteJ l g i j).map natV).set i (.int .i64 (max (((lteJ l g i j).getD i 0 : Nat) : Int) (((lteJ l g i j).getD y.1 0 + z.hours + y.2 : Nat) : Int))) = (lteJ l g i (j + 1)).map natV := by
  have e1 : (lteJ l g i j).getD i 0 = ((jb l i).after.take j).foldl (aftS l g) (g.getD i 0) := by unfold lteJ; rw [getD_setN _ _ _ _ hi, if_pos rfl]
  have e2 : (lteJ l g i j).getD y.1 0 = g.getD y.1 0 := by unfold lteJ; rw [getD_setN _ _ _ _ hi, if_neg (fun e => hne e.symm)]
  rw [e1, e2, show (Value.int IntKind.i64 (max ((((jb l i).after.take j).foldl (aftS l g) (g.getD i 0) : Nat) : Int) ((g.getD y.1 0 + z.hours + y.2 : Nat) : Int))) = natV (max (((jb l i).after.take j).foldl (aftS l g) (g.getD i 0)) (g.getD y.1 0 + z.hours + y.2)) from congrArg (Value.int IntKind.i64) (by omega), set_natL]
  congr 1
  unfold lteJ
  rw [List.set_set, jb_at hx, take_at hy, List.foldl_append]
  simp only [List.foldl_cons, List.foldl_nil, aftS, hr_at hz]
theorem foldS_bd {l : List Jb} {g : List Nat} {M : Nat} (hg : ∀ i, g.getD i 0 ≤ M) (hh : ∀ i, hr l i ≤ 1000) : ∀ (xs : List (Nat × Nat)) (t : Nat), (∀ a ∈ xs, a.2 ≤ 1000) → t ≤ M + 2000 → xs.foldl (aftS l g) t ≤ M + 2000
  | [], t, _, ht => ht
  | a :: xs, t, h, ht => by
    rw [List.foldl_cons]
    refine foldS_bd hg hh xs _ (fun b hb => h b (List.mem_cons_of_mem _ hb)) ?_
    have h1 := hg a.1
    have h2 := hh a.1
    have h3 := h a List.mem_cons_self
    unfold aftS
    omega
theorem hr_le {l : List Jb} (hj : JOk l) (i : Nat) : hr l i ≤ 1000 := by
  rcases Nat.lt_or_ge i l.length with h | h
  · exact (hj.hrs i h).2
  · unfold hr jb
    rw [List.getD_eq_getElem?_getD, List.getElem?_eq_none h]
    exact Nat.zero_le _
theorem lag_le {l : List Jb} (hj : JOk l) (i : Nat) : ∀ a ∈ (jb l i).after, a.2 ≤ 1000 := fun a ha => by
  rcases Nat.lt_or_ge i l.length with h | h
  · exact (hj.job i h a ha).2.2
  · rw [jb_none h] at ha; cases ha
theorem lteJ_bd {l : List Jb} (hj : JOk l) {g : List Nat} {M : Nat} (hg : ∀ i, g.getD i 0 ≤ M) (i j q : Nat) : (lteJ l g i j).getD q 0 ≤ M + 2000 := by
  unfold lteJ
  rw [List.getD_eq_getElem?_getD, List.getElem?_set]
  split
  · split
    · rw [Option.getD_some]
      exact foldS_bd hg (hr_le hj) _ _ (fun a ha => lag_le hj i a (List.mem_of_mem_take ha)) (Nat.le_trans (hg i) (Nat.le_add_right _ _))
    · simp
  · rw [← List.getD_eq_getElem?_getD]; exact Nat.le_trans (hg q) (Nat.le_add_right _ _)
theorem lteS_bd {l : List Jb} (hj : JOk l) {g : List Nat} {M : Nat} (hg : ∀ i, g.getD i 0 ≤ M) (i q : Nat) : (lteS l g i).getD q 0 ≤ M + 2000 := by
  have := lteJ_bd hj hg i (jb l i).after.length q
  unfold lteJ at this
  rw [List.take_length] at this
  exact this
theorem lteF_bd {l : List Jb} (hj : JOk l) : ∀ (is : List Nat) (g : List Nat) (M : Nat), (∀ i, g.getD i 0 ≤ M) → ∀ q, (is.foldl (lteS l) g).getD q 0 ≤ M + 2000 * is.length
  | [], g, M, hg, q => by simpa using hg q
  | i :: is, g, M, hg, q => by
    rw [List.foldl_cons, List.length_cons]
    have := lteF_bd hj is _ (M + 2000) (lteS_bd hj hg i) q
    omega
theorem lteR_bd {l : List Jb} (hj : JOk l) {b : List Nat} {M : Nat} (hb : ∀ i, b.getD i 0 ≤ M) : ∀ r q, (lteR l b r).getD q 0 ≤ M + 2000 * (r * l.length)
  | 0, q => by simpa [lteR] using hb q
  | r + 1, q => by
    unfold lteR
    have := lteF_bd hj (List.range l.length) _ _ (lteR_bd hj hb r) q
    rw [List.length_range] at this
    have e := Nat.succ_mul r l.length
    rw [Nat.succ_eq_add_one] at e
    omega
theorem lteC_bd {l : List Jb} (hj : JOk l) (h9 : l.length ≤ 9) {b : List Nat} (hb : ∀ i, b.getD i 0 ≤ 80001) {r i : Nat} (hr : r ≤ 9) (hi : i ≤ 9) (q : Nat) : (lteC l b r i).getD q 0 ≤ 300000 := by
  unfold lteC
  have := lteF_bd hj (List.range i) _ _ (lteR_bd hj hb r) q
  rw [List.length_range] at this
  have h2 : r * l.length ≤ 9 * 9 := Nat.mul_le_mul hr h9
  omega
theorem late_bd {n : List Jb} (hg : GoodJ n) (k i : Nat) : (lateB (earlC n) k).getD i 0 ≤ 80001 := by
  unfold lateB
  rw [List.getD_eq_getElem?_getD, List.getElem?_set]
  have h1 := earlC_bd hg k
  have h2 := earlC_bd hg i
  split
  · split
    · simp only [Option.getD_some]; omega
    · simp
  · rw [← List.getD_eq_getElem?_getD]; omega
theorem late_len (n : List Jb) (k : Nat) : (lateB (earlC n) k).length = n.length := by unfold lateB; rw [List.length_set, earlC_len]
theorem late_all {n : List Jb} (hg : GoodJ n) (h9 : n.length ≤ 9) (k : Nat) : ∀ t ∈ lateF n (earlC n) k, t ≤ 1000000 := fun t ht => by
  unfold lateF at ht
  obtain ⟨i, hi⟩ := List.mem_iff_getElem?.1 ht
  have h1 := lteR_bd hg.ok (late_bd hg k) n.length i
  rw [List.getD_eq_getElem?_getD, hi, Option.getD_some] at h1
  have h2 : n.length * n.length ≤ 9 * 9 := Nat.mul_le_mul h9 h9
  omega
theorem earlS_g {l : List JI} (h : checkE l = 0) : earlS l = castL (earlC (nOf l)) := by unfold earlS; rw [if_pos h]
theorem critS_g {l : List JI} (h : checkE l = 0) : critS l = castL (critC (nOf l)) := by unfold critS; rw [if_pos h]
theorem endS_g {l : List JI} (h : checkE l = 0) : endS l = ((endC (nOf l) : Nat) : Int) := by unfold endS; rw [if_pos h]
theorem nine_fits {l : List JI} (h : checkE l = 0) (h9 : l.length ≤ 9) : fitsV [9, 9, 9, 9, 9, 9] l (castL (earlC (nOf l))) = .tuple #[.bool true, .int .i64 (-1), .int .i64 0] := by
  obtain ⟨n, rfl, hg, hn⟩ := goodJ_of h
  rw [List.length_map] at h9
  rw [hn]
  have hb := cast_bad (l := n) (s := earlC n) (earlC_len n) (fun t ht => Nat.le_trans (bd_of (earlC_bd hg) t ht) (by decide))
  have hsb : ∀ b, b < 6 → sb [9, 9, 9, 9, 9, 9] b = 9 := by decide
  have hbn : ∀ i, i < n.length → bn n i < 6 := fun i hi => hg.ok.ben i hi
  have hf : Fit [9, 9, 9, 9, 9, 9] n (earlC n) := earlC_fit hg fun i hi => by rw [hsb _ (hbn i hi)]; omega
  have hw := wrongP_no (fit_wrong hf hbn)
  unfold fitsV
  rw [if_neg (by omega), hn, if_neg (by rw [hb]; decide), hw]
  rfl
theorem early_law {l : List JI} (h : checkE l = 0) {shop : List Int} {s : List Nat} (hs : Fit shop (nOf l) s) {i : Nat} (hi : i < (nOf l).length) : (earlC (nOf l)).getD i 0 ≤ s.getD i 0 := by
  obtain ⟨n, rfl, hg, hn⟩ := goodJ_of h
  rw [hn] at hs hi ⊢
  exact earlC_least hg hs.aft i hi
def anyK (c : List Nat) (k m : Nat) : Bool := (c.take m).any fun x => decide (x = k)
theorem anyK_yes {c : List Nat} {k m : Nat} (h : anyK c k m = true) : anyK c k (m + 1) = true := by
  unfold anyK at h ⊢
  rw [List.any_eq_true] at h ⊢
  obtain ⟨x, hx, h2⟩ := h
  exact ⟨x, List.take_subset_take_left c (Nat.le_succ m) hx, h2⟩
theorem anyK_next {c : List Nat} {k m x : Nat} (hx : c[m]? = some x) (h : anyK c k m = false) : anyK c k (m + 1) = decide (x = k) := by
  unfold anyK at h ⊢
  rw [take_at hx, List.any_append, h]; simp
theorem anyK_all {n : List Jb} (hg : GoodJ n) {k : Nat} (hk : k < n.length) : anyK (critC n) k (critC n).length = decide (((endF n (lateF n (earlC n) k) : Nat) : Int) > ((endC n : Nat) : Int)) := by
  unfold anyK
  rw [List.take_length, Bool.eq_iff_iff, List.any_eq_true, decide_eq_true_eq]
  have h := crit_law hg hk
  constructor
  · rintro ⟨x, hx, e⟩
    have e := of_decide_eq_true e
    subst e
    have := h.1 hx
    omega
  · intro h2
    exact ⟨k, h.2 (by omega), decide_eq_true rfl⟩
theorem castL_at {g : List Nat} {i : Nat} (h : i < g.length) : (castL g)[i]? = some ((g.getD i 0 : Nat) : Int) := by
  unfold castL
  rw [List.getElem?_map, List.getD_eq_getElem?_getD, List.getElem?_eq_getElem h]; rfl
end Sx
open Sx
set_option maxRecDepth 100000 in
set_option maxHeartbeats 2000000 in
theorem law7_raw (a : Option Addr) (c : Nat) (l : List JI) (hle : JsLe l)  (q : Option Addr) (cq : Nat) (ats : List Int) (hal : ats.length ≤ 140737488355328) (kd : Nat) (hkd : kd < 256) (w0 : World) (hJ : JsIn a l w0 []) (hT : OldSl w0 [] q ats.length 1 (ats.map intV)) : Sp Try.prog 7 [.slice a l.length c, .slice q ats.length cq, .int .u8 (kd : Int)] w0 [] (RV (.bool true)) := by
  refine spec_enter Try.func7 rfl Try.ntmps7 rfl (Own.refl _) ?_
  simp only [argEnv]
  refine gc_seq <| gc_region <| gl_op <| op_rd rfl (rd_assign rfl) <| gl_nil <| gx_then <| gc_seq <| gc_seq <| gc_region <| gl_op <| op_rd rfl (rd_move rfl) <| gl_op (op_call rfl (vf := []) (vc := []) rfl rfl Try.call8 (fun w1 ho => far_ok a c l hle w1 (hJ.at ho)) ?_)
  rintro _ _ ⟨rfl, rfl⟩
  refine gk_bool (fun hf => ?_) (fun hf => ?_)
  · refine gl_op <| op_rd rfl (rd_move rfl) <| gl_no rfl rfl rfl <| gl_no rfl rfl rfl <| gl_no rfl rfl rfl <| gl_op <| op_rd rfl (rd_pick_t rfl rfl) <| gl_op <| op_rd rfl (rd_move rfl) <| gl_no rfl rfl rfl <| gl_no rfl rfl rfl <| gl_no rfl rfl rfl <| gl_op <| op_rd rfl (rd_pick_t rfl rfl) <| gl_nil <| gx_then <| gc_cond_t rfl <| gc_seq <| gc_region <| gl_op (op_call rfl (vf := []) (vc := []) rfl rfl Try.call9 (fun w1 ho => shown_ok w1) ?_)
    rintro _ _ ⟨rfl, rfl⟩
    refine gl_op <| op_rd rfl (rd_assign rfl) <| gl_nil <| gx_then <| gc_ret <| gx_then_ret <| gx_ret1 (.inl rfl) Try.results7 rfl [] (by decide) ?_
    exact ⟨rfl, rfl⟩
  refine gl_op <| op_rd rfl (rd_move rfl) <| gl_yes rfl rfl <| op_rd rfl (rd_move rfl) <| gl_yes rfl rfl <| op_rd rfl (rd_lenSlice Try.underlying22 rfl) <| gl_yes rfl rfl (op_rd rfl (rd_gtr rfl rfl) (gk_dec (fun h31 => ?_) (fun h31 => ?_)))
  · refine gl_op <| op_rd rfl (rd_pick_f rfl rfl) <| gl_op <| op_rd rfl (rd_move rfl) <| gl_no rfl rfl rfl <| gl_no rfl rfl rfl <| gl_no rfl rfl rfl <| gl_op <| op_rd rfl (rd_pick_t rfl rfl) <| gl_nil <| gx_then <| gc_cond_t rfl <| gc_seq <| gc_region <| gl_op (op_call rfl (vf := []) (vc := []) rfl rfl Try.call9 (fun w1 ho => shown_ok w1) ?_)
    rintro _ _ ⟨rfl, rfl⟩
    refine gl_op <| op_rd rfl (rd_assign rfl) <| gl_nil <| gx_then <| gc_ret <| gx_then_ret <| gx_ret1 (.inl rfl) Try.results7 rfl [] (by decide) ?_
    exact ⟨rfl, rfl⟩
  refine gl_op <| op_rd rfl (rd_pick_f rfl rfl) <| gl_op <| op_rd rfl (rd_move rfl) <| gl_yes rfl rfl <| op_rd rfl (rd_move rfl) <| gl_yes rfl rfl (op_call rfl (vf := []) (vc := []) rfl rfl Try.call15 (fun w1 ho => rCheck_ok a c l hle w1 (hJ.at ho)) ?_)
  rintro _ _ ⟨rfl, rfl⟩
  refine gl_yes rfl rfl (op_rd rfl (rd_neq rfl rfl) (gk_dec (fun h36 => ?_) (fun h36 => ?_)))
  · refine gl_op <| op_rd rfl (rd_pick_f rfl rfl) <| gl_nil <| gx_then <| gc_cond_t rfl <| gc_seq <| gc_region <| gl_op (op_call rfl (vf := []) (vc := []) rfl rfl Try.call9 (fun w1 ho => shown_ok w1) ?_)
    rintro _ _ ⟨rfl, rfl⟩
    refine gl_op <| op_rd rfl (rd_assign rfl) <| gl_nil <| gx_then <| gc_ret <| gx_then_ret <| gx_ret1 (.inl rfl) Try.results7 rfl [] (by decide) ?_
    exact ⟨rfl, rfl⟩
  refine gl_op <| op_rd rfl (rd_pick_f rfl rfl) <| gl_nil <| gx_then <| gc_cond_f rfl <| gc_skip <| gx_then <| gc_seq ?_
  have hch : checkE l = 0 := by omega
  obtain ⟨hg, hN⟩ := n_facts hch hJ
  have hnl := nOf_len l
  have hn40 := hg.ok.n
  have hj := hg.ok
  have hecl := earlC_len (nOf l)
  have hccl := critC_le (nOf l)
  refine gc_region <| gl_op <| op_rd rfl (rd_move rfl) <| gl_op (op_call rfl (vf := []) (vc := []) rfl rfl Try.call10 (fun w1 ho => (Earliest_ok a c l hle w1 (hJ.at ho)).nils fun v L h => EarlR.s h) ?_)
  rintro _ _ ⟨r41, c41, rfl, rfl⟩
  refine gl_op <| op_rd rfl (rd_move rfl) <| gl_op <| op_rd rfl (rd_extract rfl rfl) <| gl_op <| op_rd rfl (rd_extract rfl rfl) <| gl_op <| op_rd rfl (rd_assign rfl) <| gl_op <| op_rd rfl (rd_assign rfl) <| gl_nil <| gx_then <| gc_seq <| gc_region <| gl_op <| op_rd rfl (rd_move rfl) <| gl_op (op_call rfl (vf := []) (vc := []) rfl rfl Try.call12 (fun w1 ho => (Critical_ok a c l hle w1 (hJ.at ho)).nils fun v L h => CritR.s h) ?_)
  rintro _ _ ⟨r46, c46, rfl, rfl⟩
  refine gl_op <| op_rd rfl (rd_move rfl) <| gl_op <| op_rd rfl (rd_extract rfl rfl) <| gl_op <| op_rd rfl (rd_extract rfl rfl) <| gl_op <| op_rd rfl (rd_extract rfl rfl) <| gl_op <| op_rd rfl (rd_assign rfl) <| gl_op <| op_rd rfl (rd_assign rfl) <| gl_op <| op_rd rfl (rd_assign rfl) <| gl_nil <| gx_then <| gc_seq <| gc_seq ?_
  rw [earlS_g hch, critS_g hch, endS_g hch, hch]
  refine gc_region <| gl_op <| op_rd rfl (rd_move rfl) <| gl_op (op_rd rfl (rd_neq rfl rfl) (gk_dec (fun h51 => ?_) (fun h51 => ?_)))
  · exact absurd rfl h51
  refine gl_op <| op_rd rfl (rd_move rfl) <| gl_yes rfl rfl <| op_rd rfl (rd_move rfl) <| gl_yes rfl rfl (op_rd rfl (rd_neq rfl rfl) (gk_dec (fun h54 => ?_) (fun h54 => ?_)))
  · exact absurd rfl h54
  refine gl_op <| op_rd rfl (rd_pick_f rfl rfl) <| gl_nil <| gx_then <| gc_cond_f rfl <| gc_skip <| gx_then <| gc_seq <| gc_region <| gl_op (op_buildSlice (sz := 1) rfl rfl (fun _ => bs_29_6_0_1_2_3_4_5 _ _ _ _ _ _) rfl rfl (fun b56 => ?_))
  refine gl_op <| op_rd rfl (rd_assign rfl) <| gl_nil <| gx_then <| gc_seq <| gc_region <| gl_op <| op_rd rfl (rd_move rfl) <| gl_op <| op_rd rfl (rd_move rfl) <| gl_op <| op_rd rfl (rd_move rfl) ?_
  refine gl_op (op_call rfl (vf := []) (vc := []) rfl rfl Try.call18 (fun w1 ho => by
    have h9 := Fits_ok a c l hle (rowA (some b56)) 6 [9, 9, 9, 9, 9, 9] (by decide) (rowA r41) c41 (castL (earlC (nOf l))) (by rw [castL_len]; omega) w1 (hJ.at ho) (ho.rowSl 0 rfl) (ho.rowSl 2 rfl)
    rw [nine_fits hch (by omega)] at h9
    exact h9) ?_)
  rintro _ _ ⟨rfl, rfl⟩
  refine gl_op <| op_rd rfl (rd_move rfl) <| gl_op <| op_rd rfl (rd_extract rfl rfl) <| gl_op <| op_rd rfl (rd_extract rfl rfl) <| gl_op <| op_rd rfl (rd_extract rfl rfl) <| gl_op <| op_rd rfl (rd_assign rfl) <| gl_op <| op_rd rfl (rd_assign rfl) <| gl_op <| op_rd rfl (rd_assign rfl) <| gl_nil <| gx_then <| gc_seq <| gc_seq <| gc_region <| gl_op <| op_rd rfl (rd_move rfl) <| gl_op (op_rd rfl (rd_neq rfl rfl) (gk_dec (fun h66 => ?_) (fun h66 => ?_)))
  · exact absurd rfl h66
  refine gl_op <| op_rd rfl (rd_move rfl) <| gl_yes rfl rfl <| op_rd rfl (rd_move rfl) <| gl_yes rfl rfl <| op_rd rfl (rd_not rfl) <| gl_op <| op_rd rfl (rd_pick_f rfl rfl) <| gl_op <| op_rd rfl (rd_move rfl) <| gl_yes rfl rfl <| op_rd rfl (rd_move rfl) <| gl_yes rfl rfl <| op_rd rfl (rd_lenSlice Try.underlying25 rfl) <| gl_yes rfl rfl <| op_rd rfl (rd_move rfl) <| gl_yes rfl rfl <| op_rd rfl (rd_lenSlice Try.underlying22 rfl) <| gl_yes rfl rfl (op_rd rfl (rd_neq rfl rfl) (gk_dec (fun h76 => ?_) (fun h76 => ?_)))
  · exact absurd (by rw [castL_len]; omega) h76
  refine gl_op <| op_rd rfl (rd_pick_f rfl rfl) <| gl_op <| op_rd rfl (rd_move rfl) <| gl_yes rfl rfl <| op_rd rfl (rd_move rfl) <| gl_yes rfl rfl <| op_rd rfl (rd_move rfl) ?_
  refine gl_yes rfl rfl (op_call rfl (vf := []) (vc := []) rfl rfl Try.call22 (fun w1 ho => by
    have h9 := rEnd_ok a c (nOf l) hg.ok (rowA r41) c41 (earlC (nOf l)) (hecl) (fun t ht => Nat.le_trans (bd_of (earlC_bd hg) t ht) (by decide)) w1 (hN.at ho) (by have h8 := ho.rowSl 2 rfl; rw [castL_len, cast_int] at h8; exact h8)
    rw [← castL_len (earlC (nOf l)), nOf_len] at h9
    exact h9) ?_)
  rintro _ _ ⟨rfl, rfl⟩
  refine gl_yes rfl rfl <| op_rd rfl (rd_move rfl) <| gl_yes rfl rfl (op_rd rfl (rd_neq rfl rfl) (gk_dec (fun h83 => ?_) (fun h83 => ?_)))
  · exact absurd rfl h83
  refine gl_op <| op_rd rfl (rd_pick_f rfl rfl) <| gl_op <| op_rd rfl (rd_move rfl) <| gl_yes rfl rfl <| op_rd rfl (rd_move rfl) <| gl_yes rfl rfl <| op_rd rfl (rd_lenSlice Try.underlying22 rfl) <| gl_yes rfl rfl (op_rd rfl (rd_gtr rfl rfl) (gk_dec (fun h88 => ?_) (fun h88 => ?_)))
  · refine gl_yes rfl rfl <| op_rd rfl (rd_move rfl) <| gl_yes rfl rfl <| op_rd rfl (rd_lenSlice Try.underlying29 rfl) <| gl_yes rfl rfl (op_rd rfl (rd_gtr rfl rfl) (gk_dec (fun h91 => ?_) (fun h91 => ?_)))
    · refine gl_yes rfl rfl <| op_rd rfl (rd_neqb Try.runUnderlying4 rfl rfl) <| gl_op <| op_rd rfl (rd_pick_f rfl rfl) <| gl_nil <| gx_then <| gc_cond_f rfl <| gc_skip <| gx_then <| gc_seq ?_
      rcases fits_case (shop := [9, 9, 9, 9, 9, 9]) (ats := ats) hch with ⟨s, rfl, hsl2, hsb, hsf, hsh, hfv⟩ | ⟨fb, fe, hfv⟩
      · refine gc_region <| gl_op <| op_rd rfl (rd_move rfl) <| gl_op <| op_rd rfl (rd_move rfl) <| gl_op <| op_rd rfl (rd_move rfl) ?_
        refine gl_op (op_call rfl (vf := []) (vc := []) rfl rfl Try.call18 (fun w1 ho => by
          have h9 := Fits_ok a c l hle (rowA (some b56)) 6 [9, 9, 9, 9, 9, 9] (by decide) q cq (castL s) hal w1 (hJ.at ho) (ho.rowSl 0 rfl) (hT.at ho)
          rw [hfv] at h9
          exact h9) ?_)
        rintro _ _ ⟨rfl, rfl⟩
        refine gl_op <| op_rd rfl (rd_move rfl) <| gl_op <| op_rd rfl (rd_extract rfl rfl) <| gl_op <| op_rd rfl (rd_extract rfl rfl) <| gl_op <| op_rd rfl (rd_extract rfl rfl) <| gl_op <| op_rd rfl (rd_assign rfl) <| gl_op <| op_rd rfl (rd_assign rfl) <| gl_op <| op_rd rfl (rd_assign rfl) <| gl_nil <| gx_then <| gc_seq <| gc_seq <| gc_region <| gl_op <| op_rd rfl (rd_assign rfl) <| gl_nil <| gx_then <| gc_block <| gc_loopF (ι := Nat) [(0, _), (1, _), (2, _), (7, _), (8, _), (9, _), (10, _), (15, _)] [_, _, _] (fun k => k ≤ l.length) (fun k Fr0 => ((17, natV k) :: Fr0)) (fun k Fr0 => Fr0) (fun k => l.length - k) 0 (Nat.zero_le _) ⟨rfl, rfl, rfl, rfl, rfl, rfl, rfl, rfl, rfl, trivial⟩ ⟨[0, 1, 2], by decide, rfl⟩ ?_
        rintro k hk
        refine gc_seq <| gc_seq <| gc_region <| gl_op <| op_rd rfl (rd_move rfl) <| gl_op <| op_rd rfl (rd_move rfl) <| gl_op <| op_rd rfl (rd_lenSlice Try.underlying22 rfl) <| gl_op (op_rd rfl (rd_lss rfl rfl) (gk_dec (fun h105 => ?_) (fun h105 => ?_)))
        · refine gl_op <| op_rd rfl (rd_move rfl) <| gl_yes rfl rfl <| op_rd rfl (rd_move rfl) <| gl_yes rfl rfl (op_rd rfl (rd_eql rfl rfl) (gk_dec (fun h108 => ?_) (fun h108 => ?_)))
          · refine gl_op <| op_rd rfl (rd_pick_t rfl rfl) <| gl_op <| op_rd rfl (rd_move rfl) <| gl_yes rfl rfl <| op_rd rfl (rd_move rfl) <| gl_op <| op_rd rfl (rd_pick_t rfl rfl) <| gl_nil <| gx_then <| gc_cond_t rfl <| gc_skip <| gx_then <| gc_seq <| gc_block <| gc_seq <| gc_drawP [0, 1, 2] true 15 rfl <| ga_first 0 (bm 16 1) rfl rfl rfl rfl (by kernel_rfl) (by kernel_rfl) ⟨[0, 1, 2], by decide, rfl⟩ (qt_rd (rd_move rfl)) ?_
            refine ga_first 1 (bm 16 3) rfl rfl rfl rfl (by kernel_rfl) (by kernel_rfl) ⟨[0, 1, 2], by decide, rfl⟩ (qt_rd (rd_lenSlice Try.underlying25 rfl)) ?_
            refine ga_first 2 (bm 16 7) rfl rfl rfl rfl (by kernel_rfl) (by kernel_rfl) ⟨[0, 1, 2], by decide, rfl⟩ (qt_rd (rd_move rfl)) ?_
            refine ga_first 3 (bm 16 15) rfl rfl rfl rfl (by kernel_rfl) (by kernel_rfl) ⟨[0, 1, 2], by decide, rfl⟩ (qt_rd (rd_lenSlice Try.underlying22 rfl)) ?_
            refine ga_first 4 (bm 16 31) rfl rfl rfl rfl (by kernel_rfl) (by kernel_rfl) ⟨[0, 1, 2], by decide, rfl⟩ (qt_rd (rd_neq rfl rfl)) (gk_dec (fun h119 => ?_) (fun h119 => ?_))
            · exact absurd (by rw [castL_len]; omega) h119
            refine ga_first 5 (bm 16 63) rfl rfl rfl rfl (by kernel_rfl) (by kernel_rfl) ⟨[0, 1, 2], by decide, rfl⟩ (qt_rd (rd_move rfl)) ?_
            refine ga_firstY 6 (bm 16 127) rfl rfl rfl rfl rfl rfl (by kernel_rfl) (by kernel_rfl) ⟨[0, 1, 2], by decide, rfl⟩ (qt_rd (rd_move rfl)) ?_
            refine ga_firstY 7 (bm 16 255) rfl rfl rfl rfl rfl rfl (by kernel_rfl) (by kernel_rfl) ⟨[0, 1, 2], by decide, rfl⟩ (qt_rd (rd_move rfl)) ?_
            refine ga_firstY 8 (bm 16 511) rfl rfl rfl rfl rfl rfl (by kernel_rfl) (by kernel_rfl) ⟨[0, 1, 2], by decide, rfl⟩ (qt_rd (rd_indexOld1 hT Try.underlying25 ty_2 rfl rfl (by omega) (by rw [castL_len]; omega))) ?_
            refine ga_firstY 9 (bm 16 1023) rfl rfl rfl rfl rfl rfl (by kernel_rfl) (by kernel_rfl) ⟨[0, 1, 2], by decide, rfl⟩ (qt_rd (rd_load Try.underlying2 rfl rfl (ld_slN hT (get_intL (castL_at (by omega)))))) ?_
            refine ga_firstY 10 (bm 16 2047) rfl rfl rfl rfl rfl rfl (by kernel_rfl) (by kernel_rfl) ⟨[0, 1, 2], by decide, rfl⟩ (qt_rd (rd_move rfl)) ?_
            refine ga_firstY 11 (bm 16 4095) rfl rfl rfl rfl rfl rfl (by kernel_rfl) (by kernel_rfl) ⟨[0, 1, 2], by decide, rfl⟩ (qt_rd (rd_move rfl)) ?_
            refine ga_firstY 12 (bm 16 8191) rfl rfl rfl rfl rfl rfl (by kernel_rfl) (by kernel_rfl) ⟨[0, 1, 2], by decide, rfl⟩ (qt_rd (rd_indexRow1 2 rfl Try.underlying25 ty_2 rfl rfl (by omega) (by rw [castL_len]; omega))) ?_
            refine ga_firstY 13 (bm 16 16383) rfl rfl rfl rfl rfl rfl (by kernel_rfl) (by kernel_rfl) ⟨[0, 1, 2], by decide, rfl⟩ (qt_rd (rd_load Try.underlying2 rfl rfl (ld_rowN 2 rfl (get_intL (castL_at (by omega)))))) ?_
            refine ga_firstY 14 (bm 16 32767) rfl rfl rfl rfl rfl rfl (by kernel_rfl) (by kernel_rfl) ⟨[0, 1, 2], by decide, rfl⟩ (qt_rd (rd_lss rfl rfl)) (gk_dec (fun h129 => ?_) (fun h129 => ?_))
            · have := early_law hch hsf (i := k) (by omega); omega
            refine ga_first 15 (bm 16 65535) rfl rfl rfl rfl (by kernel_rfl) (by kernel_rfl) ⟨[0, 1, 2], by decide, rfl⟩ (qt_rd (rd_pick_f rfl rfl)) ?_
            refine ga_end (by kernel_rfl) (.inr ⟨[0, 1, 2], by decide, rfl⟩) ?_
            refine gx_then <| gc_cond_f rfl <| gc_skip <| gx_block <| gx_then <| gc_region <| gl_op <| op_rd rfl (rd_move rfl) <| gl_op (op_rd rfl (by exact rd_addN (b := 1) rfl rfl (by omega)) ?_)
            refine gl_op <| op_rd rfl (rd_assign rfl) <| gl_nil <| gx_then ?_
            exact gx_cut (k + 1) ⟨by omega, by omega⟩ ⟨rfl, rfl, rfl, rfl, rfl, rfl, rfl, rfl, rfl, trivial⟩ ⟨[0, 1, 2], by decide, rfl⟩
          exact absurd rfl h108
        refine gl_op <| op_rd rfl (rd_move rfl) <| gl_no rfl rfl rfl <| gl_no rfl rfl rfl <| gl_op <| op_rd rfl (rd_pick_f rfl rfl) <| gl_op <| op_rd rfl (rd_move rfl) <| gl_no rfl rfl rfl <| gl_op <| op_rd rfl (rd_pick_f rfl rfl) <| gl_nil <| gx_then <| gc_cond_f rfl <| gc_exit <| gx_then_exit <| gx_then_exit <| gx_block_exit <| gx_then <| gc_seq <| gc_seq <| gc_region <| gl_op <| op_rd rfl (rd_move rfl) <| gl_op <| op_rd rfl (rd_lenSlice Try.underlying22 rfl) <| gl_op (op_rd rfl (rd_eql rfl rfl) (gk_dec (fun h133 => ?_) (fun h133 => ?_)))
        · refine gl_nil <| gx_then <| gc_cond_t rfl <| gc_seq <| gc_region <| gl_op (op_call rfl (vf := []) (vc := []) rfl rfl Try.call9 (fun w1 ho => shown_ok w1) ?_)
          rintro _ _ ⟨rfl, rfl⟩
          refine gl_op <| op_rd rfl (rd_assign rfl) <| gl_nil <| gx_then <| gc_ret <| gx_then_ret <| gx_ret1 (.inl rfl) Try.results7 rfl [] (by decide) ?_
          exact ⟨rfl, rfl⟩
        rw [← hnl]
        refine gl_nil <| gx_then <| gc_cond_f rfl <| gc_skip <| gx_then <| gc_seq <| gc_region <| gl_op <| op_rd rfl (rd_move rfl) <| gl_op (op_rd rfl (rd_conv Try.runUnderlying5 Try.runUnderlying3 rfl (wrap64_ok (by omega) (by omega))) ?_)
        refine gl_op <| op_rd rfl (rd_move rfl) <| gl_op <| op_rd rfl (rd_lenSlice Try.underlying22 rfl) ?_
        have hk9 := Nat.mod_lt kd (show 0 < (nOf l).length by omega)
        refine gl_op (op_rd rfl (by exact rd_remN rfl rfl (by omega)) ?_)
        refine gl_op <| op_rd rfl (rd_assign rfl) <| gl_nil <| gx_then <| gc_seq <| gc_region <| gl_op (op_buildSlice (sz := 1) rfl rfl (fun _ => bs_25_0_) rfl rfl (fun b140 => ?_))
        refine gl_op <| op_rd rfl (rd_move rfl) <| gl_op (op_appendMem 0 (fun w ho => ho.rowSl 3 rfl) Try.underlying25 ty_2 rfl (by decide) rfl rfl rfl rfl (fun u hu => (by obtain ⟨x, _, rfl⟩ := List.mem_map.1 hu; rfl)) (by rw [castL_len, earlC_len]; omega) (by rw [castL_len, earlC_len]; omega) (fun _ => (by rfl)) (fun r142 c142 => ?_))
        simp only [Nat.zero_add, List.nil_append]
        refine gl_op <| op_rd rfl (rd_assign rfl) <| gl_nil <| gx_then <| gc_seq ?_
        obtain ⟨k9, hk99⟩ : ∃ k9, kd % (nOf l).length = k9 := ⟨_, rfl⟩
        rw [hk99] at hk9 ⊢
        rw [cast_int (earlC (nOf l)), castL_len (earlC (nOf l)), hecl]
        have hk8 := earlC_bd hg k9
        refine gc_region <| gl_op <| op_rd rfl (rd_move rfl) <| gl_op <| op_rd rfl (rd_move rfl) <| gl_op (op_rd rfl (rd_indexRow1 0 rfl Try.underlying25 ty_2 rfl rfl (by omega) (by omega)) ?_)
        refine gl_op (op_rd rfl (rd_load Try.underlying2 rfl rfl (ld_rowN 0 rfl (get_natL (p := k9) (by omega)))) ?_)
        refine gl_op (op_rd rfl (by exact rd_addN (b := 1) rfl rfl (by omega)) ?_)
        refine gl_op (op_rd rfl (rd_indexRow1 0 rfl Try.underlying25 ty_2 rfl rfl (by omega) (by omega)) ?_)
        refine gl_op (op_storeRowE 0 ty_2 rfl rfl rfl rfl (by rw [List.length_map]; omega) (show (List.map natV (earlC (nOf l))).set k9 (natV ((earlC (nOf l)).getD k9 0 + 1)) = (lteR (nOf l) (lateB (earlC (nOf l)) k9) 0).map natV from set_natL _ k9 _) (by rfl) ?_)
        refine gl_nil <| gx_then <| gc_seq <| gc_seq <| gc_region <| gl_op <| op_rd rfl (rd_assign rfl) <| gl_nil <| gx_then <| gc_block <| gc_loopF (ι := Nat) [(0, _), (9, _), (10, _), (18, _), (19, _)] [_, _, _] (fun r => r ≤ (nOf l).length) (fun r Fr0 => ((20, natV r) :: Fr0)) (fun r Fr0 => (.row 2 1 r142 (nOf l).length c142 ((lteR (nOf l) (lateB (earlC (nOf l)) k9) r).map natV) :: Fr0)) (fun r => (nOf l).length - r) 0 (Nat.zero_le _) ⟨rfl, rfl, rfl, rfl, rfl, rfl, trivial⟩ ⟨[0, 1, 2, 3], by decide, rfl⟩ ?_
        rintro r hr9
        refine gc_seq <| gc_seq <| gc_region <| gl_op <| op_rd rfl (rd_move rfl) <| gl_op <| op_rd rfl (rd_move rfl) <| gl_op <| op_rd rfl (rd_lenSlice Try.underlying22 rfl) <| gl_op (op_rd rfl (rd_lss rfl rfl) (gk_dec (fun h152 => ?_) (fun h152 => ?_)))
        · refine gl_nil <| gx_then <| gc_cond_t rfl <| gc_skip <| gx_then <| gc_seq <| gc_block <| gc_seq <| gc_region <| gl_op <| op_rd rfl (rd_assign rfl) <| gl_nil <| gx_then <| gc_block <| gc_loopF (ι := Nat) [(0, _), (9, _), (10, _), (18, _), (19, _), (20, _)] [_, _, _] (fun i => i ≤ (nOf l).length) (fun i Fr0 => ((21, natV i) :: Fr0)) (fun i Fr0 => (.row 2 1 r142 (nOf l).length c142 ((lteC (nOf l) (lateB (earlC (nOf l)) k9) r i).map natV) :: Fr0)) (fun i => (nOf l).length - i) 0 (Nat.zero_le _) ⟨rfl, rfl, rfl, rfl, rfl, rfl, rfl, trivial⟩ ⟨[0, 1, 2, 3], by decide, rfl⟩ ?_
          rintro i hi9
          refine gc_seq <| gc_seq <| gc_region <| gl_op <| op_rd rfl (rd_move rfl) <| gl_op <| op_rd rfl (rd_move rfl) <| gl_op <| op_rd rfl (rd_lenSlice Try.underlying22 rfl) <| gl_op (op_rd rfl (rd_lss rfl rfl) (gk_dec (fun h158 => ?_) (fun h158 => ?_)))
          · obtain ⟨x, hx⟩ := get_some (show i < (nOf l).length by omega)
            have hxl := hj.lags x (List.mem_of_getElem? hx)
            have hcln := lteC_len (nOf l) (lateB (earlC (nOf l)) k9) r i
            rw [late_len] at hcln
            rw [← lteJ_zero (l := nOf l) (i := i) (show i < (lteC (nOf l) (lateB (earlC (nOf l)) k9) r i).length by omega)]
            refine gl_nil <| gx_then <| gc_cond_t rfl <| gc_skip <| gx_then <| gc_seq <| gc_block <| gc_seq <| gc_region <| gl_op <| op_rd rfl (rd_assign rfl) <| gl_nil <| gx_then <| gc_block <| gc_loopF (ι := Nat) [(0, _), (9, _), (10, _), (18, _), (19, _), (20, _), (21, _)] [_, _, _] (fun j => j ≤ x.after.length) (fun j Fr0 => ((22, natV j) :: Fr0)) (fun j Fr0 => (.row 2 1 r142 (nOf l).length c142 ((lteJ (nOf l) (lteC (nOf l) (lateB (earlC (nOf l)) k9) r i) i j).map natV) :: Fr0)) (fun j => x.after.length - j) 0 (Nat.zero_le _) ⟨rfl, rfl, rfl, rfl, rfl, rfl, rfl, rfl, trivial⟩ ⟨[0, 1, 2, 3], by decide, rfl⟩ ?_
            rintro j hj9
            refine gc_seq <| gc_seq <| gc_region <| gl_op <| op_rd rfl (rd_move rfl) <| gl_op <| op_rd rfl (rd_move rfl) <| gl_op <| op_rd rfl (rd_move rfl) <| gl_op (op_rd rfl (rd_indexOld hN.t Try.underlying22 ty_48 rfl rfl (by omega) (by omega)) ?_)
            refine gl_op <| op_rd rfl (rd_fieldAddr rfl (fa_48_3 _)) <| gl_op (op_rd rfl (rd_load Try.underlying46 rfl rfl (ld_slf hN.t (get_flat Jb.cells 4 (fun _ => rfl) hx (j := 3) (by decide) rfl))) ?_)
            refine gl_op <| op_rd rfl (rd_lenSlice Try.underlying46 rfl) <| gl_op (op_rd rfl (rd_lss rfl rfl) (gk_dec (fun h168 => ?_) (fun h168 => ?_)))
            · obtain ⟨y, hy⟩ := get_some (show j < x.after.length by omega)
              have hyl := lag_lt hj hx hy
              obtain ⟨z, hz⟩ := get_some (show y.1 < (nOf l).length by omega)
              have hzh := job_le hj hz
              have hjl := lteJ_len (nOf l) (lteC (nOf l) (lateB (earlC (nOf l)) k9) r i) i j
              have hcb := fun q => lteC_bd hj (show (nOf l).length ≤ 9 by omega) (late_bd hg k9) (show r ≤ 9 by omega) (show i ≤ 9 by omega) q
              have hj1 := lteJ_bd hj hcb i j i
              have hj2 := lteJ_bd hj hcb i j y.1
              refine gl_nil <| gx_then <| gc_cond_t rfl <| gc_skip <| gx_then <| gc_seq <| gc_block <| gc_seq <| gc_region <| gl_op <| op_rd rfl (rd_move rfl) <| gl_op <| op_rd rfl (rd_move rfl) <| gl_op (op_rd rfl (rd_indexOld hN.t Try.underlying22 ty_48 rfl rfl (by omega) (by omega)) ?_)
              refine gl_op <| op_rd rfl (rd_fieldAddr rfl (fa_48_3 _)) <| gl_op (op_rd rfl (rd_load Try.underlying46 rfl rfl (ld_slf hN.t (get_flat Jb.cells 4 (fun _ => rfl) hx (j := 3) (by decide) rfl))) ?_)
              refine gl_op <| op_rd rfl (rd_move rfl) <| gl_op (op_rd rfl (rd_indexOld (hN.r x (List.mem_of_getElem? hx)) Try.underlying46 ty_50 rfl rfl (by omega) (by omega)) ?_)
              refine gl_op (op_rd rfl (rd_loadAgg Try.underlying50 rfl ty_50 rfl (cs_slN (hN.r x (List.mem_of_getElem? hx)) (flat_drop_get lagN 2 (fun _ => rfl) hy)) rfl) ?_)
              refine gl_op (op_alloc ty_50 rfl rfl (fun b23 => ?_))
              refine gl_op (op_storeAgg 0 ty_50 rfl rfl rfl rfl rfl rfl (by rfl) ?_)
              refine gl_nil <| gx_then <| gc_drawP [0, 1, 2, 3, 4] false 23 rfl <| ga_first 0 (bm 24 1) rfl rfl rfl rfl (by kernel_rfl) (by kernel_rfl) ⟨[0, 1, 2, 3, 4], by decide, rfl⟩ (qt_rd (rd_move rfl)) ?_
              refine ga_first 1 (bm 24 3) rfl rfl rfl rfl (by kernel_rfl) (by kernel_rfl) ⟨[0, 1, 2, 3, 4], by decide, rfl⟩ (qt_rd (rd_move rfl)) ?_
              refine ga_first 2 (bm 24 7) rfl rfl rfl rfl (by kernel_rfl) (by kernel_rfl) ⟨[0, 1, 2, 3, 4], by decide, rfl⟩ (qt_rd (rd_move rfl)) ?_
              refine ga_first 3 (bm 24 15) rfl rfl rfl rfl (by kernel_rfl) (by kernel_rfl) ⟨[0, 1, 2, 3, 4], by decide, rfl⟩ (qt_rd (rd_move rfl)) ?_
              refine ga_first 4 (bm 24 31) rfl rfl rfl rfl (by kernel_rfl) (by kernel_rfl) ⟨[0, 1, 2, 3, 4], by decide, rfl⟩ (qt_rd (rd_indexRow1 1 rfl Try.underlying25 ty_2 rfl rfl (by omega) (by omega))) ?_
              refine ga_first 5 (bm 24 63) rfl rfl rfl rfl (by kernel_rfl) (by kernel_rfl) ⟨[0, 1, 2, 3, 4], by decide, rfl⟩ (qt_rd (rd_load Try.underlying2 rfl rfl (ld_row 1 rfl (get_natL (p := i) (by omega))))) ?_
              refine ga_first 6 (bm 24 127) rfl rfl rfl rfl (by kernel_rfl) (by kernel_rfl) ⟨[0, 1, 2, 3, 4], by decide, rfl⟩ (qt_rd (rd_move rfl)) ?_
              refine ga_first 7 (bm 24 255) rfl rfl rfl rfl (by kernel_rfl) (by kernel_rfl) ⟨[0, 1, 2, 3, 4], by decide, rfl⟩ (qt_rd (rd_fieldAddr rfl (fa_50_0 _))) ?_
              refine ga_first 8 (bm 24 511) rfl rfl rfl rfl (by kernel_rfl) (by kernel_rfl) ⟨[0, 1, 2, 3, 4], by decide, rfl⟩ (qt_rd (rd_load Try.underlying3 rfl rfl (by exact ld_blk 0 rfl rfl))) ?_
              refine ga_first 9 (bm 24 1023) rfl rfl rfl rfl (by kernel_rfl) (by kernel_rfl) ⟨[0, 1, 2, 3, 4], by decide, rfl⟩ (qt_rd (rd_indexRow1 1 rfl Try.underlying25 ty_2 rfl rfl (by omega) (by omega))) ?_
              refine ga_first 10 (bm 24 2047) rfl rfl rfl rfl (by kernel_rfl) (by kernel_rfl) ⟨[0, 1, 2, 3, 4], by decide, rfl⟩ (qt_rd (rd_load Try.underlying2 rfl rfl (ld_row 1 rfl (get_natL (p := y.1) (by omega))))) ?_
              refine ga_first 11 (bm 24 4095) rfl rfl rfl rfl (by kernel_rfl) (by kernel_rfl) ⟨[0, 1, 2, 3, 4], by decide, rfl⟩ (qt_rd (rd_move rfl)) ?_
              refine ga_first 12 (bm 24 8191) rfl rfl rfl rfl (by kernel_rfl) (by kernel_rfl) ⟨[0, 1, 2, 3, 4], by decide, rfl⟩ (qt_rd (rd_fieldAddr rfl (fa_50_0 _))) ?_
              refine ga_first 13 (bm 24 16383) rfl rfl rfl rfl (by kernel_rfl) (by kernel_rfl) ⟨[0, 1, 2, 3, 4], by decide, rfl⟩ (qt_rd (rd_load Try.underlying3 rfl rfl (by exact ld_blk 0 rfl rfl))) ?_
              refine ga_first 14 (bm 24 32767) rfl rfl rfl rfl (by kernel_rfl) (by kernel_rfl) ⟨[0, 1, 2, 3, 4], by decide, rfl⟩ (qt_rd (rd_indexOld hN.t Try.underlying22 ty_48 rfl rfl (by omega) (by omega))) ?_
              refine ga_first 15 (bm 24 65535) rfl rfl rfl rfl (by kernel_rfl) (by kernel_rfl) ⟨[0, 1, 2, 3, 4], by decide, rfl⟩ (qt_rd (rd_fieldAddr rfl (fa_48_2 _))) ?_
              refine ga_first 16 (bm 24 131071) rfl rfl rfl rfl (by kernel_rfl) (by kernel_rfl) ⟨[0, 1, 2, 3, 4], by decide, rfl⟩ (qt_rd (rd_load Try.underlying2 rfl rfl (ld_slf hN.t (get_flat Jb.cells 4 (fun _ => rfl) hz (j := 2) (by decide) rfl)))) ?_
              refine ga_first 17 (bm 24 262143) rfl rfl rfl rfl (by kernel_rfl) (by kernel_rfl) ⟨[0, 1, 2, 3, 4], by decide, rfl⟩ (qt_rd (by exact rd_addN rfl rfl (by omega))) ?_
              refine ga_first 18 (bm 24 524287) rfl rfl rfl rfl (by kernel_rfl) (by kernel_rfl) ⟨[0, 1, 2, 3, 4], by decide, rfl⟩ (qt_rd (rd_fieldAddr rfl (fa_50_1 _))) ?_
              refine ga_first 19 (bm 24 1048575) rfl rfl rfl rfl (by kernel_rfl) (by kernel_rfl) ⟨[0, 1, 2, 3, 4], by decide, rfl⟩ (qt_rd (rd_load Try.underlying2 rfl rfl (by exact ld_blk 0 rfl rfl))) ?_
              refine ga_first 20 (bm 24 2097151) rfl rfl rfl rfl (by kernel_rfl) (by kernel_rfl) ⟨[0, 1, 2, 3, 4], by decide, rfl⟩ (qt_rd (by exact rd_addN rfl rfl (by omega))) ?_
              refine ga_first 21 (bm 24 4194303) rfl rfl rfl rfl (by kernel_rfl) (by kernel_rfl) ⟨[0, 1, 2, 3, 4], by decide, rfl⟩ (qt_rd (rd_max2 rfl rfl)) ?_
              refine ga_first 22 (bm 24 8388607) rfl rfl rfl rfl (by kernel_rfl) (by kernel_rfl) ⟨[0, 1, 2, 3, 4], by decide, rfl⟩ (qt_rd (rd_indexRow1 1 rfl Try.underlying25 ty_2 rfl rfl (by omega) (by omega))) ?_
              refine ga_only 23 (bm 24 16777215) rfl rfl (by kernel_rfl) (by kernel_rfl) (.inr ⟨[0, 1, 2, 3, 4], by decide, rfl⟩) (op_storeRowE 1 ty_2 rfl rfl rfl rfl (by rw [List.length_map]; omega) (lteJ_st (by omega) hx hy hz hyl.2.1) (by rfl) ?_)
              refine ga_end (by kernel_rfl) (.inl (by kernel_rfl)) ?_
              refine gx_block <| gx_then <| gc_region <| gl_op <| op_rd rfl (rd_move rfl) <| gl_op (op_rd rfl (by exact rd_addN (b := 1) rfl rfl (by omega)) ?_)
              refine gl_op <| op_rd rfl (rd_assign rfl) <| gl_nil <| gx_then ?_
              exact gx_cut (j + 1) ⟨by omega, by omega⟩ ⟨rfl, rfl, rfl, rfl, rfl, rfl, rfl, rfl, trivial⟩ ⟨[1, 2, 3, 4], by decide, rfl⟩
            rw [lteJ_all hx (by omega), ← lteC_next]
            refine gl_nil <| gx_then <| gc_cond_f rfl <| gc_exit <| gx_then_exit <| gx_then_exit <| gx_block_exit <| gx_block <| gx_then <| gc_region <| gl_op <| op_rd rfl (rd_move rfl) <| gl_op (op_rd rfl (by exact rd_addN (b := 1) rfl rfl (by omega)) ?_)
            refine gl_op <| op_rd rfl (rd_assign rfl) <| gl_nil <| gx_then ?_
            exact gx_cut (i + 1) ⟨by omega, by omega⟩ ⟨rfl, rfl, rfl, rfl, rfl, rfl, rfl, trivial⟩ ⟨[0, 1, 2, 3], by decide, rfl⟩
          have hi8 : i = (nOf l).length := by omega
          rw [hi8, lteC_all]
          refine gl_nil <| gx_then <| gc_cond_f rfl <| gc_exit <| gx_then_exit <| gx_then_exit <| gx_block_exit <| gx_block <| gx_then <| gc_region <| gl_op <| op_rd rfl (rd_move rfl) <| gl_op (op_rd rfl (by exact rd_addN (b := 1) rfl rfl (by omega)) ?_)
          refine gl_op <| op_rd rfl (rd_assign rfl) <| gl_nil <| gx_then ?_
          exact gx_cut (r + 1) ⟨by omega, by omega⟩ ⟨rfl, rfl, rfl, rfl, rfl, rfl, trivial⟩ ⟨[0, 1, 2, 3], by decide, rfl⟩
        have hr8 : r = (nOf l).length := by omega
        rw [hr8, show lteR (nOf l) (lateB (earlC (nOf l)) k9) (nOf l).length = lateF (nOf l) (earlC (nOf l)) k9 from rfl]
        have hll : (lateF (nOf l) (earlC (nOf l)) k9).length = (nOf l).length := by unfold lateF; rw [lteR_len, late_len]
        have hlb : ∀ t ∈ lateF (nOf l) (earlC (nOf l)) k9, t ≤ 1000000 := late_all hg (by omega) k9
        refine gl_nil <| gx_then <| gc_cond_f rfl <| gc_exit <| gx_then_exit <| gx_then_exit <| gx_block_exit <| gx_then <| gc_seq ?_
        rw [castL_len (critC (nOf l)), cast_int (critC (nOf l))]
        refine gc_region <| gl_op <| op_rd rfl (rd_assign rfl) <| gl_nil <| gx_then <| gc_seq <| gc_seq <| gc_region <| gl_op <| op_rd rfl (rd_assign rfl) <| gl_nil <| gx_then <| gc_block <| gc_loopF (ι := Nat) [(0, _), (9, _), (10, _), (18, _), (19, _)] [_, _, _, _] (fun m => m ≤ (critC (nOf l)).length) (fun m Fr0 => ((24, .bool (anyK (critC (nOf l)) k9 m)) :: (25, natV m) :: Fr0)) (fun m Fr0 => Fr0) (fun m => (critC (nOf l)).length - m) 0 (Nat.zero_le _) ⟨rfl, rfl, rfl, rfl, rfl, rfl, rfl, trivial⟩ ⟨[0, 1, 2, 3], by decide, rfl⟩ ?_
        rintro m hm
        refine gc_seq <| gc_seq <| gc_region <| gl_op <| op_rd rfl (rd_move rfl) <| gl_op <| op_rd rfl (rd_move rfl) <| gl_op <| op_rd rfl (rd_lenSlice Try.underlying29 rfl) <| gl_op (op_rd rfl (rd_lss rfl rfl) (gk_dec (fun h205 => ?_) (fun h205 => ?_)))
        · obtain ⟨xm, hmx⟩ := get_some (show m < (critC (nOf l)).length by omega)
          refine gl_nil <| gx_then <| gc_cond_t rfl <| gc_skip <| gx_then <| gc_seq <| gc_block <| gc_region <| gl_op <| op_rd rfl (rd_move rfl) <| gl_op <| op_rd rfl (rd_move rfl) <| gk_bool (fun h209 => ?_) (fun h209 => ?_)
          · refine gl_no rfl rfl rfl <| gl_no rfl rfl rfl <| gl_no rfl rfl rfl <| gl_no rfl rfl rfl <| gl_no rfl rfl rfl <| gl_no rfl rfl rfl <| gl_op <| op_rd rfl (rd_pick_t rfl rfl) <| gl_op <| op_rd rfl (rd_assign rfl) <| gl_nil <| gx_block <| gx_then <| gc_region <| gl_op <| op_rd rfl (rd_move rfl) <| gl_op (op_rd rfl (by exact rd_addN (b := 1) rfl rfl (by omega)) ?_)
            refine gl_op <| op_rd rfl (rd_assign rfl) <| gl_nil <| gx_then ?_
            rw [show Value.bool true = .bool (anyK (critC (nOf l)) k9 (m + 1)) from congrArg Value.bool (anyK_yes h209).symm]
            exact gx_cut (m + 1) ⟨by omega, by omega⟩ ⟨rfl, rfl, rfl, rfl, rfl, rfl, rfl, trivial⟩ ⟨[0, 1, 2, 3], by decide, rfl⟩
          refine gl_yes rfl rfl <| op_rd rfl (rd_move rfl) <| gl_yes rfl rfl <| op_rd rfl (rd_move rfl) <| gl_yes rfl rfl (op_rd rfl (rd_indexRow1 2 rfl Try.underlying29 ty_3 rfl rfl (by omega) (by omega)) ?_)
          refine gl_yes rfl rfl <| op_rd rfl (rd_load Try.underlying3 rfl rfl (ld_rowN 2 rfl (get_nat hmx))) <| gl_yes rfl rfl <| op_rd rfl (rd_move rfl) <| gl_yes rfl rfl <| op_rd rfl (rd_eql rfl rfl) <| gl_op <| op_rd rfl (rd_pick_f rfl rfl) <| gl_op <| op_rd rfl (rd_assign rfl) <| gl_nil <| gx_block <| gx_then <| gc_region <| gl_op <| op_rd rfl (rd_move rfl) <| gl_op (op_rd rfl (by exact rd_addN (b := 1) rfl rfl (by omega)) ?_)
          refine gl_op <| op_rd rfl (rd_assign rfl) <| gl_nil <| gx_then ?_
          rw [show Value.bool (decide _) = .bool (anyK (critC (nOf l)) k9 (m + 1)) from congrArg Value.bool (by rw [anyK_next hmx h209, decide_eq_decide]; omega)]
          exact gx_cut (m + 1) ⟨by omega, by omega⟩ ⟨rfl, rfl, rfl, rfl, rfl, rfl, rfl, trivial⟩ ⟨[0, 1, 2, 3], by decide, rfl⟩
        have hm9 : m = (critC (nOf l)).length := by omega
        rw [hm9, anyK_all hg hk9]
        refine gl_nil <| gx_then <| gc_cond_f rfl <| gc_exit <| gx_then_exit <| gx_then_exit <| gx_block_exit <| gx_then <| gc_seq <| gc_region <| gl_op <| op_rd rfl (rd_move rfl) <| gl_op <| op_rd rfl (rd_move rfl) <| gl_op <| op_rd rfl (rd_move rfl) ?_
        refine gl_op (op_call rfl (vf := []) (vc := []) rfl rfl Try.call22 (fun w1 ho => by
          have h9 := rEnd_ok a c (nOf l) hg.ok (rowA r142) c142 (lateF (nOf l) (earlC (nOf l)) k9) hll hlb w1 (hN.at ho) (by rw [hll]; exact ho.rowSl 0 rfl)
          rw [hll] at h9
          exact h9) ?_)
        rintro _ _ ⟨rfl, rfl⟩
        refine gl_op <| op_rd rfl (rd_move rfl) <| gl_op <| op_rd rfl (rd_gtr rfl rfl) <| gl_op <| op_rd rfl (rd_eqlb Try.runUnderlying4 rfl rfl) ?_
        rw [beq_self_eq_true]
        refine gl_op <| op_rd rfl (rd_move rfl) <| gl_yes rfl rfl (op_call rfl (vf := []) (vc := []) rfl rfl Try.call9 (fun w1 ho => shown_ok w1) ?_)
        rintro _ _ ⟨rfl, rfl⟩
        refine gl_op <| op_rd rfl (rd_pick_t rfl rfl) <| gl_op <| op_rd rfl (rd_assign rfl) <| gl_nil <| gx_then <| gc_ret <| gx_ret1 (.inl rfl) Try.results7 rfl [] (by decide) ?_
        exact ⟨rfl, rfl⟩
      refine gc_region <| gl_op <| op_rd rfl (rd_move rfl) <| gl_op <| op_rd rfl (rd_move rfl) <| gl_op <| op_rd rfl (rd_move rfl) ?_
      refine gl_op (op_call rfl (vf := []) (vc := []) rfl rfl Try.call18 (fun w1 ho => by
        have h9 := Fits_ok a c l hle (rowA (some b56)) 6 [9, 9, 9, 9, 9, 9] (by decide) q cq ats hal w1 (hJ.at ho) (ho.rowSl 0 rfl) (hT.at ho)
        rw [hfv] at h9
        exact h9) ?_)
      rintro _ _ ⟨rfl, rfl⟩
      refine gl_op <| op_rd rfl (rd_move rfl) <| gl_op <| op_rd rfl (rd_extract rfl rfl) <| gl_op <| op_rd rfl (rd_extract rfl rfl) <| gl_op <| op_rd rfl (rd_extract rfl rfl) <| gl_op <| op_rd rfl (rd_assign rfl) <| gl_op <| op_rd rfl (rd_assign rfl) <| gl_op <| op_rd rfl (rd_assign rfl) <| gl_nil <| gx_then <| gc_seq <| gc_seq <| gc_region <| gl_op <| op_rd rfl (rd_assign rfl) <| gl_nil <| gx_then <| gc_block <| gc_loopF (ι := Nat) [(0, _), (1, _), (2, _), (7, _), (8, _), (9, _), (10, _), (15, _)] [_, _, _] (fun k => k ≤ l.length) (fun k Fr0 => ((17, natV k) :: Fr0)) (fun k Fr0 => Fr0) (fun k => l.length - k) 0 (Nat.zero_le _) ⟨rfl, rfl, rfl, rfl, rfl, rfl, rfl, rfl, rfl, trivial⟩ ⟨[0, 1, 2], by decide, rfl⟩ ?_
      rintro k hk
      refine gc_seq <| gc_seq <| gc_region <| gl_op <| op_rd rfl (rd_move rfl) <| gl_op <| op_rd rfl (rd_move rfl) <| gl_op <| op_rd rfl (rd_lenSlice Try.underlying22 rfl) <| gl_op (op_rd rfl (rd_lss rfl rfl) (gk_dec (fun h105 => ?_) (fun h105 => ?_)))
      · refine gl_op <| op_rd rfl (rd_move rfl) <| gl_yes rfl rfl <| op_rd rfl (rd_move rfl) <| gl_yes rfl rfl (op_rd rfl (rd_eql rfl rfl) (gk_dec (fun h108 => ?_) (fun h108 => ?_)))
        · refine gl_op <| op_rd rfl (rd_pick_t rfl rfl) <| gl_op <| op_rd rfl (rd_move rfl) <| gl_yes rfl rfl <| op_rd rfl (rd_move rfl) <| gl_op <| op_rd rfl (rd_pick_t rfl rfl) <| gl_nil <| gx_then <| gc_cond_f rfl <| gc_exit <| gx_then_exit <| gx_then_exit <| gx_block_exit <| gx_then <| gc_seq <| gc_seq <| gc_region <| gl_op <| op_rd rfl (rd_move rfl) <| gl_op <| op_rd rfl (rd_lenSlice Try.underlying22 rfl) <| gl_op (op_rd rfl (rd_eql rfl rfl) (gk_dec (fun h133 => ?_) (fun h133 => ?_)))
          · refine gl_nil <| gx_then <| gc_cond_t rfl <| gc_seq <| gc_region <| gl_op (op_call rfl (vf := []) (vc := []) rfl rfl Try.call9 (fun w1 ho => shown_ok w1) ?_)
            rintro _ _ ⟨rfl, rfl⟩
            refine gl_op <| op_rd rfl (rd_assign rfl) <| gl_nil <| gx_then <| gc_ret <| gx_then_ret <| gx_ret1 (.inl rfl) Try.results7 rfl [] (by decide) ?_
            exact ⟨rfl, rfl⟩
          rw [← hnl]
          refine gl_nil <| gx_then <| gc_cond_f rfl <| gc_skip <| gx_then <| gc_seq <| gc_region <| gl_op <| op_rd rfl (rd_move rfl) <| gl_op (op_rd rfl (rd_conv Try.runUnderlying5 Try.runUnderlying3 rfl (wrap64_ok (by omega) (by omega))) ?_)
          refine gl_op <| op_rd rfl (rd_move rfl) <| gl_op <| op_rd rfl (rd_lenSlice Try.underlying22 rfl) ?_
          have hk9 := Nat.mod_lt kd (show 0 < (nOf l).length by omega)
          refine gl_op (op_rd rfl (by exact rd_remN rfl rfl (by omega)) ?_)
          refine gl_op <| op_rd rfl (rd_assign rfl) <| gl_nil <| gx_then <| gc_seq <| gc_region <| gl_op (op_buildSlice (sz := 1) rfl rfl (fun _ => bs_25_0_) rfl rfl (fun b140 => ?_))
          refine gl_op <| op_rd rfl (rd_move rfl) <| gl_op (op_appendMem 0 (fun w ho => ho.rowSl 3 rfl) Try.underlying25 ty_2 rfl (by decide) rfl rfl rfl rfl (fun u hu => (by obtain ⟨x, _, rfl⟩ := List.mem_map.1 hu; rfl)) (by rw [castL_len, earlC_len]; omega) (by rw [castL_len, earlC_len]; omega) (fun _ => (by rfl)) (fun r142 c142 => ?_))
          simp only [Nat.zero_add, List.nil_append]
          refine gl_op <| op_rd rfl (rd_assign rfl) <| gl_nil <| gx_then <| gc_seq ?_
          obtain ⟨k9, hk99⟩ : ∃ k9, kd % (nOf l).length = k9 := ⟨_, rfl⟩
          rw [hk99] at hk9 ⊢
          rw [cast_int (earlC (nOf l)), castL_len (earlC (nOf l)), hecl]
          have hk8 := earlC_bd hg k9
          refine gc_region <| gl_op <| op_rd rfl (rd_move rfl) <| gl_op <| op_rd rfl (rd_move rfl) <| gl_op (op_rd rfl (rd_indexRow1 0 rfl Try.underlying25 ty_2 rfl rfl (by omega) (by omega)) ?_)
          refine gl_op (op_rd rfl (rd_load Try.underlying2 rfl rfl (ld_rowN 0 rfl (get_natL (p := k9) (by omega)))) ?_)
          refine gl_op (op_rd rfl (by exact rd_addN (b := 1) rfl rfl (by omega)) ?_)
          refine gl_op (op_rd rfl (rd_indexRow1 0 rfl Try.underlying25 ty_2 rfl rfl (by omega) (by omega)) ?_)
          refine gl_op (op_storeRowE 0 ty_2 rfl rfl rfl rfl (by rw [List.length_map]; omega) (show (List.map natV (earlC (nOf l))).set k9 (natV ((earlC (nOf l)).getD k9 0 + 1)) = (lteR (nOf l) (lateB (earlC (nOf l)) k9) 0).map natV from set_natL _ k9 _) (by rfl) ?_)
          refine gl_nil <| gx_then <| gc_seq <| gc_seq <| gc_region <| gl_op <| op_rd rfl (rd_assign rfl) <| gl_nil <| gx_then <| gc_block <| gc_loopF (ι := Nat) [(0, _), (9, _), (10, _), (18, _), (19, _)] [_, _, _] (fun r => r ≤ (nOf l).length) (fun r Fr0 => ((20, natV r) :: Fr0)) (fun r Fr0 => (.row 2 1 r142 (nOf l).length c142 ((lteR (nOf l) (lateB (earlC (nOf l)) k9) r).map natV) :: Fr0)) (fun r => (nOf l).length - r) 0 (Nat.zero_le _) ⟨rfl, rfl, rfl, rfl, rfl, rfl, trivial⟩ ⟨[0, 1, 2, 3], by decide, rfl⟩ ?_
          rintro r hr9
          refine gc_seq <| gc_seq <| gc_region <| gl_op <| op_rd rfl (rd_move rfl) <| gl_op <| op_rd rfl (rd_move rfl) <| gl_op <| op_rd rfl (rd_lenSlice Try.underlying22 rfl) <| gl_op (op_rd rfl (rd_lss rfl rfl) (gk_dec (fun h152 => ?_) (fun h152 => ?_)))
          · refine gl_nil <| gx_then <| gc_cond_t rfl <| gc_skip <| gx_then <| gc_seq <| gc_block <| gc_seq <| gc_region <| gl_op <| op_rd rfl (rd_assign rfl) <| gl_nil <| gx_then <| gc_block <| gc_loopF (ι := Nat) [(0, _), (9, _), (10, _), (18, _), (19, _), (20, _)] [_, _, _] (fun i => i ≤ (nOf l).length) (fun i Fr0 => ((21, natV i) :: Fr0)) (fun i Fr0 => (.row 2 1 r142 (nOf l).length c142 ((lteC (nOf l) (lateB (earlC (nOf l)) k9) r i).map natV) :: Fr0)) (fun i => (nOf l).length - i) 0 (Nat.zero_le _) ⟨rfl, rfl, rfl, rfl, rfl, rfl, rfl, trivial⟩ ⟨[0, 1, 2, 3], by decide, rfl⟩ ?_
            rintro i hi9
            refine gc_seq <| gc_seq <| gc_region <| gl_op <| op_rd rfl (rd_move rfl) <| gl_op <| op_rd rfl (rd_move rfl) <| gl_op <| op_rd rfl (rd_lenSlice Try.underlying22 rfl) <| gl_op (op_rd rfl (rd_lss rfl rfl) (gk_dec (fun h158 => ?_) (fun h158 => ?_)))
            · obtain ⟨x, hx⟩ := get_some (show i < (nOf l).length by omega)
              have hxl := hj.lags x (List.mem_of_getElem? hx)
              have hcln := lteC_len (nOf l) (lateB (earlC (nOf l)) k9) r i
              rw [late_len] at hcln
              rw [← lteJ_zero (l := nOf l) (i := i) (show i < (lteC (nOf l) (lateB (earlC (nOf l)) k9) r i).length by omega)]
              refine gl_nil <| gx_then <| gc_cond_t rfl <| gc_skip <| gx_then <| gc_seq <| gc_block <| gc_seq <| gc_region <| gl_op <| op_rd rfl (rd_assign rfl) <| gl_nil <| gx_then <| gc_block <| gc_loopF (ι := Nat) [(0, _), (9, _), (10, _), (18, _), (19, _), (20, _), (21, _)] [_, _, _] (fun j => j ≤ x.after.length) (fun j Fr0 => ((22, natV j) :: Fr0)) (fun j Fr0 => (.row 2 1 r142 (nOf l).length c142 ((lteJ (nOf l) (lteC (nOf l) (lateB (earlC (nOf l)) k9) r i) i j).map natV) :: Fr0)) (fun j => x.after.length - j) 0 (Nat.zero_le _) ⟨rfl, rfl, rfl, rfl, rfl, rfl, rfl, rfl, trivial⟩ ⟨[0, 1, 2, 3], by decide, rfl⟩ ?_
              rintro j hj9
              refine gc_seq <| gc_seq <| gc_region <| gl_op <| op_rd rfl (rd_move rfl) <| gl_op <| op_rd rfl (rd_move rfl) <| gl_op <| op_rd rfl (rd_move rfl) <| gl_op (op_rd rfl (rd_indexOld hN.t Try.underlying22 ty_48 rfl rfl (by omega) (by omega)) ?_)
              refine gl_op <| op_rd rfl (rd_fieldAddr rfl (fa_48_3 _)) <| gl_op (op_rd rfl (rd_load Try.underlying46 rfl rfl (ld_slf hN.t (get_flat Jb.cells 4 (fun _ => rfl) hx (j := 3) (by decide) rfl))) ?_)
              refine gl_op <| op_rd rfl (rd_lenSlice Try.underlying46 rfl) <| gl_op (op_rd rfl (rd_lss rfl rfl) (gk_dec (fun h168 => ?_) (fun h168 => ?_)))
              · obtain ⟨y, hy⟩ := get_some (show j < x.after.length by omega)
                have hyl := lag_lt hj hx hy
                obtain ⟨z, hz⟩ := get_some (show y.1 < (nOf l).length by omega)
                have hzh := job_le hj hz
                have hjl := lteJ_len (nOf l) (lteC (nOf l) (lateB (earlC (nOf l)) k9) r i) i j
                have hcb := fun q => lteC_bd hj (show (nOf l).length ≤ 9 by omega) (late_bd hg k9) (show r ≤ 9 by omega) (show i ≤ 9 by omega) q
                have hj1 := lteJ_bd hj hcb i j i
                have hj2 := lteJ_bd hj hcb i j y.1
                refine gl_nil <| gx_then <| gc_cond_t rfl <| gc_skip <| gx_then <| gc_seq <| gc_block <| gc_seq <| gc_region <| gl_op <| op_rd rfl (rd_move rfl) <| gl_op <| op_rd rfl (rd_move rfl) <| gl_op (op_rd rfl (rd_indexOld hN.t Try.underlying22 ty_48 rfl rfl (by omega) (by omega)) ?_)
                refine gl_op <| op_rd rfl (rd_fieldAddr rfl (fa_48_3 _)) <| gl_op (op_rd rfl (rd_load Try.underlying46 rfl rfl (ld_slf hN.t (get_flat Jb.cells 4 (fun _ => rfl) hx (j := 3) (by decide) rfl))) ?_)
                refine gl_op <| op_rd rfl (rd_move rfl) <| gl_op (op_rd rfl (rd_indexOld (hN.r x (List.mem_of_getElem? hx)) Try.underlying46 ty_50 rfl rfl (by omega) (by omega)) ?_)
                refine gl_op (op_rd rfl (rd_loadAgg Try.underlying50 rfl ty_50 rfl (cs_slN (hN.r x (List.mem_of_getElem? hx)) (flat_drop_get lagN 2 (fun _ => rfl) hy)) rfl) ?_)
                refine gl_op (op_alloc ty_50 rfl rfl (fun b23 => ?_))
                refine gl_op (op_storeAgg 0 ty_50 rfl rfl rfl rfl rfl rfl (by rfl) ?_)
                refine gl_nil <| gx_then <| gc_drawP [0, 1, 2, 3, 4] false 23 rfl <| ga_first 0 (bm 24 1) rfl rfl rfl rfl (by kernel_rfl) (by kernel_rfl) ⟨[0, 1, 2, 3, 4], by decide, rfl⟩ (qt_rd (rd_move rfl)) ?_
                refine ga_first 1 (bm 24 3) rfl rfl rfl rfl (by kernel_rfl) (by kernel_rfl) ⟨[0, 1, 2, 3, 4], by decide, rfl⟩ (qt_rd (rd_move rfl)) ?_
                refine ga_first 2 (bm 24 7) rfl rfl rfl rfl (by kernel_rfl) (by kernel_rfl) ⟨[0, 1, 2, 3, 4], by decide, rfl⟩ (qt_rd (rd_move rfl)) ?_
                refine ga_first 3 (bm 24 15) rfl rfl rfl rfl (by kernel_rfl) (by kernel_rfl) ⟨[0, 1, 2, 3, 4], by decide, rfl⟩ (qt_rd (rd_move rfl)) ?_
                refine ga_first 4 (bm 24 31) rfl rfl rfl rfl (by kernel_rfl) (by kernel_rfl) ⟨[0, 1, 2, 3, 4], by decide, rfl⟩ (qt_rd (rd_indexRow1 1 rfl Try.underlying25 ty_2 rfl rfl (by omega) (by omega))) ?_
                refine ga_first 5 (bm 24 63) rfl rfl rfl rfl (by kernel_rfl) (by kernel_rfl) ⟨[0, 1, 2, 3, 4], by decide, rfl⟩ (qt_rd (rd_load Try.underlying2 rfl rfl (ld_row 1 rfl (get_natL (p := i) (by omega))))) ?_
                refine ga_first 6 (bm 24 127) rfl rfl rfl rfl (by kernel_rfl) (by kernel_rfl) ⟨[0, 1, 2, 3, 4], by decide, rfl⟩ (qt_rd (rd_move rfl)) ?_
                refine ga_first 7 (bm 24 255) rfl rfl rfl rfl (by kernel_rfl) (by kernel_rfl) ⟨[0, 1, 2, 3, 4], by decide, rfl⟩ (qt_rd (rd_fieldAddr rfl (fa_50_0 _))) ?_
                refine ga_first 8 (bm 24 511) rfl rfl rfl rfl (by kernel_rfl) (by kernel_rfl) ⟨[0, 1, 2, 3, 4], by decide, rfl⟩ (qt_rd (rd_load Try.underlying3 rfl rfl (by exact ld_blk 0 rfl rfl))) ?_
                refine ga_first 9 (bm 24 1023) rfl rfl rfl rfl (by kernel_rfl) (by kernel_rfl) ⟨[0, 1, 2, 3, 4], by decide, rfl⟩ (qt_rd (rd_indexRow1 1 rfl Try.underlying25 ty_2 rfl rfl (by omega) (by omega))) ?_
                refine ga_first 10 (bm 24 2047) rfl rfl rfl rfl (by kernel_rfl) (by kernel_rfl) ⟨[0, 1, 2, 3, 4], by decide, rfl⟩ (qt_rd (rd_load Try.underlying2 rfl rfl (ld_row 1 rfl (get_natL (p := y.1) (by omega))))) ?_
                refine ga_first 11 (bm 24 4095) rfl rfl rfl rfl (by kernel_rfl) (by kernel_rfl) ⟨[0, 1, 2, 3, 4], by decide, rfl⟩ (qt_rd (rd_move rfl)) ?_
                refine ga_first 12 (bm 24 8191) rfl rfl rfl rfl (by kernel_rfl) (by kernel_rfl) ⟨[0, 1, 2, 3, 4], by decide, rfl⟩ (qt_rd (rd_fieldAddr rfl (fa_50_0 _))) ?_
                refine ga_first 13 (bm 24 16383) rfl rfl rfl rfl (by kernel_rfl) (by kernel_rfl) ⟨[0, 1, 2, 3, 4], by decide, rfl⟩ (qt_rd (rd_load Try.underlying3 rfl rfl (by exact ld_blk 0 rfl rfl))) ?_
                refine ga_first 14 (bm 24 32767) rfl rfl rfl rfl (by kernel_rfl) (by kernel_rfl) ⟨[0, 1, 2, 3, 4], by decide, rfl⟩ (qt_rd (rd_indexOld hN.t Try.underlying22 ty_48 rfl rfl (by omega) (by omega))) ?_
                refine ga_first 15 (bm 24 65535) rfl rfl rfl rfl (by kernel_rfl) (by kernel_rfl) ⟨[0, 1, 2, 3, 4], by decide, rfl⟩ (qt_rd (rd_fieldAddr rfl (fa_48_2 _))) ?_
                refine ga_first 16 (bm 24 131071) rfl rfl rfl rfl (by kernel_rfl) (by kernel_rfl) ⟨[0, 1, 2, 3, 4], by decide, rfl⟩ (qt_rd (rd_load Try.underlying2 rfl rfl (ld_slf hN.t (get_flat Jb.cells 4 (fun _ => rfl) hz (j := 2) (by decide) rfl)))) ?_
                refine ga_first 17 (bm 24 262143) rfl rfl rfl rfl (by kernel_rfl) (by kernel_rfl) ⟨[0, 1, 2, 3, 4], by decide, rfl⟩ (qt_rd (by exact rd_addN rfl rfl (by omega))) ?_
                refine ga_first 18 (bm 24 524287) rfl rfl rfl rfl (by kernel_rfl) (by kernel_rfl) ⟨[0, 1, 2, 3, 4], by decide, rfl⟩ (qt_rd (rd_fieldAddr rfl (fa_50_1 _))) ?_
                refine ga_first 19 (bm 24 1048575) rfl rfl rfl rfl (by kernel_rfl) (by kernel_rfl) ⟨[0, 1, 2, 3, 4], by decide, rfl⟩ (qt_rd (rd_load Try.underlying2 rfl rfl (by exact ld_blk 0 rfl rfl))) ?_
                refine ga_first 20 (bm 24 2097151) rfl rfl rfl rfl (by kernel_rfl) (by kernel_rfl) ⟨[0, 1, 2, 3, 4], by decide, rfl⟩ (qt_rd (by exact rd_addN rfl rfl (by omega))) ?_
                refine ga_first 21 (bm 24 4194303) rfl rfl rfl rfl (by kernel_rfl) (by kernel_rfl) ⟨[0, 1, 2, 3, 4], by decide, rfl⟩ (qt_rd (rd_max2 rfl rfl)) ?_
                refine ga_first 22 (bm 24 8388607) rfl rfl rfl rfl (by kernel_rfl) (by kernel_rfl) ⟨[0, 1, 2, 3, 4], by decide, rfl⟩ (qt_rd (rd_indexRow1 1 rfl Try.underlying25 ty_2 rfl rfl (by omega) (by omega))) ?_
                refine ga_only 23 (bm 24 16777215) rfl rfl (by kernel_rfl) (by kernel_rfl) (.inr ⟨[0, 1, 2, 3, 4], by decide, rfl⟩) (op_storeRowE 1 ty_2 rfl rfl rfl rfl (by rw [List.length_map]; omega) (lteJ_st (by omega) hx hy hz hyl.2.1) (by rfl) ?_)
                refine ga_end (by kernel_rfl) (.inl (by kernel_rfl)) ?_
                refine gx_block <| gx_then <| gc_region <| gl_op <| op_rd rfl (rd_move rfl) <| gl_op (op_rd rfl (by exact rd_addN (b := 1) rfl rfl (by omega)) ?_)
                refine gl_op <| op_rd rfl (rd_assign rfl) <| gl_nil <| gx_then ?_
                exact gx_cut (j + 1) ⟨by omega, by omega⟩ ⟨rfl, rfl, rfl, rfl, rfl, rfl, rfl, rfl, trivial⟩ ⟨[1, 2, 3, 4], by decide, rfl⟩
              rw [lteJ_all hx (by omega), ← lteC_next]
              refine gl_nil <| gx_then <| gc_cond_f rfl <| gc_exit <| gx_then_exit <| gx_then_exit <| gx_block_exit <| gx_block <| gx_then <| gc_region <| gl_op <| op_rd rfl (rd_move rfl) <| gl_op (op_rd rfl (by exact rd_addN (b := 1) rfl rfl (by omega)) ?_)
              refine gl_op <| op_rd rfl (rd_assign rfl) <| gl_nil <| gx_then ?_
              exact gx_cut (i + 1) ⟨by omega, by omega⟩ ⟨rfl, rfl, rfl, rfl, rfl, rfl, rfl, trivial⟩ ⟨[0, 1, 2, 3], by decide, rfl⟩
            have hi8 : i = (nOf l).length := by omega
            rw [hi8, lteC_all]
            refine gl_nil <| gx_then <| gc_cond_f rfl <| gc_exit <| gx_then_exit <| gx_then_exit <| gx_block_exit <| gx_block <| gx_then <| gc_region <| gl_op <| op_rd rfl (rd_move rfl) <| gl_op (op_rd rfl (by exact rd_addN (b := 1) rfl rfl (by omega)) ?_)
            refine gl_op <| op_rd rfl (rd_assign rfl) <| gl_nil <| gx_then ?_
            exact gx_cut (r + 1) ⟨by omega, by omega⟩ ⟨rfl, rfl, rfl, rfl, rfl, rfl, trivial⟩ ⟨[0, 1, 2, 3], by decide, rfl⟩
          have hr8 : r = (nOf l).length := by omega
          rw [hr8, show lteR (nOf l) (lateB (earlC (nOf l)) k9) (nOf l).length = lateF (nOf l) (earlC (nOf l)) k9 from rfl]
          have hll : (lateF (nOf l) (earlC (nOf l)) k9).length = (nOf l).length := by unfold lateF; rw [lteR_len, late_len]
          have hlb : ∀ t ∈ lateF (nOf l) (earlC (nOf l)) k9, t ≤ 1000000 := late_all hg (by omega) k9
          refine gl_nil <| gx_then <| gc_cond_f rfl <| gc_exit <| gx_then_exit <| gx_then_exit <| gx_block_exit <| gx_then <| gc_seq ?_
          rw [castL_len (critC (nOf l)), cast_int (critC (nOf l))]
          refine gc_region <| gl_op <| op_rd rfl (rd_assign rfl) <| gl_nil <| gx_then <| gc_seq <| gc_seq <| gc_region <| gl_op <| op_rd rfl (rd_assign rfl) <| gl_nil <| gx_then <| gc_block <| gc_loopF (ι := Nat) [(0, _), (9, _), (10, _), (18, _), (19, _)] [_, _, _, _] (fun m => m ≤ (critC (nOf l)).length) (fun m Fr0 => ((24, .bool (anyK (critC (nOf l)) k9 m)) :: (25, natV m) :: Fr0)) (fun m Fr0 => Fr0) (fun m => (critC (nOf l)).length - m) 0 (Nat.zero_le _) ⟨rfl, rfl, rfl, rfl, rfl, rfl, rfl, trivial⟩ ⟨[0, 1, 2, 3], by decide, rfl⟩ ?_
          rintro m hm
          refine gc_seq <| gc_seq <| gc_region <| gl_op <| op_rd rfl (rd_move rfl) <| gl_op <| op_rd rfl (rd_move rfl) <| gl_op <| op_rd rfl (rd_lenSlice Try.underlying29 rfl) <| gl_op (op_rd rfl (rd_lss rfl rfl) (gk_dec (fun h205 => ?_) (fun h205 => ?_)))
          · obtain ⟨xm, hmx⟩ := get_some (show m < (critC (nOf l)).length by omega)
            refine gl_nil <| gx_then <| gc_cond_t rfl <| gc_skip <| gx_then <| gc_seq <| gc_block <| gc_region <| gl_op <| op_rd rfl (rd_move rfl) <| gl_op <| op_rd rfl (rd_move rfl) <| gk_bool (fun h209 => ?_) (fun h209 => ?_)
            · refine gl_no rfl rfl rfl <| gl_no rfl rfl rfl <| gl_no rfl rfl rfl <| gl_no rfl rfl rfl <| gl_no rfl rfl rfl <| gl_no rfl rfl rfl <| gl_op <| op_rd rfl (rd_pick_t rfl rfl) <| gl_op <| op_rd rfl (rd_assign rfl) <| gl_nil <| gx_block <| gx_then <| gc_region <| gl_op <| op_rd rfl (rd_move rfl) <| gl_op (op_rd rfl (by exact rd_addN (b := 1) rfl rfl (by omega)) ?_)
              refine gl_op <| op_rd rfl (rd_assign rfl) <| gl_nil <| gx_then ?_
              rw [show Value.bool true = .bool (anyK (critC (nOf l)) k9 (m + 1)) from congrArg Value.bool (anyK_yes h209).symm]
              exact gx_cut (m + 1) ⟨by omega, by omega⟩ ⟨rfl, rfl, rfl, rfl, rfl, rfl, rfl, trivial⟩ ⟨[0, 1, 2, 3], by decide, rfl⟩
            refine gl_yes rfl rfl <| op_rd rfl (rd_move rfl) <| gl_yes rfl rfl <| op_rd rfl (rd_move rfl) <| gl_yes rfl rfl (op_rd rfl (rd_indexRow1 2 rfl Try.underlying29 ty_3 rfl rfl (by omega) (by omega)) ?_)
            refine gl_yes rfl rfl <| op_rd rfl (rd_load Try.underlying3 rfl rfl (ld_rowN 2 rfl (get_nat hmx))) <| gl_yes rfl rfl <| op_rd rfl (rd_move rfl) <| gl_yes rfl rfl <| op_rd rfl (rd_eql rfl rfl) <| gl_op <| op_rd rfl (rd_pick_f rfl rfl) <| gl_op <| op_rd rfl (rd_assign rfl) <| gl_nil <| gx_block <| gx_then <| gc_region <| gl_op <| op_rd rfl (rd_move rfl) <| gl_op (op_rd rfl (by exact rd_addN (b := 1) rfl rfl (by omega)) ?_)
            refine gl_op <| op_rd rfl (rd_assign rfl) <| gl_nil <| gx_then ?_
            rw [show Value.bool (decide _) = .bool (anyK (critC (nOf l)) k9 (m + 1)) from congrArg Value.bool (by rw [anyK_next hmx h209, decide_eq_decide]; omega)]
            exact gx_cut (m + 1) ⟨by omega, by omega⟩ ⟨rfl, rfl, rfl, rfl, rfl, rfl, rfl, trivial⟩ ⟨[0, 1, 2, 3], by decide, rfl⟩
          have hm9 : m = (critC (nOf l)).length := by omega
          rw [hm9, anyK_all hg hk9]
          refine gl_nil <| gx_then <| gc_cond_f rfl <| gc_exit <| gx_then_exit <| gx_then_exit <| gx_block_exit <| gx_then <| gc_seq <| gc_region <| gl_op <| op_rd rfl (rd_move rfl) <| gl_op <| op_rd rfl (rd_move rfl) <| gl_op <| op_rd rfl (rd_move rfl) ?_
          refine gl_op (op_call rfl (vf := []) (vc := []) rfl rfl Try.call22 (fun w1 ho => by
            have h9 := rEnd_ok a c (nOf l) hg.ok (rowA r142) c142 (lateF (nOf l) (earlC (nOf l)) k9) hll hlb w1 (hN.at ho) (by rw [hll]; exact ho.rowSl 0 rfl)
            rw [hll] at h9
            exact h9) ?_)
          rintro _ _ ⟨rfl, rfl⟩
          refine gl_op <| op_rd rfl (rd_move rfl) <| gl_op <| op_rd rfl (rd_gtr rfl rfl) <| gl_op <| op_rd rfl (rd_eqlb Try.runUnderlying4 rfl rfl) ?_
          rw [beq_self_eq_true]
          refine gl_op <| op_rd rfl (rd_move rfl) <| gl_yes rfl rfl (op_call rfl (vf := []) (vc := []) rfl rfl Try.call9 (fun w1 ho => shown_ok w1) ?_)
          rintro _ _ ⟨rfl, rfl⟩
          refine gl_op <| op_rd rfl (rd_pick_t rfl rfl) <| gl_op <| op_rd rfl (rd_assign rfl) <| gl_nil <| gx_then <| gc_ret <| gx_ret1 (.inl rfl) Try.results7 rfl [] (by decide) ?_
          exact ⟨rfl, rfl⟩
        refine gl_op <| op_rd rfl (rd_pick_t rfl rfl) <| gl_op <| op_rd rfl (rd_move rfl) <| gl_no rfl rfl rfl <| gl_op <| op_rd rfl (rd_pick_f rfl rfl) <| gl_nil <| gx_then <| gc_cond_f rfl <| gc_exit <| gx_then_exit <| gx_then_exit <| gx_block_exit <| gx_then <| gc_seq <| gc_seq <| gc_region <| gl_op <| op_rd rfl (rd_move rfl) <| gl_op <| op_rd rfl (rd_lenSlice Try.underlying22 rfl) <| gl_op (op_rd rfl (rd_eql rfl rfl) (gk_dec (fun h133 => ?_) (fun h133 => ?_)))
        · refine gl_nil <| gx_then <| gc_cond_t rfl <| gc_seq <| gc_region <| gl_op (op_call rfl (vf := []) (vc := []) rfl rfl Try.call9 (fun w1 ho => shown_ok w1) ?_)
          rintro _ _ ⟨rfl, rfl⟩
          refine gl_op <| op_rd rfl (rd_assign rfl) <| gl_nil <| gx_then <| gc_ret <| gx_then_ret <| gx_ret1 (.inl rfl) Try.results7 rfl [] (by decide) ?_
          exact ⟨rfl, rfl⟩
        rw [← hnl]
        refine gl_nil <| gx_then <| gc_cond_f rfl <| gc_skip <| gx_then <| gc_seq <| gc_region <| gl_op <| op_rd rfl (rd_move rfl) <| gl_op (op_rd rfl (rd_conv Try.runUnderlying5 Try.runUnderlying3 rfl (wrap64_ok (by omega) (by omega))) ?_)
        refine gl_op <| op_rd rfl (rd_move rfl) <| gl_op <| op_rd rfl (rd_lenSlice Try.underlying22 rfl) ?_
        have hk9 := Nat.mod_lt kd (show 0 < (nOf l).length by omega)
        refine gl_op (op_rd rfl (by exact rd_remN rfl rfl (by omega)) ?_)
        refine gl_op <| op_rd rfl (rd_assign rfl) <| gl_nil <| gx_then <| gc_seq <| gc_region <| gl_op (op_buildSlice (sz := 1) rfl rfl (fun _ => bs_25_0_) rfl rfl (fun b140 => ?_))
        refine gl_op <| op_rd rfl (rd_move rfl) <| gl_op (op_appendMem 0 (fun w ho => ho.rowSl 3 rfl) Try.underlying25 ty_2 rfl (by decide) rfl rfl rfl rfl (fun u hu => (by obtain ⟨x, _, rfl⟩ := List.mem_map.1 hu; rfl)) (by rw [castL_len, earlC_len]; omega) (by rw [castL_len, earlC_len]; omega) (fun _ => (by rfl)) (fun r142 c142 => ?_))
        simp only [Nat.zero_add, List.nil_append]
        refine gl_op <| op_rd rfl (rd_assign rfl) <| gl_nil <| gx_then <| gc_seq ?_
        obtain ⟨k9, hk99⟩ : ∃ k9, kd % (nOf l).length = k9 := ⟨_, rfl⟩
        rw [hk99] at hk9 ⊢
        rw [cast_int (earlC (nOf l)), castL_len (earlC (nOf l)), hecl]
        have hk8 := earlC_bd hg k9
        refine gc_region <| gl_op <| op_rd rfl (rd_move rfl) <| gl_op <| op_rd rfl (rd_move rfl) <| gl_op (op_rd rfl (rd_indexRow1 0 rfl Try.underlying25 ty_2 rfl rfl (by omega) (by omega)) ?_)
        refine gl_op (op_rd rfl (rd_load Try.underlying2 rfl rfl (ld_rowN 0 rfl (get_natL (p := k9) (by omega)))) ?_)
        refine gl_op (op_rd rfl (by exact rd_addN (b := 1) rfl rfl (by omega)) ?_)
        refine gl_op (op_rd rfl (rd_indexRow1 0 rfl Try.underlying25 ty_2 rfl rfl (by omega) (by omega)) ?_)
        refine gl_op (op_storeRowE 0 ty_2 rfl rfl rfl rfl (by rw [List.length_map]; omega) (show (List.map natV (earlC (nOf l))).set k9 (natV ((earlC (nOf l)).getD k9 0 + 1)) = (lteR (nOf l) (lateB (earlC (nOf l)) k9) 0).map natV from set_natL _ k9 _) (by rfl) ?_)
        refine gl_nil <| gx_then <| gc_seq <| gc_seq <| gc_region <| gl_op <| op_rd rfl (rd_assign rfl) <| gl_nil <| gx_then <| gc_block <| gc_loopF (ι := Nat) [(0, _), (9, _), (10, _), (18, _), (19, _)] [_, _, _] (fun r => r ≤ (nOf l).length) (fun r Fr0 => ((20, natV r) :: Fr0)) (fun r Fr0 => (.row 2 1 r142 (nOf l).length c142 ((lteR (nOf l) (lateB (earlC (nOf l)) k9) r).map natV) :: Fr0)) (fun r => (nOf l).length - r) 0 (Nat.zero_le _) ⟨rfl, rfl, rfl, rfl, rfl, rfl, trivial⟩ ⟨[0, 1, 2, 3], by decide, rfl⟩ ?_
        rintro r hr9
        refine gc_seq <| gc_seq <| gc_region <| gl_op <| op_rd rfl (rd_move rfl) <| gl_op <| op_rd rfl (rd_move rfl) <| gl_op <| op_rd rfl (rd_lenSlice Try.underlying22 rfl) <| gl_op (op_rd rfl (rd_lss rfl rfl) (gk_dec (fun h152 => ?_) (fun h152 => ?_)))
        · refine gl_nil <| gx_then <| gc_cond_t rfl <| gc_skip <| gx_then <| gc_seq <| gc_block <| gc_seq <| gc_region <| gl_op <| op_rd rfl (rd_assign rfl) <| gl_nil <| gx_then <| gc_block <| gc_loopF (ι := Nat) [(0, _), (9, _), (10, _), (18, _), (19, _), (20, _)] [_, _, _] (fun i => i ≤ (nOf l).length) (fun i Fr0 => ((21, natV i) :: Fr0)) (fun i Fr0 => (.row 2 1 r142 (nOf l).length c142 ((lteC (nOf l) (lateB (earlC (nOf l)) k9) r i).map natV) :: Fr0)) (fun i => (nOf l).length - i) 0 (Nat.zero_le _) ⟨rfl, rfl, rfl, rfl, rfl, rfl, rfl, trivial⟩ ⟨[0, 1, 2, 3], by decide, rfl⟩ ?_
          rintro i hi9
          refine gc_seq <| gc_seq <| gc_region <| gl_op <| op_rd rfl (rd_move rfl) <| gl_op <| op_rd rfl (rd_move rfl) <| gl_op <| op_rd rfl (rd_lenSlice Try.underlying22 rfl) <| gl_op (op_rd rfl (rd_lss rfl rfl) (gk_dec (fun h158 => ?_) (fun h158 => ?_)))
          · obtain ⟨x, hx⟩ := get_some (show i < (nOf l).length by omega)
            have hxl := hj.lags x (List.mem_of_getElem? hx)
            have hcln := lteC_len (nOf l) (lateB (earlC (nOf l)) k9) r i
            rw [late_len] at hcln
            rw [← lteJ_zero (l := nOf l) (i := i) (show i < (lteC (nOf l) (lateB (earlC (nOf l)) k9) r i).length by omega)]
            refine gl_nil <| gx_then <| gc_cond_t rfl <| gc_skip <| gx_then <| gc_seq <| gc_block <| gc_seq <| gc_region <| gl_op <| op_rd rfl (rd_assign rfl) <| gl_nil <| gx_then <| gc_block <| gc_loopF (ι := Nat) [(0, _), (9, _), (10, _), (18, _), (19, _), (20, _), (21, _)] [_, _, _] (fun j => j ≤ x.after.length) (fun j Fr0 => ((22, natV j) :: Fr0)) (fun j Fr0 => (.row 2 1 r142 (nOf l).length c142 ((lteJ (nOf l) (lteC (nOf l) (lateB (earlC (nOf l)) k9) r i) i j).map natV) :: Fr0)) (fun j => x.after.length - j) 0 (Nat.zero_le _) ⟨rfl, rfl, rfl, rfl, rfl, rfl, rfl, rfl, trivial⟩ ⟨[0, 1, 2, 3], by decide, rfl⟩ ?_
            rintro j hj9
            refine gc_seq <| gc_seq <| gc_region <| gl_op <| op_rd rfl (rd_move rfl) <| gl_op <| op_rd rfl (rd_move rfl) <| gl_op <| op_rd rfl (rd_move rfl) <| gl_op (op_rd rfl (rd_indexOld hN.t Try.underlying22 ty_48 rfl rfl (by omega) (by omega)) ?_)
            refine gl_op <| op_rd rfl (rd_fieldAddr rfl (fa_48_3 _)) <| gl_op (op_rd rfl (rd_load Try.underlying46 rfl rfl (ld_slf hN.t (get_flat Jb.cells 4 (fun _ => rfl) hx (j := 3) (by decide) rfl))) ?_)
            refine gl_op <| op_rd rfl (rd_lenSlice Try.underlying46 rfl) <| gl_op (op_rd rfl (rd_lss rfl rfl) (gk_dec (fun h168 => ?_) (fun h168 => ?_)))
            · obtain ⟨y, hy⟩ := get_some (show j < x.after.length by omega)
              have hyl := lag_lt hj hx hy
              obtain ⟨z, hz⟩ := get_some (show y.1 < (nOf l).length by omega)
              have hzh := job_le hj hz
              have hjl := lteJ_len (nOf l) (lteC (nOf l) (lateB (earlC (nOf l)) k9) r i) i j
              have hcb := fun q => lteC_bd hj (show (nOf l).length ≤ 9 by omega) (late_bd hg k9) (show r ≤ 9 by omega) (show i ≤ 9 by omega) q
              have hj1 := lteJ_bd hj hcb i j i
              have hj2 := lteJ_bd hj hcb i j y.1
              refine gl_nil <| gx_then <| gc_cond_t rfl <| gc_skip <| gx_then <| gc_seq <| gc_block <| gc_seq <| gc_region <| gl_op <| op_rd rfl (rd_move rfl) <| gl_op <| op_rd rfl (rd_move rfl) <| gl_op (op_rd rfl (rd_indexOld hN.t Try.underlying22 ty_48 rfl rfl (by omega) (by omega)) ?_)
              refine gl_op <| op_rd rfl (rd_fieldAddr rfl (fa_48_3 _)) <| gl_op (op_rd rfl (rd_load Try.underlying46 rfl rfl (ld_slf hN.t (get_flat Jb.cells 4 (fun _ => rfl) hx (j := 3) (by decide) rfl))) ?_)
              refine gl_op <| op_rd rfl (rd_move rfl) <| gl_op (op_rd rfl (rd_indexOld (hN.r x (List.mem_of_getElem? hx)) Try.underlying46 ty_50 rfl rfl (by omega) (by omega)) ?_)
              refine gl_op (op_rd rfl (rd_loadAgg Try.underlying50 rfl ty_50 rfl (cs_slN (hN.r x (List.mem_of_getElem? hx)) (flat_drop_get lagN 2 (fun _ => rfl) hy)) rfl) ?_)
              refine gl_op (op_alloc ty_50 rfl rfl (fun b23 => ?_))
              refine gl_op (op_storeAgg 0 ty_50 rfl rfl rfl rfl rfl rfl (by rfl) ?_)
              refine gl_nil <| gx_then <| gc_drawP [0, 1, 2, 3, 4] false 23 rfl <| ga_first 0 (bm 24 1) rfl rfl rfl rfl (by kernel_rfl) (by kernel_rfl) ⟨[0, 1, 2, 3, 4], by decide, rfl⟩ (qt_rd (rd_move rfl)) ?_
              refine ga_first 1 (bm 24 3) rfl rfl rfl rfl (by kernel_rfl) (by kernel_rfl) ⟨[0, 1, 2, 3, 4], by decide, rfl⟩ (qt_rd (rd_move rfl)) ?_
              refine ga_first 2 (bm 24 7) rfl rfl rfl rfl (by kernel_rfl) (by kernel_rfl) ⟨[0, 1, 2, 3, 4], by decide, rfl⟩ (qt_rd (rd_move rfl)) ?_
              refine ga_first 3 (bm 24 15) rfl rfl rfl rfl (by kernel_rfl) (by kernel_rfl) ⟨[0, 1, 2, 3, 4], by decide, rfl⟩ (qt_rd (rd_move rfl)) ?_
              refine ga_first 4 (bm 24 31) rfl rfl rfl rfl (by kernel_rfl) (by kernel_rfl) ⟨[0, 1, 2, 3, 4], by decide, rfl⟩ (qt_rd (rd_indexRow1 1 rfl Try.underlying25 ty_2 rfl rfl (by omega) (by omega))) ?_
              refine ga_first 5 (bm 24 63) rfl rfl rfl rfl (by kernel_rfl) (by kernel_rfl) ⟨[0, 1, 2, 3, 4], by decide, rfl⟩ (qt_rd (rd_load Try.underlying2 rfl rfl (ld_row 1 rfl (get_natL (p := i) (by omega))))) ?_
              refine ga_first 6 (bm 24 127) rfl rfl rfl rfl (by kernel_rfl) (by kernel_rfl) ⟨[0, 1, 2, 3, 4], by decide, rfl⟩ (qt_rd (rd_move rfl)) ?_
              refine ga_first 7 (bm 24 255) rfl rfl rfl rfl (by kernel_rfl) (by kernel_rfl) ⟨[0, 1, 2, 3, 4], by decide, rfl⟩ (qt_rd (rd_fieldAddr rfl (fa_50_0 _))) ?_
              refine ga_first 8 (bm 24 511) rfl rfl rfl rfl (by kernel_rfl) (by kernel_rfl) ⟨[0, 1, 2, 3, 4], by decide, rfl⟩ (qt_rd (rd_load Try.underlying3 rfl rfl (by exact ld_blk 0 rfl rfl))) ?_
              refine ga_first 9 (bm 24 1023) rfl rfl rfl rfl (by kernel_rfl) (by kernel_rfl) ⟨[0, 1, 2, 3, 4], by decide, rfl⟩ (qt_rd (rd_indexRow1 1 rfl Try.underlying25 ty_2 rfl rfl (by omega) (by omega))) ?_
              refine ga_first 10 (bm 24 2047) rfl rfl rfl rfl (by kernel_rfl) (by kernel_rfl) ⟨[0, 1, 2, 3, 4], by decide, rfl⟩ (qt_rd (rd_load Try.underlying2 rfl rfl (ld_row 1 rfl (get_natL (p := y.1) (by omega))))) ?_
              refine ga_first 11 (bm 24 4095) rfl rfl rfl rfl (by kernel_rfl) (by kernel_rfl) ⟨[0, 1, 2, 3, 4], by decide, rfl⟩ (qt_rd (rd_move rfl)) ?_
              refine ga_first 12 (bm 24 8191) rfl rfl rfl rfl (by kernel_rfl) (by kernel_rfl) ⟨[0, 1, 2, 3, 4], by decide, rfl⟩ (qt_rd (rd_fieldAddr rfl (fa_50_0 _))) ?_
              refine ga_first 13 (bm 24 16383) rfl rfl rfl rfl (by kernel_rfl) (by kernel_rfl) ⟨[0, 1, 2, 3, 4], by decide, rfl⟩ (qt_rd (rd_load Try.underlying3 rfl rfl (by exact ld_blk 0 rfl rfl))) ?_
              refine ga_first 14 (bm 24 32767) rfl rfl rfl rfl (by kernel_rfl) (by kernel_rfl) ⟨[0, 1, 2, 3, 4], by decide, rfl⟩ (qt_rd (rd_indexOld hN.t Try.underlying22 ty_48 rfl rfl (by omega) (by omega))) ?_
              refine ga_first 15 (bm 24 65535) rfl rfl rfl rfl (by kernel_rfl) (by kernel_rfl) ⟨[0, 1, 2, 3, 4], by decide, rfl⟩ (qt_rd (rd_fieldAddr rfl (fa_48_2 _))) ?_
              refine ga_first 16 (bm 24 131071) rfl rfl rfl rfl (by kernel_rfl) (by kernel_rfl) ⟨[0, 1, 2, 3, 4], by decide, rfl⟩ (qt_rd (rd_load Try.underlying2 rfl rfl (ld_slf hN.t (get_flat Jb.cells 4 (fun _ => rfl) hz (j := 2) (by decide) rfl)))) ?_
              refine ga_first 17 (bm 24 262143) rfl rfl rfl rfl (by kernel_rfl) (by kernel_rfl) ⟨[0, 1, 2, 3, 4], by decide, rfl⟩ (qt_rd (by exact rd_addN rfl rfl (by omega))) ?_
              refine ga_first 18 (bm 24 524287) rfl rfl rfl rfl (by kernel_rfl) (by kernel_rfl) ⟨[0, 1, 2, 3, 4], by decide, rfl⟩ (qt_rd (rd_fieldAddr rfl (fa_50_1 _))) ?_
              refine ga_first 19 (bm 24 1048575) rfl rfl rfl rfl (by kernel_rfl) (by kernel_rfl) ⟨[0, 1, 2, 3, 4], by decide, rfl⟩ (qt_rd (rd_load Try.underlying2 rfl rfl (by exact ld_blk 0 rfl rfl))) ?_
              refine ga_first 20 (bm 24 2097151) rfl rfl rfl rfl (by kernel_rfl) (by kernel_rfl) ⟨[0, 1, 2, 3, 4], by decide, rfl⟩ (qt_rd (by exact rd_addN rfl rfl (by omega))) ?_
              refine ga_first 21 (bm 24 4194303) rfl rfl rfl rfl (by kernel_rfl) (by kernel_rfl) ⟨[0, 1, 2, 3, 4], by decide, rfl⟩ (qt_rd (rd_max2 rfl rfl)) ?_
              refine ga_first 22 (bm 24 8388607) rfl rfl rfl rfl (by kernel_rfl) (by kernel_rfl) ⟨[0, 1, 2, 3, 4], by decide, rfl⟩ (qt_rd (rd_indexRow1 1 rfl Try.underlying25 ty_2 rfl rfl (by omega) (by omega))) ?_
              refine ga_only 23 (bm 24 16777215) rfl rfl (by kernel_rfl) (by kernel_rfl) (.inr ⟨[0, 1, 2, 3, 4], by decide, rfl⟩) (op_storeRowE 1 ty_2 rfl rfl rfl rfl (by rw [List.length_map]; omega) (lteJ_st (by omega) hx hy hz hyl.2.1) (by rfl) ?_)
              refine ga_end (by kernel_rfl) (.inl (by kernel_rfl)) ?_
              refine gx_block <| gx_then <| gc_region <| gl_op <| op_rd rfl (rd_move rfl) <| gl_op (op_rd rfl (by exact rd_addN (b := 1) rfl rfl (by omega)) ?_)
              refine gl_op <| op_rd rfl (rd_assign rfl) <| gl_nil <| gx_then ?_
              exact gx_cut (j + 1) ⟨by omega, by omega⟩ ⟨rfl, rfl, rfl, rfl, rfl, rfl, rfl, rfl, trivial⟩ ⟨[1, 2, 3, 4], by decide, rfl⟩
            rw [lteJ_all hx (by omega), ← lteC_next]
            refine gl_nil <| gx_then <| gc_cond_f rfl <| gc_exit <| gx_then_exit <| gx_then_exit <| gx_block_exit <| gx_block <| gx_then <| gc_region <| gl_op <| op_rd rfl (rd_move rfl) <| gl_op (op_rd rfl (by exact rd_addN (b := 1) rfl rfl (by omega)) ?_)
            refine gl_op <| op_rd rfl (rd_assign rfl) <| gl_nil <| gx_then ?_
            exact gx_cut (i + 1) ⟨by omega, by omega⟩ ⟨rfl, rfl, rfl, rfl, rfl, rfl, rfl, trivial⟩ ⟨[0, 1, 2, 3], by decide, rfl⟩
          have hi8 : i = (nOf l).length := by omega
          rw [hi8, lteC_all]
          refine gl_nil <| gx_then <| gc_cond_f rfl <| gc_exit <| gx_then_exit <| gx_then_exit <| gx_block_exit <| gx_block <| gx_then <| gc_region <| gl_op <| op_rd rfl (rd_move rfl) <| gl_op (op_rd rfl (by exact rd_addN (b := 1) rfl rfl (by omega)) ?_)
          refine gl_op <| op_rd rfl (rd_assign rfl) <| gl_nil <| gx_then ?_
          exact gx_cut (r + 1) ⟨by omega, by omega⟩ ⟨rfl, rfl, rfl, rfl, rfl, rfl, trivial⟩ ⟨[0, 1, 2, 3], by decide, rfl⟩
        have hr8 : r = (nOf l).length := by omega
        rw [hr8, show lteR (nOf l) (lateB (earlC (nOf l)) k9) (nOf l).length = lateF (nOf l) (earlC (nOf l)) k9 from rfl]
        have hll : (lateF (nOf l) (earlC (nOf l)) k9).length = (nOf l).length := by unfold lateF; rw [lteR_len, late_len]
        have hlb : ∀ t ∈ lateF (nOf l) (earlC (nOf l)) k9, t ≤ 1000000 := late_all hg (by omega) k9
        refine gl_nil <| gx_then <| gc_cond_f rfl <| gc_exit <| gx_then_exit <| gx_then_exit <| gx_block_exit <| gx_then <| gc_seq ?_
        rw [castL_len (critC (nOf l)), cast_int (critC (nOf l))]
        refine gc_region <| gl_op <| op_rd rfl (rd_assign rfl) <| gl_nil <| gx_then <| gc_seq <| gc_seq <| gc_region <| gl_op <| op_rd rfl (rd_assign rfl) <| gl_nil <| gx_then <| gc_block <| gc_loopF (ι := Nat) [(0, _), (9, _), (10, _), (18, _), (19, _)] [_, _, _, _] (fun m => m ≤ (critC (nOf l)).length) (fun m Fr0 => ((24, .bool (anyK (critC (nOf l)) k9 m)) :: (25, natV m) :: Fr0)) (fun m Fr0 => Fr0) (fun m => (critC (nOf l)).length - m) 0 (Nat.zero_le _) ⟨rfl, rfl, rfl, rfl, rfl, rfl, rfl, trivial⟩ ⟨[0, 1, 2, 3], by decide, rfl⟩ ?_
        rintro m hm
        refine gc_seq <| gc_seq <| gc_region <| gl_op <| op_rd rfl (rd_move rfl) <| gl_op <| op_rd rfl (rd_move rfl) <| gl_op <| op_rd rfl (rd_lenSlice Try.underlying29 rfl) <| gl_op (op_rd rfl (rd_lss rfl rfl) (gk_dec (fun h205 => ?_) (fun h205 => ?_)))
        · obtain ⟨xm, hmx⟩ := get_some (show m < (critC (nOf l)).length by omega)
          refine gl_nil <| gx_then <| gc_cond_t rfl <| gc_skip <| gx_then <| gc_seq <| gc_block <| gc_region <| gl_op <| op_rd rfl (rd_move rfl) <| gl_op <| op_rd rfl (rd_move rfl) <| gk_bool (fun h209 => ?_) (fun h209 => ?_)
          · refine gl_no rfl rfl rfl <| gl_no rfl rfl rfl <| gl_no rfl rfl rfl <| gl_no rfl rfl rfl <| gl_no rfl rfl rfl <| gl_no rfl rfl rfl <| gl_op <| op_rd rfl (rd_pick_t rfl rfl) <| gl_op <| op_rd rfl (rd_assign rfl) <| gl_nil <| gx_block <| gx_then <| gc_region <| gl_op <| op_rd rfl (rd_move rfl) <| gl_op (op_rd rfl (by exact rd_addN (b := 1) rfl rfl (by omega)) ?_)
            refine gl_op <| op_rd rfl (rd_assign rfl) <| gl_nil <| gx_then ?_
            rw [show Value.bool true = .bool (anyK (critC (nOf l)) k9 (m + 1)) from congrArg Value.bool (anyK_yes h209).symm]
            exact gx_cut (m + 1) ⟨by omega, by omega⟩ ⟨rfl, rfl, rfl, rfl, rfl, rfl, rfl, trivial⟩ ⟨[0, 1, 2, 3], by decide, rfl⟩
          refine gl_yes rfl rfl <| op_rd rfl (rd_move rfl) <| gl_yes rfl rfl <| op_rd rfl (rd_move rfl) <| gl_yes rfl rfl (op_rd rfl (rd_indexRow1 2 rfl Try.underlying29 ty_3 rfl rfl (by omega) (by omega)) ?_)
          refine gl_yes rfl rfl <| op_rd rfl (rd_load Try.underlying3 rfl rfl (ld_rowN 2 rfl (get_nat hmx))) <| gl_yes rfl rfl <| op_rd rfl (rd_move rfl) <| gl_yes rfl rfl <| op_rd rfl (rd_eql rfl rfl) <| gl_op <| op_rd rfl (rd_pick_f rfl rfl) <| gl_op <| op_rd rfl (rd_assign rfl) <| gl_nil <| gx_block <| gx_then <| gc_region <| gl_op <| op_rd rfl (rd_move rfl) <| gl_op (op_rd rfl (by exact rd_addN (b := 1) rfl rfl (by omega)) ?_)
          refine gl_op <| op_rd rfl (rd_assign rfl) <| gl_nil <| gx_then ?_
          rw [show Value.bool (decide _) = .bool (anyK (critC (nOf l)) k9 (m + 1)) from congrArg Value.bool (by rw [anyK_next hmx h209, decide_eq_decide]; omega)]
          exact gx_cut (m + 1) ⟨by omega, by omega⟩ ⟨rfl, rfl, rfl, rfl, rfl, rfl, rfl, trivial⟩ ⟨[0, 1, 2, 3], by decide, rfl⟩
        have hm9 : m = (critC (nOf l)).length := by omega
        rw [hm9, anyK_all hg hk9]
        refine gl_nil <| gx_then <| gc_cond_f rfl <| gc_exit <| gx_then_exit <| gx_then_exit <| gx_block_exit <| gx_then <| gc_seq <| gc_region <| gl_op <| op_rd rfl (rd_move rfl) <| gl_op <| op_rd rfl (rd_move rfl) <| gl_op <| op_rd rfl (rd_move rfl) ?_
        refine gl_op (op_call rfl (vf := []) (vc := []) rfl rfl Try.call22 (fun w1 ho => by
          have h9 := rEnd_ok a c (nOf l) hg.ok (rowA r142) c142 (lateF (nOf l) (earlC (nOf l)) k9) hll hlb w1 (hN.at ho) (by rw [hll]; exact ho.rowSl 0 rfl)
          rw [hll] at h9
          exact h9) ?_)
        rintro _ _ ⟨rfl, rfl⟩
        refine gl_op <| op_rd rfl (rd_move rfl) <| gl_op <| op_rd rfl (rd_gtr rfl rfl) <| gl_op <| op_rd rfl (rd_eqlb Try.runUnderlying4 rfl rfl) ?_
        rw [beq_self_eq_true]
        refine gl_op <| op_rd rfl (rd_move rfl) <| gl_yes rfl rfl (op_call rfl (vf := []) (vc := []) rfl rfl Try.call9 (fun w1 ho => shown_ok w1) ?_)
        rintro _ _ ⟨rfl, rfl⟩
        refine gl_op <| op_rd rfl (rd_pick_t rfl rfl) <| gl_op <| op_rd rfl (rd_assign rfl) <| gl_nil <| gx_then <| gc_ret <| gx_ret1 (.inl rfl) Try.results7 rfl [] (by decide) ?_
        exact ⟨rfl, rfl⟩
      refine gl_op <| op_rd rfl (rd_move rfl) <| gl_no rfl rfl rfl <| gl_no rfl rfl rfl <| gl_op <| op_rd rfl (rd_pick_f rfl rfl) <| gl_op <| op_rd rfl (rd_move rfl) <| gl_no rfl rfl rfl <| gl_op <| op_rd rfl (rd_pick_f rfl rfl) <| gl_nil <| gx_then <| gc_cond_f rfl <| gc_exit <| gx_then_exit <| gx_then_exit <| gx_block_exit <| gx_then <| gc_seq <| gc_seq <| gc_region <| gl_op <| op_rd rfl (rd_move rfl) <| gl_op <| op_rd rfl (rd_lenSlice Try.underlying22 rfl) <| gl_op (op_rd rfl (rd_eql rfl rfl) (gk_dec (fun h133 => ?_) (fun h133 => ?_)))
      · refine gl_nil <| gx_then <| gc_cond_t rfl <| gc_seq <| gc_region <| gl_op (op_call rfl (vf := []) (vc := []) rfl rfl Try.call9 (fun w1 ho => shown_ok w1) ?_)
        rintro _ _ ⟨rfl, rfl⟩
        refine gl_op <| op_rd rfl (rd_assign rfl) <| gl_nil <| gx_then <| gc_ret <| gx_then_ret <| gx_ret1 (.inl rfl) Try.results7 rfl [] (by decide) ?_
        exact ⟨rfl, rfl⟩
      rw [← hnl]
      refine gl_nil <| gx_then <| gc_cond_f rfl <| gc_skip <| gx_then <| gc_seq <| gc_region <| gl_op <| op_rd rfl (rd_move rfl) <| gl_op (op_rd rfl (rd_conv Try.runUnderlying5 Try.runUnderlying3 rfl (wrap64_ok (by omega) (by omega))) ?_)
      refine gl_op <| op_rd rfl (rd_move rfl) <| gl_op <| op_rd rfl (rd_lenSlice Try.underlying22 rfl) ?_
      have hk9 := Nat.mod_lt kd (show 0 < (nOf l).length by omega)
      refine gl_op (op_rd rfl (by exact rd_remN rfl rfl (by omega)) ?_)
      refine gl_op <| op_rd rfl (rd_assign rfl) <| gl_nil <| gx_then <| gc_seq <| gc_region <| gl_op (op_buildSlice (sz := 1) rfl rfl (fun _ => bs_25_0_) rfl rfl (fun b140 => ?_))
      refine gl_op <| op_rd rfl (rd_move rfl) <| gl_op (op_appendMem 0 (fun w ho => ho.rowSl 3 rfl) Try.underlying25 ty_2 rfl (by decide) rfl rfl rfl rfl (fun u hu => (by obtain ⟨x, _, rfl⟩ := List.mem_map.1 hu; rfl)) (by rw [castL_len, earlC_len]; omega) (by rw [castL_len, earlC_len]; omega) (fun _ => (by rfl)) (fun r142 c142 => ?_))
      simp only [Nat.zero_add, List.nil_append]
      refine gl_op <| op_rd rfl (rd_assign rfl) <| gl_nil <| gx_then <| gc_seq ?_
      obtain ⟨k9, hk99⟩ : ∃ k9, kd % (nOf l).length = k9 := ⟨_, rfl⟩
      rw [hk99] at hk9 ⊢
      rw [cast_int (earlC (nOf l)), castL_len (earlC (nOf l)), hecl]
      have hk8 := earlC_bd hg k9
      refine gc_region <| gl_op <| op_rd rfl (rd_move rfl) <| gl_op <| op_rd rfl (rd_move rfl) <| gl_op (op_rd rfl (rd_indexRow1 0 rfl Try.underlying25 ty_2 rfl rfl (by omega) (by omega)) ?_)
      refine gl_op (op_rd rfl (rd_load Try.underlying2 rfl rfl (ld_rowN 0 rfl (get_natL (p := k9) (by omega)))) ?_)
      refine gl_op (op_rd rfl (by exact rd_addN (b := 1) rfl rfl (by omega)) ?_)
      refine gl_op (op_rd rfl (rd_indexRow1 0 rfl Try.underlying25 ty_2 rfl rfl (by omega) (by omega)) ?_)
      refine gl_op (op_storeRowE 0 ty_2 rfl rfl rfl rfl (by rw [List.length_map]; omega) (show (List.map natV (earlC (nOf l))).set k9 (natV ((earlC (nOf l)).getD k9 0 + 1)) = (lteR (nOf l) (lateB (earlC (nOf l)) k9) 0).map natV from set_natL _ k9 _) (by rfl) ?_)
      refine gl_nil <| gx_then <| gc_seq <| gc_seq <| gc_region <| gl_op <| op_rd rfl (rd_assign rfl) <| gl_nil <| gx_then <| gc_block <| gc_loopF (ι := Nat) [(0, _), (9, _), (10, _), (18, _), (19, _)] [_, _, _] (fun r => r ≤ (nOf l).length) (fun r Fr0 => ((20, natV r) :: Fr0)) (fun r Fr0 => (.row 2 1 r142 (nOf l).length c142 ((lteR (nOf l) (lateB (earlC (nOf l)) k9) r).map natV) :: Fr0)) (fun r => (nOf l).length - r) 0 (Nat.zero_le _) ⟨rfl, rfl, rfl, rfl, rfl, rfl, trivial⟩ ⟨[0, 1, 2, 3], by decide, rfl⟩ ?_
      rintro r hr9
      refine gc_seq <| gc_seq <| gc_region <| gl_op <| op_rd rfl (rd_move rfl) <| gl_op <| op_rd rfl (rd_move rfl) <| gl_op <| op_rd rfl (rd_lenSlice Try.underlying22 rfl) <| gl_op (op_rd rfl (rd_lss rfl rfl) (gk_dec (fun h152 => ?_) (fun h152 => ?_)))
      · refine gl_nil <| gx_then <| gc_cond_t rfl <| gc_skip <| gx_then <| gc_seq <| gc_block <| gc_seq <| gc_region <| gl_op <| op_rd rfl (rd_assign rfl) <| gl_nil <| gx_then <| gc_block <| gc_loopF (ι := Nat) [(0, _), (9, _), (10, _), (18, _), (19, _), (20, _)] [_, _, _] (fun i => i ≤ (nOf l).length) (fun i Fr0 => ((21, natV i) :: Fr0)) (fun i Fr0 => (.row 2 1 r142 (nOf l).length c142 ((lteC (nOf l) (lateB (earlC (nOf l)) k9) r i).map natV) :: Fr0)) (fun i => (nOf l).length - i) 0 (Nat.zero_le _) ⟨rfl, rfl, rfl, rfl, rfl, rfl, rfl, trivial⟩ ⟨[0, 1, 2, 3], by decide, rfl⟩ ?_
        rintro i hi9
        refine gc_seq <| gc_seq <| gc_region <| gl_op <| op_rd rfl (rd_move rfl) <| gl_op <| op_rd rfl (rd_move rfl) <| gl_op <| op_rd rfl (rd_lenSlice Try.underlying22 rfl) <| gl_op (op_rd rfl (rd_lss rfl rfl) (gk_dec (fun h158 => ?_) (fun h158 => ?_)))
        · obtain ⟨x, hx⟩ := get_some (show i < (nOf l).length by omega)
          have hxl := hj.lags x (List.mem_of_getElem? hx)
          have hcln := lteC_len (nOf l) (lateB (earlC (nOf l)) k9) r i
          rw [late_len] at hcln
          rw [← lteJ_zero (l := nOf l) (i := i) (show i < (lteC (nOf l) (lateB (earlC (nOf l)) k9) r i).length by omega)]
          refine gl_nil <| gx_then <| gc_cond_t rfl <| gc_skip <| gx_then <| gc_seq <| gc_block <| gc_seq <| gc_region <| gl_op <| op_rd rfl (rd_assign rfl) <| gl_nil <| gx_then <| gc_block <| gc_loopF (ι := Nat) [(0, _), (9, _), (10, _), (18, _), (19, _), (20, _), (21, _)] [_, _, _] (fun j => j ≤ x.after.length) (fun j Fr0 => ((22, natV j) :: Fr0)) (fun j Fr0 => (.row 2 1 r142 (nOf l).length c142 ((lteJ (nOf l) (lteC (nOf l) (lateB (earlC (nOf l)) k9) r i) i j).map natV) :: Fr0)) (fun j => x.after.length - j) 0 (Nat.zero_le _) ⟨rfl, rfl, rfl, rfl, rfl, rfl, rfl, rfl, trivial⟩ ⟨[0, 1, 2, 3], by decide, rfl⟩ ?_
          rintro j hj9
          refine gc_seq <| gc_seq <| gc_region <| gl_op <| op_rd rfl (rd_move rfl) <| gl_op <| op_rd rfl (rd_move rfl) <| gl_op <| op_rd rfl (rd_move rfl) <| gl_op (op_rd rfl (rd_indexOld hN.t Try.underlying22 ty_48 rfl rfl (by omega) (by omega)) ?_)
          refine gl_op <| op_rd rfl (rd_fieldAddr rfl (fa_48_3 _)) <| gl_op (op_rd rfl (rd_load Try.underlying46 rfl rfl (ld_slf hN.t (get_flat Jb.cells 4 (fun _ => rfl) hx (j := 3) (by decide) rfl))) ?_)
          refine gl_op <| op_rd rfl (rd_lenSlice Try.underlying46 rfl) <| gl_op (op_rd rfl (rd_lss rfl rfl) (gk_dec (fun h168 => ?_) (fun h168 => ?_)))
          · obtain ⟨y, hy⟩ := get_some (show j < x.after.length by omega)
            have hyl := lag_lt hj hx hy
            obtain ⟨z, hz⟩ := get_some (show y.1 < (nOf l).length by omega)
            have hzh := job_le hj hz
            have hjl := lteJ_len (nOf l) (lteC (nOf l) (lateB (earlC (nOf l)) k9) r i) i j
            have hcb := fun q => lteC_bd hj (show (nOf l).length ≤ 9 by omega) (late_bd hg k9) (show r ≤ 9 by omega) (show i ≤ 9 by omega) q
            have hj1 := lteJ_bd hj hcb i j i
            have hj2 := lteJ_bd hj hcb i j y.1
            refine gl_nil <| gx_then <| gc_cond_t rfl <| gc_skip <| gx_then <| gc_seq <| gc_block <| gc_seq <| gc_region <| gl_op <| op_rd rfl (rd_move rfl) <| gl_op <| op_rd rfl (rd_move rfl) <| gl_op (op_rd rfl (rd_indexOld hN.t Try.underlying22 ty_48 rfl rfl (by omega) (by omega)) ?_)
            refine gl_op <| op_rd rfl (rd_fieldAddr rfl (fa_48_3 _)) <| gl_op (op_rd rfl (rd_load Try.underlying46 rfl rfl (ld_slf hN.t (get_flat Jb.cells 4 (fun _ => rfl) hx (j := 3) (by decide) rfl))) ?_)
            refine gl_op <| op_rd rfl (rd_move rfl) <| gl_op (op_rd rfl (rd_indexOld (hN.r x (List.mem_of_getElem? hx)) Try.underlying46 ty_50 rfl rfl (by omega) (by omega)) ?_)
            refine gl_op (op_rd rfl (rd_loadAgg Try.underlying50 rfl ty_50 rfl (cs_slN (hN.r x (List.mem_of_getElem? hx)) (flat_drop_get lagN 2 (fun _ => rfl) hy)) rfl) ?_)
            refine gl_op (op_alloc ty_50 rfl rfl (fun b23 => ?_))
            refine gl_op (op_storeAgg 0 ty_50 rfl rfl rfl rfl rfl rfl (by rfl) ?_)
            refine gl_nil <| gx_then <| gc_drawP [0, 1, 2, 3, 4] false 23 rfl <| ga_first 0 (bm 24 1) rfl rfl rfl rfl (by kernel_rfl) (by kernel_rfl) ⟨[0, 1, 2, 3, 4], by decide, rfl⟩ (qt_rd (rd_move rfl)) ?_
            refine ga_first 1 (bm 24 3) rfl rfl rfl rfl (by kernel_rfl) (by kernel_rfl) ⟨[0, 1, 2, 3, 4], by decide, rfl⟩ (qt_rd (rd_move rfl)) ?_
            refine ga_first 2 (bm 24 7) rfl rfl rfl rfl (by kernel_rfl) (by kernel_rfl) ⟨[0, 1, 2, 3, 4], by decide, rfl⟩ (qt_rd (rd_move rfl)) ?_
            refine ga_first 3 (bm 24 15) rfl rfl rfl rfl (by kernel_rfl) (by kernel_rfl) ⟨[0, 1, 2, 3, 4], by decide, rfl⟩ (qt_rd (rd_move rfl)) ?_
            refine ga_first 4 (bm 24 31) rfl rfl rfl rfl (by kernel_rfl) (by kernel_rfl) ⟨[0, 1, 2, 3, 4], by decide, rfl⟩ (qt_rd (rd_indexRow1 1 rfl Try.underlying25 ty_2 rfl rfl (by omega) (by omega))) ?_
            refine ga_first 5 (bm 24 63) rfl rfl rfl rfl (by kernel_rfl) (by kernel_rfl) ⟨[0, 1, 2, 3, 4], by decide, rfl⟩ (qt_rd (rd_load Try.underlying2 rfl rfl (ld_row 1 rfl (get_natL (p := i) (by omega))))) ?_
            refine ga_first 6 (bm 24 127) rfl rfl rfl rfl (by kernel_rfl) (by kernel_rfl) ⟨[0, 1, 2, 3, 4], by decide, rfl⟩ (qt_rd (rd_move rfl)) ?_
            refine ga_first 7 (bm 24 255) rfl rfl rfl rfl (by kernel_rfl) (by kernel_rfl) ⟨[0, 1, 2, 3, 4], by decide, rfl⟩ (qt_rd (rd_fieldAddr rfl (fa_50_0 _))) ?_
            refine ga_first 8 (bm 24 511) rfl rfl rfl rfl (by kernel_rfl) (by kernel_rfl) ⟨[0, 1, 2, 3, 4], by decide, rfl⟩ (qt_rd (rd_load Try.underlying3 rfl rfl (by exact ld_blk 0 rfl rfl))) ?_
            refine ga_first 9 (bm 24 1023) rfl rfl rfl rfl (by kernel_rfl) (by kernel_rfl) ⟨[0, 1, 2, 3, 4], by decide, rfl⟩ (qt_rd (rd_indexRow1 1 rfl Try.underlying25 ty_2 rfl rfl (by omega) (by omega))) ?_
            refine ga_first 10 (bm 24 2047) rfl rfl rfl rfl (by kernel_rfl) (by kernel_rfl) ⟨[0, 1, 2, 3, 4], by decide, rfl⟩ (qt_rd (rd_load Try.underlying2 rfl rfl (ld_row 1 rfl (get_natL (p := y.1) (by omega))))) ?_
            refine ga_first 11 (bm 24 4095) rfl rfl rfl rfl (by kernel_rfl) (by kernel_rfl) ⟨[0, 1, 2, 3, 4], by decide, rfl⟩ (qt_rd (rd_move rfl)) ?_
            refine ga_first 12 (bm 24 8191) rfl rfl rfl rfl (by kernel_rfl) (by kernel_rfl) ⟨[0, 1, 2, 3, 4], by decide, rfl⟩ (qt_rd (rd_fieldAddr rfl (fa_50_0 _))) ?_
            refine ga_first 13 (bm 24 16383) rfl rfl rfl rfl (by kernel_rfl) (by kernel_rfl) ⟨[0, 1, 2, 3, 4], by decide, rfl⟩ (qt_rd (rd_load Try.underlying3 rfl rfl (by exact ld_blk 0 rfl rfl))) ?_
            refine ga_first 14 (bm 24 32767) rfl rfl rfl rfl (by kernel_rfl) (by kernel_rfl) ⟨[0, 1, 2, 3, 4], by decide, rfl⟩ (qt_rd (rd_indexOld hN.t Try.underlying22 ty_48 rfl rfl (by omega) (by omega))) ?_
            refine ga_first 15 (bm 24 65535) rfl rfl rfl rfl (by kernel_rfl) (by kernel_rfl) ⟨[0, 1, 2, 3, 4], by decide, rfl⟩ (qt_rd (rd_fieldAddr rfl (fa_48_2 _))) ?_
            refine ga_first 16 (bm 24 131071) rfl rfl rfl rfl (by kernel_rfl) (by kernel_rfl) ⟨[0, 1, 2, 3, 4], by decide, rfl⟩ (qt_rd (rd_load Try.underlying2 rfl rfl (ld_slf hN.t (get_flat Jb.cells 4 (fun _ => rfl) hz (j := 2) (by decide) rfl)))) ?_
            refine ga_first 17 (bm 24 262143) rfl rfl rfl rfl (by kernel_rfl) (by kernel_rfl) ⟨[0, 1, 2, 3, 4], by decide, rfl⟩ (qt_rd (by exact rd_addN rfl rfl (by omega))) ?_
            refine ga_first 18 (bm 24 524287) rfl rfl rfl rfl (by kernel_rfl) (by kernel_rfl) ⟨[0, 1, 2, 3, 4], by decide, rfl⟩ (qt_rd (rd_fieldAddr rfl (fa_50_1 _))) ?_
            refine ga_first 19 (bm 24 1048575) rfl rfl rfl rfl (by kernel_rfl) (by kernel_rfl) ⟨[0, 1, 2, 3, 4], by decide, rfl⟩ (qt_rd (rd_load Try.underlying2 rfl rfl (by exact ld_blk 0 rfl rfl))) ?_
            refine ga_first 20 (bm 24 2097151) rfl rfl rfl rfl (by kernel_rfl) (by kernel_rfl) ⟨[0, 1, 2, 3, 4], by decide, rfl⟩ (qt_rd (by exact rd_addN rfl rfl (by omega))) ?_
            refine ga_first 21 (bm 24 4194303) rfl rfl rfl rfl (by kernel_rfl) (by kernel_rfl) ⟨[0, 1, 2, 3, 4], by decide, rfl⟩ (qt_rd (rd_max2 rfl rfl)) ?_
            refine ga_first 22 (bm 24 8388607) rfl rfl rfl rfl (by kernel_rfl) (by kernel_rfl) ⟨[0, 1, 2, 3, 4], by decide, rfl⟩ (qt_rd (rd_indexRow1 1 rfl Try.underlying25 ty_2 rfl rfl (by omega) (by omega))) ?_
            refine ga_only 23 (bm 24 16777215) rfl rfl (by kernel_rfl) (by kernel_rfl) (.inr ⟨[0, 1, 2, 3, 4], by decide, rfl⟩) (op_storeRowE 1 ty_2 rfl rfl rfl rfl (by rw [List.length_map]; omega) (lteJ_st (by omega) hx hy hz hyl.2.1) (by rfl) ?_)
            refine ga_end (by kernel_rfl) (.inl (by kernel_rfl)) ?_
            refine gx_block <| gx_then <| gc_region <| gl_op <| op_rd rfl (rd_move rfl) <| gl_op (op_rd rfl (by exact rd_addN (b := 1) rfl rfl (by omega)) ?_)
            refine gl_op <| op_rd rfl (rd_assign rfl) <| gl_nil <| gx_then ?_
            exact gx_cut (j + 1) ⟨by omega, by omega⟩ ⟨rfl, rfl, rfl, rfl, rfl, rfl, rfl, rfl, trivial⟩ ⟨[1, 2, 3, 4], by decide, rfl⟩
          rw [lteJ_all hx (by omega), ← lteC_next]
          refine gl_nil <| gx_then <| gc_cond_f rfl <| gc_exit <| gx_then_exit <| gx_then_exit <| gx_block_exit <| gx_block <| gx_then <| gc_region <| gl_op <| op_rd rfl (rd_move rfl) <| gl_op (op_rd rfl (by exact rd_addN (b := 1) rfl rfl (by omega)) ?_)
          refine gl_op <| op_rd rfl (rd_assign rfl) <| gl_nil <| gx_then ?_
          exact gx_cut (i + 1) ⟨by omega, by omega⟩ ⟨rfl, rfl, rfl, rfl, rfl, rfl, rfl, trivial⟩ ⟨[0, 1, 2, 3], by decide, rfl⟩
        have hi8 : i = (nOf l).length := by omega
        rw [hi8, lteC_all]
        refine gl_nil <| gx_then <| gc_cond_f rfl <| gc_exit <| gx_then_exit <| gx_then_exit <| gx_block_exit <| gx_block <| gx_then <| gc_region <| gl_op <| op_rd rfl (rd_move rfl) <| gl_op (op_rd rfl (by exact rd_addN (b := 1) rfl rfl (by omega)) ?_)
        refine gl_op <| op_rd rfl (rd_assign rfl) <| gl_nil <| gx_then ?_
        exact gx_cut (r + 1) ⟨by omega, by omega⟩ ⟨rfl, rfl, rfl, rfl, rfl, rfl, trivial⟩ ⟨[0, 1, 2, 3], by decide, rfl⟩
      have hr8 : r = (nOf l).length := by omega
      rw [hr8, show lteR (nOf l) (lateB (earlC (nOf l)) k9) (nOf l).length = lateF (nOf l) (earlC (nOf l)) k9 from rfl]
      have hll : (lateF (nOf l) (earlC (nOf l)) k9).length = (nOf l).length := by unfold lateF; rw [lteR_len, late_len]
      have hlb : ∀ t ∈ lateF (nOf l) (earlC (nOf l)) k9, t ≤ 1000000 := late_all hg (by omega) k9
      refine gl_nil <| gx_then <| gc_cond_f rfl <| gc_exit <| gx_then_exit <| gx_then_exit <| gx_block_exit <| gx_then <| gc_seq ?_
      rw [castL_len (critC (nOf l)), cast_int (critC (nOf l))]
      refine gc_region <| gl_op <| op_rd rfl (rd_assign rfl) <| gl_nil <| gx_then <| gc_seq <| gc_seq <| gc_region <| gl_op <| op_rd rfl (rd_assign rfl) <| gl_nil <| gx_then <| gc_block <| gc_loopF (ι := Nat) [(0, _), (9, _), (10, _), (18, _), (19, _)] [_, _, _, _] (fun m => m ≤ (critC (nOf l)).length) (fun m Fr0 => ((24, .bool (anyK (critC (nOf l)) k9 m)) :: (25, natV m) :: Fr0)) (fun m Fr0 => Fr0) (fun m => (critC (nOf l)).length - m) 0 (Nat.zero_le _) ⟨rfl, rfl, rfl, rfl, rfl, rfl, rfl, trivial⟩ ⟨[0, 1, 2, 3], by decide, rfl⟩ ?_
      rintro m hm
      refine gc_seq <| gc_seq <| gc_region <| gl_op <| op_rd rfl (rd_move rfl) <| gl_op <| op_rd rfl (rd_move rfl) <| gl_op <| op_rd rfl (rd_lenSlice Try.underlying29 rfl) <| gl_op (op_rd rfl (rd_lss rfl rfl) (gk_dec (fun h205 => ?_) (fun h205 => ?_)))
      · obtain ⟨xm, hmx⟩ := get_some (show m < (critC (nOf l)).length by omega)
        refine gl_nil <| gx_then <| gc_cond_t rfl <| gc_skip <| gx_then <| gc_seq <| gc_block <| gc_region <| gl_op <| op_rd rfl (rd_move rfl) <| gl_op <| op_rd rfl (rd_move rfl) <| gk_bool (fun h209 => ?_) (fun h209 => ?_)
        · refine gl_no rfl rfl rfl <| gl_no rfl rfl rfl <| gl_no rfl rfl rfl <| gl_no rfl rfl rfl <| gl_no rfl rfl rfl <| gl_no rfl rfl rfl <| gl_op <| op_rd rfl (rd_pick_t rfl rfl) <| gl_op <| op_rd rfl (rd_assign rfl) <| gl_nil <| gx_block <| gx_then <| gc_region <| gl_op <| op_rd rfl (rd_move rfl) <| gl_op (op_rd rfl (by exact rd_addN (b := 1) rfl rfl (by omega)) ?_)
          refine gl_op <| op_rd rfl (rd_assign rfl) <| gl_nil <| gx_then ?_
          rw [show Value.bool true = .bool (anyK (critC (nOf l)) k9 (m + 1)) from congrArg Value.bool (anyK_yes h209).symm]
          exact gx_cut (m + 1) ⟨by omega, by omega⟩ ⟨rfl, rfl, rfl, rfl, rfl, rfl, rfl, trivial⟩ ⟨[0, 1, 2, 3], by decide, rfl⟩
        refine gl_yes rfl rfl <| op_rd rfl (rd_move rfl) <| gl_yes rfl rfl <| op_rd rfl (rd_move rfl) <| gl_yes rfl rfl (op_rd rfl (rd_indexRow1 2 rfl Try.underlying29 ty_3 rfl rfl (by omega) (by omega)) ?_)
        refine gl_yes rfl rfl <| op_rd rfl (rd_load Try.underlying3 rfl rfl (ld_rowN 2 rfl (get_nat hmx))) <| gl_yes rfl rfl <| op_rd rfl (rd_move rfl) <| gl_yes rfl rfl <| op_rd rfl (rd_eql rfl rfl) <| gl_op <| op_rd rfl (rd_pick_f rfl rfl) <| gl_op <| op_rd rfl (rd_assign rfl) <| gl_nil <| gx_block <| gx_then <| gc_region <| gl_op <| op_rd rfl (rd_move rfl) <| gl_op (op_rd rfl (by exact rd_addN (b := 1) rfl rfl (by omega)) ?_)
        refine gl_op <| op_rd rfl (rd_assign rfl) <| gl_nil <| gx_then ?_
        rw [show Value.bool (decide _) = .bool (anyK (critC (nOf l)) k9 (m + 1)) from congrArg Value.bool (by rw [anyK_next hmx h209, decide_eq_decide]; omega)]
        exact gx_cut (m + 1) ⟨by omega, by omega⟩ ⟨rfl, rfl, rfl, rfl, rfl, rfl, rfl, trivial⟩ ⟨[0, 1, 2, 3], by decide, rfl⟩
      have hm9 : m = (critC (nOf l)).length := by omega
      rw [hm9, anyK_all hg hk9]
      refine gl_nil <| gx_then <| gc_cond_f rfl <| gc_exit <| gx_then_exit <| gx_then_exit <| gx_block_exit <| gx_then <| gc_seq <| gc_region <| gl_op <| op_rd rfl (rd_move rfl) <| gl_op <| op_rd rfl (rd_move rfl) <| gl_op <| op_rd rfl (rd_move rfl) ?_
      refine gl_op (op_call rfl (vf := []) (vc := []) rfl rfl Try.call22 (fun w1 ho => by
        have h9 := rEnd_ok a c (nOf l) hg.ok (rowA r142) c142 (lateF (nOf l) (earlC (nOf l)) k9) hll hlb w1 (hN.at ho) (by rw [hll]; exact ho.rowSl 0 rfl)
        rw [hll] at h9
        exact h9) ?_)
      rintro _ _ ⟨rfl, rfl⟩
      refine gl_op <| op_rd rfl (rd_move rfl) <| gl_op <| op_rd rfl (rd_gtr rfl rfl) <| gl_op <| op_rd rfl (rd_eqlb Try.runUnderlying4 rfl rfl) ?_
      rw [beq_self_eq_true]
      refine gl_op <| op_rd rfl (rd_move rfl) <| gl_yes rfl rfl (op_call rfl (vf := []) (vc := []) rfl rfl Try.call9 (fun w1 ho => shown_ok w1) ?_)
      rintro _ _ ⟨rfl, rfl⟩
      refine gl_op <| op_rd rfl (rd_pick_t rfl rfl) <| gl_op <| op_rd rfl (rd_assign rfl) <| gl_nil <| gx_then <| gc_ret <| gx_ret1 (.inl rfl) Try.results7 rfl [] (by decide) ?_
      exact ⟨rfl, rfl⟩
    rw [castL_len] at h91; have := critC_ne hg (by omega); exfalso; omega
  refine gl_yes rfl rfl <| op_rd rfl (rd_move rfl) <| gl_yes rfl rfl <| op_rd rfl (rd_lenSlice Try.underlying29 rfl) <| gl_yes rfl rfl (op_rd rfl (rd_gtr rfl rfl) (gk_dec (fun h91 => ?_) (fun h91 => ?_)))
  · rw [castL_len] at h91; exfalso; omega
  refine gl_yes rfl rfl <| op_rd rfl (rd_neqb Try.runUnderlying4 rfl rfl) <| gl_op <| op_rd rfl (rd_pick_f rfl rfl) <| gl_nil <| gx_then <| gc_cond_f rfl <| gc_skip <| gx_then <| gc_seq ?_
  rcases fits_case (shop := [9, 9, 9, 9, 9, 9]) (ats := ats) hch with ⟨s, rfl, hsl2, hsb, hsf, hsh, hfv⟩ | ⟨fb, fe, hfv⟩
  · refine gc_region <| gl_op <| op_rd rfl (rd_move rfl) <| gl_op <| op_rd rfl (rd_move rfl) <| gl_op <| op_rd rfl (rd_move rfl) ?_
    refine gl_op (op_call rfl (vf := []) (vc := []) rfl rfl Try.call18 (fun w1 ho => by
      have h9 := Fits_ok a c l hle (rowA (some b56)) 6 [9, 9, 9, 9, 9, 9] (by decide) q cq (castL s) hal w1 (hJ.at ho) (ho.rowSl 0 rfl) (hT.at ho)
      rw [hfv] at h9
      exact h9) ?_)
    rintro _ _ ⟨rfl, rfl⟩
    refine gl_op <| op_rd rfl (rd_move rfl) <| gl_op <| op_rd rfl (rd_extract rfl rfl) <| gl_op <| op_rd rfl (rd_extract rfl rfl) <| gl_op <| op_rd rfl (rd_extract rfl rfl) <| gl_op <| op_rd rfl (rd_assign rfl) <| gl_op <| op_rd rfl (rd_assign rfl) <| gl_op <| op_rd rfl (rd_assign rfl) <| gl_nil <| gx_then <| gc_seq <| gc_seq <| gc_region <| gl_op <| op_rd rfl (rd_assign rfl) <| gl_nil <| gx_then <| gc_block <| gc_loopF (ι := Nat) [(0, _), (1, _), (2, _), (7, _), (8, _), (9, _), (10, _), (15, _)] [_, _, _] (fun k => k ≤ l.length) (fun k Fr0 => ((17, natV k) :: Fr0)) (fun k Fr0 => Fr0) (fun k => l.length - k) 0 (Nat.zero_le _) ⟨rfl, rfl, rfl, rfl, rfl, rfl, rfl, rfl, rfl, trivial⟩ ⟨[0, 1, 2], by decide, rfl⟩ ?_
    rintro k hk
    refine gc_seq <| gc_seq <| gc_region <| gl_op <| op_rd rfl (rd_move rfl) <| gl_op <| op_rd rfl (rd_move rfl) <| gl_op <| op_rd rfl (rd_lenSlice Try.underlying22 rfl) <| gl_op (op_rd rfl (rd_lss rfl rfl) (gk_dec (fun h105 => ?_) (fun h105 => ?_)))
    · refine gl_op <| op_rd rfl (rd_move rfl) <| gl_yes rfl rfl <| op_rd rfl (rd_move rfl) <| gl_yes rfl rfl (op_rd rfl (rd_eql rfl rfl) (gk_dec (fun h108 => ?_) (fun h108 => ?_)))
      · refine gl_op <| op_rd rfl (rd_pick_t rfl rfl) <| gl_op <| op_rd rfl (rd_move rfl) <| gl_yes rfl rfl <| op_rd rfl (rd_move rfl) <| gl_op <| op_rd rfl (rd_pick_t rfl rfl) <| gl_nil <| gx_then <| gc_cond_t rfl <| gc_skip <| gx_then <| gc_seq <| gc_block <| gc_seq <| gc_drawP [0, 1, 2] true 15 rfl <| ga_first 0 (bm 16 1) rfl rfl rfl rfl (by kernel_rfl) (by kernel_rfl) ⟨[0, 1, 2], by decide, rfl⟩ (qt_rd (rd_move rfl)) ?_
        refine ga_first 1 (bm 16 3) rfl rfl rfl rfl (by kernel_rfl) (by kernel_rfl) ⟨[0, 1, 2], by decide, rfl⟩ (qt_rd (rd_lenSlice Try.underlying25 rfl)) ?_
        refine ga_first 2 (bm 16 7) rfl rfl rfl rfl (by kernel_rfl) (by kernel_rfl) ⟨[0, 1, 2], by decide, rfl⟩ (qt_rd (rd_move rfl)) ?_
        refine ga_first 3 (bm 16 15) rfl rfl rfl rfl (by kernel_rfl) (by kernel_rfl) ⟨[0, 1, 2], by decide, rfl⟩ (qt_rd (rd_lenSlice Try.underlying22 rfl)) ?_
        refine ga_first 4 (bm 16 31) rfl rfl rfl rfl (by kernel_rfl) (by kernel_rfl) ⟨[0, 1, 2], by decide, rfl⟩ (qt_rd (rd_neq rfl rfl)) (gk_dec (fun h119 => ?_) (fun h119 => ?_))
        · exact absurd (by rw [castL_len]; omega) h119
        refine ga_first 5 (bm 16 63) rfl rfl rfl rfl (by kernel_rfl) (by kernel_rfl) ⟨[0, 1, 2], by decide, rfl⟩ (qt_rd (rd_move rfl)) ?_
        refine ga_firstY 6 (bm 16 127) rfl rfl rfl rfl rfl rfl (by kernel_rfl) (by kernel_rfl) ⟨[0, 1, 2], by decide, rfl⟩ (qt_rd (rd_move rfl)) ?_
        refine ga_firstY 7 (bm 16 255) rfl rfl rfl rfl rfl rfl (by kernel_rfl) (by kernel_rfl) ⟨[0, 1, 2], by decide, rfl⟩ (qt_rd (rd_move rfl)) ?_
        refine ga_firstY 8 (bm 16 511) rfl rfl rfl rfl rfl rfl (by kernel_rfl) (by kernel_rfl) ⟨[0, 1, 2], by decide, rfl⟩ (qt_rd (rd_indexOld1 hT Try.underlying25 ty_2 rfl rfl (by omega) (by rw [castL_len]; omega))) ?_
        refine ga_firstY 9 (bm 16 1023) rfl rfl rfl rfl rfl rfl (by kernel_rfl) (by kernel_rfl) ⟨[0, 1, 2], by decide, rfl⟩ (qt_rd (rd_load Try.underlying2 rfl rfl (ld_slN hT (get_intL (castL_at (by omega)))))) ?_
        refine ga_firstY 10 (bm 16 2047) rfl rfl rfl rfl rfl rfl (by kernel_rfl) (by kernel_rfl) ⟨[0, 1, 2], by decide, rfl⟩ (qt_rd (rd_move rfl)) ?_
        refine ga_firstY 11 (bm 16 4095) rfl rfl rfl rfl rfl rfl (by kernel_rfl) (by kernel_rfl) ⟨[0, 1, 2], by decide, rfl⟩ (qt_rd (rd_move rfl)) ?_
        refine ga_firstY 12 (bm 16 8191) rfl rfl rfl rfl rfl rfl (by kernel_rfl) (by kernel_rfl) ⟨[0, 1, 2], by decide, rfl⟩ (qt_rd (rd_indexRow1 2 rfl Try.underlying25 ty_2 rfl rfl (by omega) (by rw [castL_len]; omega))) ?_
        refine ga_firstY 13 (bm 16 16383) rfl rfl rfl rfl rfl rfl (by kernel_rfl) (by kernel_rfl) ⟨[0, 1, 2], by decide, rfl⟩ (qt_rd (rd_load Try.underlying2 rfl rfl (ld_rowN 2 rfl (get_intL (castL_at (by omega)))))) ?_
        refine ga_firstY 14 (bm 16 32767) rfl rfl rfl rfl rfl rfl (by kernel_rfl) (by kernel_rfl) ⟨[0, 1, 2], by decide, rfl⟩ (qt_rd (rd_lss rfl rfl)) (gk_dec (fun h129 => ?_) (fun h129 => ?_))
        · have := early_law hch hsf (i := k) (by omega); omega
        refine ga_first 15 (bm 16 65535) rfl rfl rfl rfl (by kernel_rfl) (by kernel_rfl) ⟨[0, 1, 2], by decide, rfl⟩ (qt_rd (rd_pick_f rfl rfl)) ?_
        refine ga_end (by kernel_rfl) (.inr ⟨[0, 1, 2], by decide, rfl⟩) ?_
        refine gx_then <| gc_cond_f rfl <| gc_skip <| gx_block <| gx_then <| gc_region <| gl_op <| op_rd rfl (rd_move rfl) <| gl_op (op_rd rfl (by exact rd_addN (b := 1) rfl rfl (by omega)) ?_)
        refine gl_op <| op_rd rfl (rd_assign rfl) <| gl_nil <| gx_then ?_
        exact gx_cut (k + 1) ⟨by omega, by omega⟩ ⟨rfl, rfl, rfl, rfl, rfl, rfl, rfl, rfl, rfl, trivial⟩ ⟨[0, 1, 2], by decide, rfl⟩
      exact absurd rfl h108
    refine gl_op <| op_rd rfl (rd_move rfl) <| gl_no rfl rfl rfl <| gl_no rfl rfl rfl <| gl_op <| op_rd rfl (rd_pick_f rfl rfl) <| gl_op <| op_rd rfl (rd_move rfl) <| gl_no rfl rfl rfl <| gl_op <| op_rd rfl (rd_pick_f rfl rfl) <| gl_nil <| gx_then <| gc_cond_f rfl <| gc_exit <| gx_then_exit <| gx_then_exit <| gx_block_exit <| gx_then <| gc_seq <| gc_seq <| gc_region <| gl_op <| op_rd rfl (rd_move rfl) <| gl_op <| op_rd rfl (rd_lenSlice Try.underlying22 rfl) <| gl_op (op_rd rfl (rd_eql rfl rfl) (gk_dec (fun h133 => ?_) (fun h133 => ?_)))
    · refine gl_nil <| gx_then <| gc_cond_t rfl <| gc_seq <| gc_region <| gl_op (op_call rfl (vf := []) (vc := []) rfl rfl Try.call9 (fun w1 ho => shown_ok w1) ?_)
      rintro _ _ ⟨rfl, rfl⟩
      refine gl_op <| op_rd rfl (rd_assign rfl) <| gl_nil <| gx_then <| gc_ret <| gx_then_ret <| gx_ret1 (.inl rfl) Try.results7 rfl [] (by decide) ?_
      exact ⟨rfl, rfl⟩
    rw [← hnl]
    refine gl_nil <| gx_then <| gc_cond_f rfl <| gc_skip <| gx_then <| gc_seq <| gc_region <| gl_op <| op_rd rfl (rd_move rfl) <| gl_op (op_rd rfl (rd_conv Try.runUnderlying5 Try.runUnderlying3 rfl (wrap64_ok (by omega) (by omega))) ?_)
    refine gl_op <| op_rd rfl (rd_move rfl) <| gl_op <| op_rd rfl (rd_lenSlice Try.underlying22 rfl) ?_
    have hk9 := Nat.mod_lt kd (show 0 < (nOf l).length by omega)
    refine gl_op (op_rd rfl (by exact rd_remN rfl rfl (by omega)) ?_)
    refine gl_op <| op_rd rfl (rd_assign rfl) <| gl_nil <| gx_then <| gc_seq <| gc_region <| gl_op (op_buildSlice (sz := 1) rfl rfl (fun _ => bs_25_0_) rfl rfl (fun b140 => ?_))
    refine gl_op <| op_rd rfl (rd_move rfl) <| gl_op (op_appendMem 0 (fun w ho => ho.rowSl 3 rfl) Try.underlying25 ty_2 rfl (by decide) rfl rfl rfl rfl (fun u hu => (by obtain ⟨x, _, rfl⟩ := List.mem_map.1 hu; rfl)) (by rw [castL_len, earlC_len]; omega) (by rw [castL_len, earlC_len]; omega) (fun _ => (by rfl)) (fun r142 c142 => ?_))
    simp only [Nat.zero_add, List.nil_append]
    refine gl_op <| op_rd rfl (rd_assign rfl) <| gl_nil <| gx_then <| gc_seq ?_
    obtain ⟨k9, hk99⟩ : ∃ k9, kd % (nOf l).length = k9 := ⟨_, rfl⟩
    rw [hk99] at hk9 ⊢
    rw [cast_int (earlC (nOf l)), castL_len (earlC (nOf l)), hecl]
    have hk8 := earlC_bd hg k9
    refine gc_region <| gl_op <| op_rd rfl (rd_move rfl) <| gl_op <| op_rd rfl (rd_move rfl) <| gl_op (op_rd rfl (rd_indexRow1 0 rfl Try.underlying25 ty_2 rfl rfl (by omega) (by omega)) ?_)
    refine gl_op (op_rd rfl (rd_load Try.underlying2 rfl rfl (ld_rowN 0 rfl (get_natL (p := k9) (by omega)))) ?_)
    refine gl_op (op_rd rfl (by exact rd_addN (b := 1) rfl rfl (by omega)) ?_)
    refine gl_op (op_rd rfl (rd_indexRow1 0 rfl Try.underlying25 ty_2 rfl rfl (by omega) (by omega)) ?_)
    refine gl_op (op_storeRowE 0 ty_2 rfl rfl rfl rfl (by rw [List.length_map]; omega) (show (List.map natV (earlC (nOf l))).set k9 (natV ((earlC (nOf l)).getD k9 0 + 1)) = (lteR (nOf l) (lateB (earlC (nOf l)) k9) 0).map natV from set_natL _ k9 _) (by rfl) ?_)
    refine gl_nil <| gx_then <| gc_seq <| gc_seq <| gc_region <| gl_op <| op_rd rfl (rd_assign rfl) <| gl_nil <| gx_then <| gc_block <| gc_loopF (ι := Nat) [(0, _), (9, _), (10, _), (18, _), (19, _)] [_, _, _] (fun r => r ≤ (nOf l).length) (fun r Fr0 => ((20, natV r) :: Fr0)) (fun r Fr0 => (.row 2 1 r142 (nOf l).length c142 ((lteR (nOf l) (lateB (earlC (nOf l)) k9) r).map natV) :: Fr0)) (fun r => (nOf l).length - r) 0 (Nat.zero_le _) ⟨rfl, rfl, rfl, rfl, rfl, rfl, trivial⟩ ⟨[0, 1, 2, 3], by decide, rfl⟩ ?_
    rintro r hr9
    refine gc_seq <| gc_seq <| gc_region <| gl_op <| op_rd rfl (rd_move rfl) <| gl_op <| op_rd rfl (rd_move rfl) <| gl_op <| op_rd rfl (rd_lenSlice Try.underlying22 rfl) <| gl_op (op_rd rfl (rd_lss rfl rfl) (gk_dec (fun h152 => ?_) (fun h152 => ?_)))
    · refine gl_nil <| gx_then <| gc_cond_t rfl <| gc_skip <| gx_then <| gc_seq <| gc_block <| gc_seq <| gc_region <| gl_op <| op_rd rfl (rd_assign rfl) <| gl_nil <| gx_then <| gc_block <| gc_loopF (ι := Nat) [(0, _), (9, _), (10, _), (18, _), (19, _), (20, _)] [_, _, _] (fun i => i ≤ (nOf l).length) (fun i Fr0 => ((21, natV i) :: Fr0)) (fun i Fr0 => (.row 2 1 r142 (nOf l).length c142 ((lteC (nOf l) (lateB (earlC (nOf l)) k9) r i).map natV) :: Fr0)) (fun i => (nOf l).length - i) 0 (Nat.zero_le _) ⟨rfl, rfl, rfl, rfl, rfl, rfl, rfl, trivial⟩ ⟨[0, 1, 2, 3], by decide, rfl⟩ ?_
      rintro i hi9
      refine gc_seq <| gc_seq <| gc_region <| gl_op <| op_rd rfl (rd_move rfl) <| gl_op <| op_rd rfl (rd_move rfl) <| gl_op <| op_rd rfl (rd_lenSlice Try.underlying22 rfl) <| gl_op (op_rd rfl (rd_lss rfl rfl) (gk_dec (fun h158 => ?_) (fun h158 => ?_)))
      · obtain ⟨x, hx⟩ := get_some (show i < (nOf l).length by omega)
        have hxl := hj.lags x (List.mem_of_getElem? hx)
        have hcln := lteC_len (nOf l) (lateB (earlC (nOf l)) k9) r i
        rw [late_len] at hcln
        rw [← lteJ_zero (l := nOf l) (i := i) (show i < (lteC (nOf l) (lateB (earlC (nOf l)) k9) r i).length by omega)]
        refine gl_nil <| gx_then <| gc_cond_t rfl <| gc_skip <| gx_then <| gc_seq <| gc_block <| gc_seq <| gc_region <| gl_op <| op_rd rfl (rd_assign rfl) <| gl_nil <| gx_then <| gc_block <| gc_loopF (ι := Nat) [(0, _), (9, _), (10, _), (18, _), (19, _), (20, _), (21, _)] [_, _, _] (fun j => j ≤ x.after.length) (fun j Fr0 => ((22, natV j) :: Fr0)) (fun j Fr0 => (.row 2 1 r142 (nOf l).length c142 ((lteJ (nOf l) (lteC (nOf l) (lateB (earlC (nOf l)) k9) r i) i j).map natV) :: Fr0)) (fun j => x.after.length - j) 0 (Nat.zero_le _) ⟨rfl, rfl, rfl, rfl, rfl, rfl, rfl, rfl, trivial⟩ ⟨[0, 1, 2, 3], by decide, rfl⟩ ?_
        rintro j hj9
        refine gc_seq <| gc_seq <| gc_region <| gl_op <| op_rd rfl (rd_move rfl) <| gl_op <| op_rd rfl (rd_move rfl) <| gl_op <| op_rd rfl (rd_move rfl) <| gl_op (op_rd rfl (rd_indexOld hN.t Try.underlying22 ty_48 rfl rfl (by omega) (by omega)) ?_)
        refine gl_op <| op_rd rfl (rd_fieldAddr rfl (fa_48_3 _)) <| gl_op (op_rd rfl (rd_load Try.underlying46 rfl rfl (ld_slf hN.t (get_flat Jb.cells 4 (fun _ => rfl) hx (j := 3) (by decide) rfl))) ?_)
        refine gl_op <| op_rd rfl (rd_lenSlice Try.underlying46 rfl) <| gl_op (op_rd rfl (rd_lss rfl rfl) (gk_dec (fun h168 => ?_) (fun h168 => ?_)))
        · obtain ⟨y, hy⟩ := get_some (show j < x.after.length by omega)
          have hyl := lag_lt hj hx hy
          obtain ⟨z, hz⟩ := get_some (show y.1 < (nOf l).length by omega)
          have hzh := job_le hj hz
          have hjl := lteJ_len (nOf l) (lteC (nOf l) (lateB (earlC (nOf l)) k9) r i) i j
          have hcb := fun q => lteC_bd hj (show (nOf l).length ≤ 9 by omega) (late_bd hg k9) (show r ≤ 9 by omega) (show i ≤ 9 by omega) q
          have hj1 := lteJ_bd hj hcb i j i
          have hj2 := lteJ_bd hj hcb i j y.1
          refine gl_nil <| gx_then <| gc_cond_t rfl <| gc_skip <| gx_then <| gc_seq <| gc_block <| gc_seq <| gc_region <| gl_op <| op_rd rfl (rd_move rfl) <| gl_op <| op_rd rfl (rd_move rfl) <| gl_op (op_rd rfl (rd_indexOld hN.t Try.underlying22 ty_48 rfl rfl (by omega) (by omega)) ?_)
          refine gl_op <| op_rd rfl (rd_fieldAddr rfl (fa_48_3 _)) <| gl_op (op_rd rfl (rd_load Try.underlying46 rfl rfl (ld_slf hN.t (get_flat Jb.cells 4 (fun _ => rfl) hx (j := 3) (by decide) rfl))) ?_)
          refine gl_op <| op_rd rfl (rd_move rfl) <| gl_op (op_rd rfl (rd_indexOld (hN.r x (List.mem_of_getElem? hx)) Try.underlying46 ty_50 rfl rfl (by omega) (by omega)) ?_)
          refine gl_op (op_rd rfl (rd_loadAgg Try.underlying50 rfl ty_50 rfl (cs_slN (hN.r x (List.mem_of_getElem? hx)) (flat_drop_get lagN 2 (fun _ => rfl) hy)) rfl) ?_)
          refine gl_op (op_alloc ty_50 rfl rfl (fun b23 => ?_))
          refine gl_op (op_storeAgg 0 ty_50 rfl rfl rfl rfl rfl rfl (by rfl) ?_)
          refine gl_nil <| gx_then <| gc_drawP [0, 1, 2, 3, 4] false 23 rfl <| ga_first 0 (bm 24 1) rfl rfl rfl rfl (by kernel_rfl) (by kernel_rfl) ⟨[0, 1, 2, 3, 4], by decide, rfl⟩ (qt_rd (rd_move rfl)) ?_
          refine ga_first 1 (bm 24 3) rfl rfl rfl rfl (by kernel_rfl) (by kernel_rfl) ⟨[0, 1, 2, 3, 4], by decide, rfl⟩ (qt_rd (rd_move rfl)) ?_
          refine ga_first 2 (bm 24 7) rfl rfl rfl rfl (by kernel_rfl) (by kernel_rfl) ⟨[0, 1, 2, 3, 4], by decide, rfl⟩ (qt_rd (rd_move rfl)) ?_
          refine ga_first 3 (bm 24 15) rfl rfl rfl rfl (by kernel_rfl) (by kernel_rfl) ⟨[0, 1, 2, 3, 4], by decide, rfl⟩ (qt_rd (rd_move rfl)) ?_
          refine ga_first 4 (bm 24 31) rfl rfl rfl rfl (by kernel_rfl) (by kernel_rfl) ⟨[0, 1, 2, 3, 4], by decide, rfl⟩ (qt_rd (rd_indexRow1 1 rfl Try.underlying25 ty_2 rfl rfl (by omega) (by omega))) ?_
          refine ga_first 5 (bm 24 63) rfl rfl rfl rfl (by kernel_rfl) (by kernel_rfl) ⟨[0, 1, 2, 3, 4], by decide, rfl⟩ (qt_rd (rd_load Try.underlying2 rfl rfl (ld_row 1 rfl (get_natL (p := i) (by omega))))) ?_
          refine ga_first 6 (bm 24 127) rfl rfl rfl rfl (by kernel_rfl) (by kernel_rfl) ⟨[0, 1, 2, 3, 4], by decide, rfl⟩ (qt_rd (rd_move rfl)) ?_
          refine ga_first 7 (bm 24 255) rfl rfl rfl rfl (by kernel_rfl) (by kernel_rfl) ⟨[0, 1, 2, 3, 4], by decide, rfl⟩ (qt_rd (rd_fieldAddr rfl (fa_50_0 _))) ?_
          refine ga_first 8 (bm 24 511) rfl rfl rfl rfl (by kernel_rfl) (by kernel_rfl) ⟨[0, 1, 2, 3, 4], by decide, rfl⟩ (qt_rd (rd_load Try.underlying3 rfl rfl (by exact ld_blk 0 rfl rfl))) ?_
          refine ga_first 9 (bm 24 1023) rfl rfl rfl rfl (by kernel_rfl) (by kernel_rfl) ⟨[0, 1, 2, 3, 4], by decide, rfl⟩ (qt_rd (rd_indexRow1 1 rfl Try.underlying25 ty_2 rfl rfl (by omega) (by omega))) ?_
          refine ga_first 10 (bm 24 2047) rfl rfl rfl rfl (by kernel_rfl) (by kernel_rfl) ⟨[0, 1, 2, 3, 4], by decide, rfl⟩ (qt_rd (rd_load Try.underlying2 rfl rfl (ld_row 1 rfl (get_natL (p := y.1) (by omega))))) ?_
          refine ga_first 11 (bm 24 4095) rfl rfl rfl rfl (by kernel_rfl) (by kernel_rfl) ⟨[0, 1, 2, 3, 4], by decide, rfl⟩ (qt_rd (rd_move rfl)) ?_
          refine ga_first 12 (bm 24 8191) rfl rfl rfl rfl (by kernel_rfl) (by kernel_rfl) ⟨[0, 1, 2, 3, 4], by decide, rfl⟩ (qt_rd (rd_fieldAddr rfl (fa_50_0 _))) ?_
          refine ga_first 13 (bm 24 16383) rfl rfl rfl rfl (by kernel_rfl) (by kernel_rfl) ⟨[0, 1, 2, 3, 4], by decide, rfl⟩ (qt_rd (rd_load Try.underlying3 rfl rfl (by exact ld_blk 0 rfl rfl))) ?_
          refine ga_first 14 (bm 24 32767) rfl rfl rfl rfl (by kernel_rfl) (by kernel_rfl) ⟨[0, 1, 2, 3, 4], by decide, rfl⟩ (qt_rd (rd_indexOld hN.t Try.underlying22 ty_48 rfl rfl (by omega) (by omega))) ?_
          refine ga_first 15 (bm 24 65535) rfl rfl rfl rfl (by kernel_rfl) (by kernel_rfl) ⟨[0, 1, 2, 3, 4], by decide, rfl⟩ (qt_rd (rd_fieldAddr rfl (fa_48_2 _))) ?_
          refine ga_first 16 (bm 24 131071) rfl rfl rfl rfl (by kernel_rfl) (by kernel_rfl) ⟨[0, 1, 2, 3, 4], by decide, rfl⟩ (qt_rd (rd_load Try.underlying2 rfl rfl (ld_slf hN.t (get_flat Jb.cells 4 (fun _ => rfl) hz (j := 2) (by decide) rfl)))) ?_
          refine ga_first 17 (bm 24 262143) rfl rfl rfl rfl (by kernel_rfl) (by kernel_rfl) ⟨[0, 1, 2, 3, 4], by decide, rfl⟩ (qt_rd (by exact rd_addN rfl rfl (by omega))) ?_
          refine ga_first 18 (bm 24 524287) rfl rfl rfl rfl (by kernel_rfl) (by kernel_rfl) ⟨[0, 1, 2, 3, 4], by decide, rfl⟩ (qt_rd (rd_fieldAddr rfl (fa_50_1 _))) ?_
          refine ga_first 19 (bm 24 1048575) rfl rfl rfl rfl (by kernel_rfl) (by kernel_rfl) ⟨[0, 1, 2, 3, 4], by decide, rfl⟩ (qt_rd (rd_load Try.underlying2 rfl rfl (by exact ld_blk 0 rfl rfl))) ?_
          refine ga_first 20 (bm 24 2097151) rfl rfl rfl rfl (by kernel_rfl) (by kernel_rfl) ⟨[0, 1, 2, 3, 4], by decide, rfl⟩ (qt_rd (by exact rd_addN rfl rfl (by omega))) ?_
          refine ga_first 21 (bm 24 4194303) rfl rfl rfl rfl (by kernel_rfl) (by kernel_rfl) ⟨[0, 1, 2, 3, 4], by decide, rfl⟩ (qt_rd (rd_max2 rfl rfl)) ?_
          refine ga_first 22 (bm 24 8388607) rfl rfl rfl rfl (by kernel_rfl) (by kernel_rfl) ⟨[0, 1, 2, 3, 4], by decide, rfl⟩ (qt_rd (rd_indexRow1 1 rfl Try.underlying25 ty_2 rfl rfl (by omega) (by omega))) ?_
          refine ga_only 23 (bm 24 16777215) rfl rfl (by kernel_rfl) (by kernel_rfl) (.inr ⟨[0, 1, 2, 3, 4], by decide, rfl⟩) (op_storeRowE 1 ty_2 rfl rfl rfl rfl (by rw [List.length_map]; omega) (lteJ_st (by omega) hx hy hz hyl.2.1) (by rfl) ?_)
          refine ga_end (by kernel_rfl) (.inl (by kernel_rfl)) ?_
          refine gx_block <| gx_then <| gc_region <| gl_op <| op_rd rfl (rd_move rfl) <| gl_op (op_rd rfl (by exact rd_addN (b := 1) rfl rfl (by omega)) ?_)
          refine gl_op <| op_rd rfl (rd_assign rfl) <| gl_nil <| gx_then ?_
          exact gx_cut (j + 1) ⟨by omega, by omega⟩ ⟨rfl, rfl, rfl, rfl, rfl, rfl, rfl, rfl, trivial⟩ ⟨[1, 2, 3, 4], by decide, rfl⟩
        rw [lteJ_all hx (by omega), ← lteC_next]
        refine gl_nil <| gx_then <| gc_cond_f rfl <| gc_exit <| gx_then_exit <| gx_then_exit <| gx_block_exit <| gx_block <| gx_then <| gc_region <| gl_op <| op_rd rfl (rd_move rfl) <| gl_op (op_rd rfl (by exact rd_addN (b := 1) rfl rfl (by omega)) ?_)
        refine gl_op <| op_rd rfl (rd_assign rfl) <| gl_nil <| gx_then ?_
        exact gx_cut (i + 1) ⟨by omega, by omega⟩ ⟨rfl, rfl, rfl, rfl, rfl, rfl, rfl, trivial⟩ ⟨[0, 1, 2, 3], by decide, rfl⟩
      have hi8 : i = (nOf l).length := by omega
      rw [hi8, lteC_all]
      refine gl_nil <| gx_then <| gc_cond_f rfl <| gc_exit <| gx_then_exit <| gx_then_exit <| gx_block_exit <| gx_block <| gx_then <| gc_region <| gl_op <| op_rd rfl (rd_move rfl) <| gl_op (op_rd rfl (by exact rd_addN (b := 1) rfl rfl (by omega)) ?_)
      refine gl_op <| op_rd rfl (rd_assign rfl) <| gl_nil <| gx_then ?_
      exact gx_cut (r + 1) ⟨by omega, by omega⟩ ⟨rfl, rfl, rfl, rfl, rfl, rfl, trivial⟩ ⟨[0, 1, 2, 3], by decide, rfl⟩
    have hr8 : r = (nOf l).length := by omega
    rw [hr8, show lteR (nOf l) (lateB (earlC (nOf l)) k9) (nOf l).length = lateF (nOf l) (earlC (nOf l)) k9 from rfl]
    have hll : (lateF (nOf l) (earlC (nOf l)) k9).length = (nOf l).length := by unfold lateF; rw [lteR_len, late_len]
    have hlb : ∀ t ∈ lateF (nOf l) (earlC (nOf l)) k9, t ≤ 1000000 := late_all hg (by omega) k9
    refine gl_nil <| gx_then <| gc_cond_f rfl <| gc_exit <| gx_then_exit <| gx_then_exit <| gx_block_exit <| gx_then <| gc_seq ?_
    rw [castL_len (critC (nOf l)), cast_int (critC (nOf l))]
    refine gc_region <| gl_op <| op_rd rfl (rd_assign rfl) <| gl_nil <| gx_then <| gc_seq <| gc_seq <| gc_region <| gl_op <| op_rd rfl (rd_assign rfl) <| gl_nil <| gx_then <| gc_block <| gc_loopF (ι := Nat) [(0, _), (9, _), (10, _), (18, _), (19, _)] [_, _, _, _] (fun m => m ≤ (critC (nOf l)).length) (fun m Fr0 => ((24, .bool (anyK (critC (nOf l)) k9 m)) :: (25, natV m) :: Fr0)) (fun m Fr0 => Fr0) (fun m => (critC (nOf l)).length - m) 0 (Nat.zero_le _) ⟨rfl, rfl, rfl, rfl, rfl, rfl, rfl, trivial⟩ ⟨[0, 1, 2, 3], by decide, rfl⟩ ?_
    rintro m hm
    refine gc_seq <| gc_seq <| gc_region <| gl_op <| op_rd rfl (rd_move rfl) <| gl_op <| op_rd rfl (rd_move rfl) <| gl_op <| op_rd rfl (rd_lenSlice Try.underlying29 rfl) <| gl_op (op_rd rfl (rd_lss rfl rfl) (gk_dec (fun h205 => ?_) (fun h205 => ?_)))
    · obtain ⟨xm, hmx⟩ := get_some (show m < (critC (nOf l)).length by omega)
      refine gl_nil <| gx_then <| gc_cond_t rfl <| gc_skip <| gx_then <| gc_seq <| gc_block <| gc_region <| gl_op <| op_rd rfl (rd_move rfl) <| gl_op <| op_rd rfl (rd_move rfl) <| gk_bool (fun h209 => ?_) (fun h209 => ?_)
      · refine gl_no rfl rfl rfl <| gl_no rfl rfl rfl <| gl_no rfl rfl rfl <| gl_no rfl rfl rfl <| gl_no rfl rfl rfl <| gl_no rfl rfl rfl <| gl_op <| op_rd rfl (rd_pick_t rfl rfl) <| gl_op <| op_rd rfl (rd_assign rfl) <| gl_nil <| gx_block <| gx_then <| gc_region <| gl_op <| op_rd rfl (rd_move rfl) <| gl_op (op_rd rfl (by exact rd_addN (b := 1) rfl rfl (by omega)) ?_)
        refine gl_op <| op_rd rfl (rd_assign rfl) <| gl_nil <| gx_then ?_
        rw [show Value.bool true = .bool (anyK (critC (nOf l)) k9 (m + 1)) from congrArg Value.bool (anyK_yes h209).symm]
        exact gx_cut (m + 1) ⟨by omega, by omega⟩ ⟨rfl, rfl, rfl, rfl, rfl, rfl, rfl, trivial⟩ ⟨[0, 1, 2, 3], by decide, rfl⟩
      refine gl_yes rfl rfl <| op_rd rfl (rd_move rfl) <| gl_yes rfl rfl <| op_rd rfl (rd_move rfl) <| gl_yes rfl rfl (op_rd rfl (rd_indexRow1 2 rfl Try.underlying29 ty_3 rfl rfl (by omega) (by omega)) ?_)
      refine gl_yes rfl rfl <| op_rd rfl (rd_load Try.underlying3 rfl rfl (ld_rowN 2 rfl (get_nat hmx))) <| gl_yes rfl rfl <| op_rd rfl (rd_move rfl) <| gl_yes rfl rfl <| op_rd rfl (rd_eql rfl rfl) <| gl_op <| op_rd rfl (rd_pick_f rfl rfl) <| gl_op <| op_rd rfl (rd_assign rfl) <| gl_nil <| gx_block <| gx_then <| gc_region <| gl_op <| op_rd rfl (rd_move rfl) <| gl_op (op_rd rfl (by exact rd_addN (b := 1) rfl rfl (by omega)) ?_)
      refine gl_op <| op_rd rfl (rd_assign rfl) <| gl_nil <| gx_then ?_
      rw [show Value.bool (decide _) = .bool (anyK (critC (nOf l)) k9 (m + 1)) from congrArg Value.bool (by rw [anyK_next hmx h209, decide_eq_decide]; omega)]
      exact gx_cut (m + 1) ⟨by omega, by omega⟩ ⟨rfl, rfl, rfl, rfl, rfl, rfl, rfl, trivial⟩ ⟨[0, 1, 2, 3], by decide, rfl⟩
    have hm9 : m = (critC (nOf l)).length := by omega
    rw [hm9, anyK_all hg hk9]
    refine gl_nil <| gx_then <| gc_cond_f rfl <| gc_exit <| gx_then_exit <| gx_then_exit <| gx_block_exit <| gx_then <| gc_seq <| gc_region <| gl_op <| op_rd rfl (rd_move rfl) <| gl_op <| op_rd rfl (rd_move rfl) <| gl_op <| op_rd rfl (rd_move rfl) ?_
    refine gl_op (op_call rfl (vf := []) (vc := []) rfl rfl Try.call22 (fun w1 ho => by
      have h9 := rEnd_ok a c (nOf l) hg.ok (rowA r142) c142 (lateF (nOf l) (earlC (nOf l)) k9) hll hlb w1 (hN.at ho) (by rw [hll]; exact ho.rowSl 0 rfl)
      rw [hll] at h9
      exact h9) ?_)
    rintro _ _ ⟨rfl, rfl⟩
    refine gl_op <| op_rd rfl (rd_move rfl) <| gl_op <| op_rd rfl (rd_gtr rfl rfl) <| gl_op <| op_rd rfl (rd_eqlb Try.runUnderlying4 rfl rfl) ?_
    rw [beq_self_eq_true]
    refine gl_op <| op_rd rfl (rd_move rfl) <| gl_yes rfl rfl (op_call rfl (vf := []) (vc := []) rfl rfl Try.call9 (fun w1 ho => shown_ok w1) ?_)
    rintro _ _ ⟨rfl, rfl⟩
    refine gl_op <| op_rd rfl (rd_pick_t rfl rfl) <| gl_op <| op_rd rfl (rd_assign rfl) <| gl_nil <| gx_then <| gc_ret <| gx_ret1 (.inl rfl) Try.results7 rfl [] (by decide) ?_
    exact ⟨rfl, rfl⟩
  refine gc_region <| gl_op <| op_rd rfl (rd_move rfl) <| gl_op <| op_rd rfl (rd_move rfl) <| gl_op <| op_rd rfl (rd_move rfl) ?_
  refine gl_op (op_call rfl (vf := []) (vc := []) rfl rfl Try.call18 (fun w1 ho => by
    have h9 := Fits_ok a c l hle (rowA (some b56)) 6 [9, 9, 9, 9, 9, 9] (by decide) q cq ats hal w1 (hJ.at ho) (ho.rowSl 0 rfl) (hT.at ho)
    rw [hfv] at h9
    exact h9) ?_)
  rintro _ _ ⟨rfl, rfl⟩
  refine gl_op <| op_rd rfl (rd_move rfl) <| gl_op <| op_rd rfl (rd_extract rfl rfl) <| gl_op <| op_rd rfl (rd_extract rfl rfl) <| gl_op <| op_rd rfl (rd_extract rfl rfl) <| gl_op <| op_rd rfl (rd_assign rfl) <| gl_op <| op_rd rfl (rd_assign rfl) <| gl_op <| op_rd rfl (rd_assign rfl) <| gl_nil <| gx_then <| gc_seq <| gc_seq <| gc_region <| gl_op <| op_rd rfl (rd_assign rfl) <| gl_nil <| gx_then <| gc_block <| gc_loopF (ι := Nat) [(0, _), (1, _), (2, _), (7, _), (8, _), (9, _), (10, _), (15, _)] [_, _, _] (fun k => k ≤ l.length) (fun k Fr0 => ((17, natV k) :: Fr0)) (fun k Fr0 => Fr0) (fun k => l.length - k) 0 (Nat.zero_le _) ⟨rfl, rfl, rfl, rfl, rfl, rfl, rfl, rfl, rfl, trivial⟩ ⟨[0, 1, 2], by decide, rfl⟩ ?_
  rintro k hk
  refine gc_seq <| gc_seq <| gc_region <| gl_op <| op_rd rfl (rd_move rfl) <| gl_op <| op_rd rfl (rd_move rfl) <| gl_op <| op_rd rfl (rd_lenSlice Try.underlying22 rfl) <| gl_op (op_rd rfl (rd_lss rfl rfl) (gk_dec (fun h105 => ?_) (fun h105 => ?_)))
  · refine gl_op <| op_rd rfl (rd_move rfl) <| gl_yes rfl rfl <| op_rd rfl (rd_move rfl) <| gl_yes rfl rfl (op_rd rfl (rd_eql rfl rfl) (gk_dec (fun h108 => ?_) (fun h108 => ?_)))
    · refine gl_op <| op_rd rfl (rd_pick_t rfl rfl) <| gl_op <| op_rd rfl (rd_move rfl) <| gl_yes rfl rfl <| op_rd rfl (rd_move rfl) <| gl_op <| op_rd rfl (rd_pick_t rfl rfl) <| gl_nil <| gx_then <| gc_cond_f rfl <| gc_exit <| gx_then_exit <| gx_then_exit <| gx_block_exit <| gx_then <| gc_seq <| gc_seq <| gc_region <| gl_op <| op_rd rfl (rd_move rfl) <| gl_op <| op_rd rfl (rd_lenSlice Try.underlying22 rfl) <| gl_op (op_rd rfl (rd_eql rfl rfl) (gk_dec (fun h133 => ?_) (fun h133 => ?_)))
      · refine gl_nil <| gx_then <| gc_cond_t rfl <| gc_seq <| gc_region <| gl_op (op_call rfl (vf := []) (vc := []) rfl rfl Try.call9 (fun w1 ho => shown_ok w1) ?_)
        rintro _ _ ⟨rfl, rfl⟩
        refine gl_op <| op_rd rfl (rd_assign rfl) <| gl_nil <| gx_then <| gc_ret <| gx_then_ret <| gx_ret1 (.inl rfl) Try.results7 rfl [] (by decide) ?_
        exact ⟨rfl, rfl⟩
      rw [← hnl]
      refine gl_nil <| gx_then <| gc_cond_f rfl <| gc_skip <| gx_then <| gc_seq <| gc_region <| gl_op <| op_rd rfl (rd_move rfl) <| gl_op (op_rd rfl (rd_conv Try.runUnderlying5 Try.runUnderlying3 rfl (wrap64_ok (by omega) (by omega))) ?_)
      refine gl_op <| op_rd rfl (rd_move rfl) <| gl_op <| op_rd rfl (rd_lenSlice Try.underlying22 rfl) ?_
      have hk9 := Nat.mod_lt kd (show 0 < (nOf l).length by omega)
      refine gl_op (op_rd rfl (by exact rd_remN rfl rfl (by omega)) ?_)
      refine gl_op <| op_rd rfl (rd_assign rfl) <| gl_nil <| gx_then <| gc_seq <| gc_region <| gl_op (op_buildSlice (sz := 1) rfl rfl (fun _ => bs_25_0_) rfl rfl (fun b140 => ?_))
      refine gl_op <| op_rd rfl (rd_move rfl) <| gl_op (op_appendMem 0 (fun w ho => ho.rowSl 3 rfl) Try.underlying25 ty_2 rfl (by decide) rfl rfl rfl rfl (fun u hu => (by obtain ⟨x, _, rfl⟩ := List.mem_map.1 hu; rfl)) (by rw [castL_len, earlC_len]; omega) (by rw [castL_len, earlC_len]; omega) (fun _ => (by rfl)) (fun r142 c142 => ?_))
      simp only [Nat.zero_add, List.nil_append]
      refine gl_op <| op_rd rfl (rd_assign rfl) <| gl_nil <| gx_then <| gc_seq ?_
      obtain ⟨k9, hk99⟩ : ∃ k9, kd % (nOf l).length = k9 := ⟨_, rfl⟩
      rw [hk99] at hk9 ⊢
      rw [cast_int (earlC (nOf l)), castL_len (earlC (nOf l)), hecl]
      have hk8 := earlC_bd hg k9
      refine gc_region <| gl_op <| op_rd rfl (rd_move rfl) <| gl_op <| op_rd rfl (rd_move rfl) <| gl_op (op_rd rfl (rd_indexRow1 0 rfl Try.underlying25 ty_2 rfl rfl (by omega) (by omega)) ?_)
      refine gl_op (op_rd rfl (rd_load Try.underlying2 rfl rfl (ld_rowN 0 rfl (get_natL (p := k9) (by omega)))) ?_)
      refine gl_op (op_rd rfl (by exact rd_addN (b := 1) rfl rfl (by omega)) ?_)
      refine gl_op (op_rd rfl (rd_indexRow1 0 rfl Try.underlying25 ty_2 rfl rfl (by omega) (by omega)) ?_)
      refine gl_op (op_storeRowE 0 ty_2 rfl rfl rfl rfl (by rw [List.length_map]; omega) (show (List.map natV (earlC (nOf l))).set k9 (natV ((earlC (nOf l)).getD k9 0 + 1)) = (lteR (nOf l) (lateB (earlC (nOf l)) k9) 0).map natV from set_natL _ k9 _) (by rfl) ?_)
      refine gl_nil <| gx_then <| gc_seq <| gc_seq <| gc_region <| gl_op <| op_rd rfl (rd_assign rfl) <| gl_nil <| gx_then <| gc_block <| gc_loopF (ι := Nat) [(0, _), (9, _), (10, _), (18, _), (19, _)] [_, _, _] (fun r => r ≤ (nOf l).length) (fun r Fr0 => ((20, natV r) :: Fr0)) (fun r Fr0 => (.row 2 1 r142 (nOf l).length c142 ((lteR (nOf l) (lateB (earlC (nOf l)) k9) r).map natV) :: Fr0)) (fun r => (nOf l).length - r) 0 (Nat.zero_le _) ⟨rfl, rfl, rfl, rfl, rfl, rfl, trivial⟩ ⟨[0, 1, 2, 3], by decide, rfl⟩ ?_
      rintro r hr9
      refine gc_seq <| gc_seq <| gc_region <| gl_op <| op_rd rfl (rd_move rfl) <| gl_op <| op_rd rfl (rd_move rfl) <| gl_op <| op_rd rfl (rd_lenSlice Try.underlying22 rfl) <| gl_op (op_rd rfl (rd_lss rfl rfl) (gk_dec (fun h152 => ?_) (fun h152 => ?_)))
      · refine gl_nil <| gx_then <| gc_cond_t rfl <| gc_skip <| gx_then <| gc_seq <| gc_block <| gc_seq <| gc_region <| gl_op <| op_rd rfl (rd_assign rfl) <| gl_nil <| gx_then <| gc_block <| gc_loopF (ι := Nat) [(0, _), (9, _), (10, _), (18, _), (19, _), (20, _)] [_, _, _] (fun i => i ≤ (nOf l).length) (fun i Fr0 => ((21, natV i) :: Fr0)) (fun i Fr0 => (.row 2 1 r142 (nOf l).length c142 ((lteC (nOf l) (lateB (earlC (nOf l)) k9) r i).map natV) :: Fr0)) (fun i => (nOf l).length - i) 0 (Nat.zero_le _) ⟨rfl, rfl, rfl, rfl, rfl, rfl, rfl, trivial⟩ ⟨[0, 1, 2, 3], by decide, rfl⟩ ?_
        rintro i hi9
        refine gc_seq <| gc_seq <| gc_region <| gl_op <| op_rd rfl (rd_move rfl) <| gl_op <| op_rd rfl (rd_move rfl) <| gl_op <| op_rd rfl (rd_lenSlice Try.underlying22 rfl) <| gl_op (op_rd rfl (rd_lss rfl rfl) (gk_dec (fun h158 => ?_) (fun h158 => ?_)))
        · obtain ⟨x, hx⟩ := get_some (show i < (nOf l).length by omega)
          have hxl := hj.lags x (List.mem_of_getElem? hx)
          have hcln := lteC_len (nOf l) (lateB (earlC (nOf l)) k9) r i
          rw [late_len] at hcln
          rw [← lteJ_zero (l := nOf l) (i := i) (show i < (lteC (nOf l) (lateB (earlC (nOf l)) k9) r i).length by omega)]
          refine gl_nil <| gx_then <| gc_cond_t rfl <| gc_skip <| gx_then <| gc_seq <| gc_block <| gc_seq <| gc_region <| gl_op <| op_rd rfl (rd_assign rfl) <| gl_nil <| gx_then <| gc_block <| gc_loopF (ι := Nat) [(0, _), (9, _), (10, _), (18, _), (19, _), (20, _), (21, _)] [_, _, _] (fun j => j ≤ x.after.length) (fun j Fr0 => ((22, natV j) :: Fr0)) (fun j Fr0 => (.row 2 1 r142 (nOf l).length c142 ((lteJ (nOf l) (lteC (nOf l) (lateB (earlC (nOf l)) k9) r i) i j).map natV) :: Fr0)) (fun j => x.after.length - j) 0 (Nat.zero_le _) ⟨rfl, rfl, rfl, rfl, rfl, rfl, rfl, rfl, trivial⟩ ⟨[0, 1, 2, 3], by decide, rfl⟩ ?_
          rintro j hj9
          refine gc_seq <| gc_seq <| gc_region <| gl_op <| op_rd rfl (rd_move rfl) <| gl_op <| op_rd rfl (rd_move rfl) <| gl_op <| op_rd rfl (rd_move rfl) <| gl_op (op_rd rfl (rd_indexOld hN.t Try.underlying22 ty_48 rfl rfl (by omega) (by omega)) ?_)
          refine gl_op <| op_rd rfl (rd_fieldAddr rfl (fa_48_3 _)) <| gl_op (op_rd rfl (rd_load Try.underlying46 rfl rfl (ld_slf hN.t (get_flat Jb.cells 4 (fun _ => rfl) hx (j := 3) (by decide) rfl))) ?_)
          refine gl_op <| op_rd rfl (rd_lenSlice Try.underlying46 rfl) <| gl_op (op_rd rfl (rd_lss rfl rfl) (gk_dec (fun h168 => ?_) (fun h168 => ?_)))
          · obtain ⟨y, hy⟩ := get_some (show j < x.after.length by omega)
            have hyl := lag_lt hj hx hy
            obtain ⟨z, hz⟩ := get_some (show y.1 < (nOf l).length by omega)
            have hzh := job_le hj hz
            have hjl := lteJ_len (nOf l) (lteC (nOf l) (lateB (earlC (nOf l)) k9) r i) i j
            have hcb := fun q => lteC_bd hj (show (nOf l).length ≤ 9 by omega) (late_bd hg k9) (show r ≤ 9 by omega) (show i ≤ 9 by omega) q
            have hj1 := lteJ_bd hj hcb i j i
            have hj2 := lteJ_bd hj hcb i j y.1
            refine gl_nil <| gx_then <| gc_cond_t rfl <| gc_skip <| gx_then <| gc_seq <| gc_block <| gc_seq <| gc_region <| gl_op <| op_rd rfl (rd_move rfl) <| gl_op <| op_rd rfl (rd_move rfl) <| gl_op (op_rd rfl (rd_indexOld hN.t Try.underlying22 ty_48 rfl rfl (by omega) (by omega)) ?_)
            refine gl_op <| op_rd rfl (rd_fieldAddr rfl (fa_48_3 _)) <| gl_op (op_rd rfl (rd_load Try.underlying46 rfl rfl (ld_slf hN.t (get_flat Jb.cells 4 (fun _ => rfl) hx (j := 3) (by decide) rfl))) ?_)
            refine gl_op <| op_rd rfl (rd_move rfl) <| gl_op (op_rd rfl (rd_indexOld (hN.r x (List.mem_of_getElem? hx)) Try.underlying46 ty_50 rfl rfl (by omega) (by omega)) ?_)
            refine gl_op (op_rd rfl (rd_loadAgg Try.underlying50 rfl ty_50 rfl (cs_slN (hN.r x (List.mem_of_getElem? hx)) (flat_drop_get lagN 2 (fun _ => rfl) hy)) rfl) ?_)
            refine gl_op (op_alloc ty_50 rfl rfl (fun b23 => ?_))
            refine gl_op (op_storeAgg 0 ty_50 rfl rfl rfl rfl rfl rfl (by rfl) ?_)
            refine gl_nil <| gx_then <| gc_drawP [0, 1, 2, 3, 4] false 23 rfl <| ga_first 0 (bm 24 1) rfl rfl rfl rfl (by kernel_rfl) (by kernel_rfl) ⟨[0, 1, 2, 3, 4], by decide, rfl⟩ (qt_rd (rd_move rfl)) ?_
            refine ga_first 1 (bm 24 3) rfl rfl rfl rfl (by kernel_rfl) (by kernel_rfl) ⟨[0, 1, 2, 3, 4], by decide, rfl⟩ (qt_rd (rd_move rfl)) ?_
            refine ga_first 2 (bm 24 7) rfl rfl rfl rfl (by kernel_rfl) (by kernel_rfl) ⟨[0, 1, 2, 3, 4], by decide, rfl⟩ (qt_rd (rd_move rfl)) ?_
            refine ga_first 3 (bm 24 15) rfl rfl rfl rfl (by kernel_rfl) (by kernel_rfl) ⟨[0, 1, 2, 3, 4], by decide, rfl⟩ (qt_rd (rd_move rfl)) ?_
            refine ga_first 4 (bm 24 31) rfl rfl rfl rfl (by kernel_rfl) (by kernel_rfl) ⟨[0, 1, 2, 3, 4], by decide, rfl⟩ (qt_rd (rd_indexRow1 1 rfl Try.underlying25 ty_2 rfl rfl (by omega) (by omega))) ?_
            refine ga_first 5 (bm 24 63) rfl rfl rfl rfl (by kernel_rfl) (by kernel_rfl) ⟨[0, 1, 2, 3, 4], by decide, rfl⟩ (qt_rd (rd_load Try.underlying2 rfl rfl (ld_row 1 rfl (get_natL (p := i) (by omega))))) ?_
            refine ga_first 6 (bm 24 127) rfl rfl rfl rfl (by kernel_rfl) (by kernel_rfl) ⟨[0, 1, 2, 3, 4], by decide, rfl⟩ (qt_rd (rd_move rfl)) ?_
            refine ga_first 7 (bm 24 255) rfl rfl rfl rfl (by kernel_rfl) (by kernel_rfl) ⟨[0, 1, 2, 3, 4], by decide, rfl⟩ (qt_rd (rd_fieldAddr rfl (fa_50_0 _))) ?_
            refine ga_first 8 (bm 24 511) rfl rfl rfl rfl (by kernel_rfl) (by kernel_rfl) ⟨[0, 1, 2, 3, 4], by decide, rfl⟩ (qt_rd (rd_load Try.underlying3 rfl rfl (by exact ld_blk 0 rfl rfl))) ?_
            refine ga_first 9 (bm 24 1023) rfl rfl rfl rfl (by kernel_rfl) (by kernel_rfl) ⟨[0, 1, 2, 3, 4], by decide, rfl⟩ (qt_rd (rd_indexRow1 1 rfl Try.underlying25 ty_2 rfl rfl (by omega) (by omega))) ?_
            refine ga_first 10 (bm 24 2047) rfl rfl rfl rfl (by kernel_rfl) (by kernel_rfl) ⟨[0, 1, 2, 3, 4], by decide, rfl⟩ (qt_rd (rd_load Try.underlying2 rfl rfl (ld_row 1 rfl (get_natL (p := y.1) (by omega))))) ?_
            refine ga_first 11 (bm 24 4095) rfl rfl rfl rfl (by kernel_rfl) (by kernel_rfl) ⟨[0, 1, 2, 3, 4], by decide, rfl⟩ (qt_rd (rd_move rfl)) ?_
            refine ga_first 12 (bm 24 8191) rfl rfl rfl rfl (by kernel_rfl) (by kernel_rfl) ⟨[0, 1, 2, 3, 4], by decide, rfl⟩ (qt_rd (rd_fieldAddr rfl (fa_50_0 _))) ?_
            refine ga_first 13 (bm 24 16383) rfl rfl rfl rfl (by kernel_rfl) (by kernel_rfl) ⟨[0, 1, 2, 3, 4], by decide, rfl⟩ (qt_rd (rd_load Try.underlying3 rfl rfl (by exact ld_blk 0 rfl rfl))) ?_
            refine ga_first 14 (bm 24 32767) rfl rfl rfl rfl (by kernel_rfl) (by kernel_rfl) ⟨[0, 1, 2, 3, 4], by decide, rfl⟩ (qt_rd (rd_indexOld hN.t Try.underlying22 ty_48 rfl rfl (by omega) (by omega))) ?_
            refine ga_first 15 (bm 24 65535) rfl rfl rfl rfl (by kernel_rfl) (by kernel_rfl) ⟨[0, 1, 2, 3, 4], by decide, rfl⟩ (qt_rd (rd_fieldAddr rfl (fa_48_2 _))) ?_
            refine ga_first 16 (bm 24 131071) rfl rfl rfl rfl (by kernel_rfl) (by kernel_rfl) ⟨[0, 1, 2, 3, 4], by decide, rfl⟩ (qt_rd (rd_load Try.underlying2 rfl rfl (ld_slf hN.t (get_flat Jb.cells 4 (fun _ => rfl) hz (j := 2) (by decide) rfl)))) ?_
            refine ga_first 17 (bm 24 262143) rfl rfl rfl rfl (by kernel_rfl) (by kernel_rfl) ⟨[0, 1, 2, 3, 4], by decide, rfl⟩ (qt_rd (by exact rd_addN rfl rfl (by omega))) ?_
            refine ga_first 18 (bm 24 524287) rfl rfl rfl rfl (by kernel_rfl) (by kernel_rfl) ⟨[0, 1, 2, 3, 4], by decide, rfl⟩ (qt_rd (rd_fieldAddr rfl (fa_50_1 _))) ?_
            refine ga_first 19 (bm 24 1048575) rfl rfl rfl rfl (by kernel_rfl) (by kernel_rfl) ⟨[0, 1, 2, 3, 4], by decide, rfl⟩ (qt_rd (rd_load Try.underlying2 rfl rfl (by exact ld_blk 0 rfl rfl))) ?_
            refine ga_first 20 (bm 24 2097151) rfl rfl rfl rfl (by kernel_rfl) (by kernel_rfl) ⟨[0, 1, 2, 3, 4], by decide, rfl⟩ (qt_rd (by exact rd_addN rfl rfl (by omega))) ?_
            refine ga_first 21 (bm 24 4194303) rfl rfl rfl rfl (by kernel_rfl) (by kernel_rfl) ⟨[0, 1, 2, 3, 4], by decide, rfl⟩ (qt_rd (rd_max2 rfl rfl)) ?_
            refine ga_first 22 (bm 24 8388607) rfl rfl rfl rfl (by kernel_rfl) (by kernel_rfl) ⟨[0, 1, 2, 3, 4], by decide, rfl⟩ (qt_rd (rd_indexRow1 1 rfl Try.underlying25 ty_2 rfl rfl (by omega) (by omega))) ?_
            refine ga_only 23 (bm 24 16777215) rfl rfl (by kernel_rfl) (by kernel_rfl) (.inr ⟨[0, 1, 2, 3, 4], by decide, rfl⟩) (op_storeRowE 1 ty_2 rfl rfl rfl rfl (by rw [List.length_map]; omega) (lteJ_st (by omega) hx hy hz hyl.2.1) (by rfl) ?_)
            refine ga_end (by kernel_rfl) (.inl (by kernel_rfl)) ?_
            refine gx_block <| gx_then <| gc_region <| gl_op <| op_rd rfl (rd_move rfl) <| gl_op (op_rd rfl (by exact rd_addN (b := 1) rfl rfl (by omega)) ?_)
            refine gl_op <| op_rd rfl (rd_assign rfl) <| gl_nil <| gx_then ?_
            exact gx_cut (j + 1) ⟨by omega, by omega⟩ ⟨rfl, rfl, rfl, rfl, rfl, rfl, rfl, rfl, trivial⟩ ⟨[1, 2, 3, 4], by decide, rfl⟩
          rw [lteJ_all hx (by omega), ← lteC_next]
          refine gl_nil <| gx_then <| gc_cond_f rfl <| gc_exit <| gx_then_exit <| gx_then_exit <| gx_block_exit <| gx_block <| gx_then <| gc_region <| gl_op <| op_rd rfl (rd_move rfl) <| gl_op (op_rd rfl (by exact rd_addN (b := 1) rfl rfl (by omega)) ?_)
          refine gl_op <| op_rd rfl (rd_assign rfl) <| gl_nil <| gx_then ?_
          exact gx_cut (i + 1) ⟨by omega, by omega⟩ ⟨rfl, rfl, rfl, rfl, rfl, rfl, rfl, trivial⟩ ⟨[0, 1, 2, 3], by decide, rfl⟩
        have hi8 : i = (nOf l).length := by omega
        rw [hi8, lteC_all]
        refine gl_nil <| gx_then <| gc_cond_f rfl <| gc_exit <| gx_then_exit <| gx_then_exit <| gx_block_exit <| gx_block <| gx_then <| gc_region <| gl_op <| op_rd rfl (rd_move rfl) <| gl_op (op_rd rfl (by exact rd_addN (b := 1) rfl rfl (by omega)) ?_)
        refine gl_op <| op_rd rfl (rd_assign rfl) <| gl_nil <| gx_then ?_
        exact gx_cut (r + 1) ⟨by omega, by omega⟩ ⟨rfl, rfl, rfl, rfl, rfl, rfl, trivial⟩ ⟨[0, 1, 2, 3], by decide, rfl⟩
      have hr8 : r = (nOf l).length := by omega
      rw [hr8, show lteR (nOf l) (lateB (earlC (nOf l)) k9) (nOf l).length = lateF (nOf l) (earlC (nOf l)) k9 from rfl]
      have hll : (lateF (nOf l) (earlC (nOf l)) k9).length = (nOf l).length := by unfold lateF; rw [lteR_len, late_len]
      have hlb : ∀ t ∈ lateF (nOf l) (earlC (nOf l)) k9, t ≤ 1000000 := late_all hg (by omega) k9
      refine gl_nil <| gx_then <| gc_cond_f rfl <| gc_exit <| gx_then_exit <| gx_then_exit <| gx_block_exit <| gx_then <| gc_seq ?_
      rw [castL_len (critC (nOf l)), cast_int (critC (nOf l))]
      refine gc_region <| gl_op <| op_rd rfl (rd_assign rfl) <| gl_nil <| gx_then <| gc_seq <| gc_seq <| gc_region <| gl_op <| op_rd rfl (rd_assign rfl) <| gl_nil <| gx_then <| gc_block <| gc_loopF (ι := Nat) [(0, _), (9, _), (10, _), (18, _), (19, _)] [_, _, _, _] (fun m => m ≤ (critC (nOf l)).length) (fun m Fr0 => ((24, .bool (anyK (critC (nOf l)) k9 m)) :: (25, natV m) :: Fr0)) (fun m Fr0 => Fr0) (fun m => (critC (nOf l)).length - m) 0 (Nat.zero_le _) ⟨rfl, rfl, rfl, rfl, rfl, rfl, rfl, trivial⟩ ⟨[0, 1, 2, 3], by decide, rfl⟩ ?_
      rintro m hm
      refine gc_seq <| gc_seq <| gc_region <| gl_op <| op_rd rfl (rd_move rfl) <| gl_op <| op_rd rfl (rd_move rfl) <| gl_op <| op_rd rfl (rd_lenSlice Try.underlying29 rfl) <| gl_op (op_rd rfl (rd_lss rfl rfl) (gk_dec (fun h205 => ?_) (fun h205 => ?_)))
      · obtain ⟨xm, hmx⟩ := get_some (show m < (critC (nOf l)).length by omega)
        refine gl_nil <| gx_then <| gc_cond_t rfl <| gc_skip <| gx_then <| gc_seq <| gc_block <| gc_region <| gl_op <| op_rd rfl (rd_move rfl) <| gl_op <| op_rd rfl (rd_move rfl) <| gk_bool (fun h209 => ?_) (fun h209 => ?_)
        · refine gl_no rfl rfl rfl <| gl_no rfl rfl rfl <| gl_no rfl rfl rfl <| gl_no rfl rfl rfl <| gl_no rfl rfl rfl <| gl_no rfl rfl rfl <| gl_op <| op_rd rfl (rd_pick_t rfl rfl) <| gl_op <| op_rd rfl (rd_assign rfl) <| gl_nil <| gx_block <| gx_then <| gc_region <| gl_op <| op_rd rfl (rd_move rfl) <| gl_op (op_rd rfl (by exact rd_addN (b := 1) rfl rfl (by omega)) ?_)
          refine gl_op <| op_rd rfl (rd_assign rfl) <| gl_nil <| gx_then ?_
          rw [show Value.bool true = .bool (anyK (critC (nOf l)) k9 (m + 1)) from congrArg Value.bool (anyK_yes h209).symm]
          exact gx_cut (m + 1) ⟨by omega, by omega⟩ ⟨rfl, rfl, rfl, rfl, rfl, rfl, rfl, trivial⟩ ⟨[0, 1, 2, 3], by decide, rfl⟩
        refine gl_yes rfl rfl <| op_rd rfl (rd_move rfl) <| gl_yes rfl rfl <| op_rd rfl (rd_move rfl) <| gl_yes rfl rfl (op_rd rfl (rd_indexRow1 2 rfl Try.underlying29 ty_3 rfl rfl (by omega) (by omega)) ?_)
        refine gl_yes rfl rfl <| op_rd rfl (rd_load Try.underlying3 rfl rfl (ld_rowN 2 rfl (get_nat hmx))) <| gl_yes rfl rfl <| op_rd rfl (rd_move rfl) <| gl_yes rfl rfl <| op_rd rfl (rd_eql rfl rfl) <| gl_op <| op_rd rfl (rd_pick_f rfl rfl) <| gl_op <| op_rd rfl (rd_assign rfl) <| gl_nil <| gx_block <| gx_then <| gc_region <| gl_op <| op_rd rfl (rd_move rfl) <| gl_op (op_rd rfl (by exact rd_addN (b := 1) rfl rfl (by omega)) ?_)
        refine gl_op <| op_rd rfl (rd_assign rfl) <| gl_nil <| gx_then ?_
        rw [show Value.bool (decide _) = .bool (anyK (critC (nOf l)) k9 (m + 1)) from congrArg Value.bool (by rw [anyK_next hmx h209, decide_eq_decide]; omega)]
        exact gx_cut (m + 1) ⟨by omega, by omega⟩ ⟨rfl, rfl, rfl, rfl, rfl, rfl, rfl, trivial⟩ ⟨[0, 1, 2, 3], by decide, rfl⟩
      have hm9 : m = (critC (nOf l)).length := by omega
      rw [hm9, anyK_all hg hk9]
      refine gl_nil <| gx_then <| gc_cond_f rfl <| gc_exit <| gx_then_exit <| gx_then_exit <| gx_block_exit <| gx_then <| gc_seq <| gc_region <| gl_op <| op_rd rfl (rd_move rfl) <| gl_op <| op_rd rfl (rd_move rfl) <| gl_op <| op_rd rfl (rd_move rfl) ?_
      refine gl_op (op_call rfl (vf := []) (vc := []) rfl rfl Try.call22 (fun w1 ho => by
        have h9 := rEnd_ok a c (nOf l) hg.ok (rowA r142) c142 (lateF (nOf l) (earlC (nOf l)) k9) hll hlb w1 (hN.at ho) (by rw [hll]; exact ho.rowSl 0 rfl)
        rw [hll] at h9
        exact h9) ?_)
      rintro _ _ ⟨rfl, rfl⟩
      refine gl_op <| op_rd rfl (rd_move rfl) <| gl_op <| op_rd rfl (rd_gtr rfl rfl) <| gl_op <| op_rd rfl (rd_eqlb Try.runUnderlying4 rfl rfl) ?_
      rw [beq_self_eq_true]
      refine gl_op <| op_rd rfl (rd_move rfl) <| gl_yes rfl rfl (op_call rfl (vf := []) (vc := []) rfl rfl Try.call9 (fun w1 ho => shown_ok w1) ?_)
      rintro _ _ ⟨rfl, rfl⟩
      refine gl_op <| op_rd rfl (rd_pick_t rfl rfl) <| gl_op <| op_rd rfl (rd_assign rfl) <| gl_nil <| gx_then <| gc_ret <| gx_ret1 (.inl rfl) Try.results7 rfl [] (by decide) ?_
      exact ⟨rfl, rfl⟩
    refine gl_op <| op_rd rfl (rd_pick_t rfl rfl) <| gl_op <| op_rd rfl (rd_move rfl) <| gl_no rfl rfl rfl <| gl_op <| op_rd rfl (rd_pick_f rfl rfl) <| gl_nil <| gx_then <| gc_cond_f rfl <| gc_exit <| gx_then_exit <| gx_then_exit <| gx_block_exit <| gx_then <| gc_seq <| gc_seq <| gc_region <| gl_op <| op_rd rfl (rd_move rfl) <| gl_op <| op_rd rfl (rd_lenSlice Try.underlying22 rfl) <| gl_op (op_rd rfl (rd_eql rfl rfl) (gk_dec (fun h133 => ?_) (fun h133 => ?_)))
    · refine gl_nil <| gx_then <| gc_cond_t rfl <| gc_seq <| gc_region <| gl_op (op_call rfl (vf := []) (vc := []) rfl rfl Try.call9 (fun w1 ho => shown_ok w1) ?_)
      rintro _ _ ⟨rfl, rfl⟩
      refine gl_op <| op_rd rfl (rd_assign rfl) <| gl_nil <| gx_then <| gc_ret <| gx_then_ret <| gx_ret1 (.inl rfl) Try.results7 rfl [] (by decide) ?_
      exact ⟨rfl, rfl⟩
    rw [← hnl]
    refine gl_nil <| gx_then <| gc_cond_f rfl <| gc_skip <| gx_then <| gc_seq <| gc_region <| gl_op <| op_rd rfl (rd_move rfl) <| gl_op (op_rd rfl (rd_conv Try.runUnderlying5 Try.runUnderlying3 rfl (wrap64_ok (by omega) (by omega))) ?_)
    refine gl_op <| op_rd rfl (rd_move rfl) <| gl_op <| op_rd rfl (rd_lenSlice Try.underlying22 rfl) ?_
    have hk9 := Nat.mod_lt kd (show 0 < (nOf l).length by omega)
    refine gl_op (op_rd rfl (by exact rd_remN rfl rfl (by omega)) ?_)
    refine gl_op <| op_rd rfl (rd_assign rfl) <| gl_nil <| gx_then <| gc_seq <| gc_region <| gl_op (op_buildSlice (sz := 1) rfl rfl (fun _ => bs_25_0_) rfl rfl (fun b140 => ?_))
    refine gl_op <| op_rd rfl (rd_move rfl) <| gl_op (op_appendMem 0 (fun w ho => ho.rowSl 3 rfl) Try.underlying25 ty_2 rfl (by decide) rfl rfl rfl rfl (fun u hu => (by obtain ⟨x, _, rfl⟩ := List.mem_map.1 hu; rfl)) (by rw [castL_len, earlC_len]; omega) (by rw [castL_len, earlC_len]; omega) (fun _ => (by rfl)) (fun r142 c142 => ?_))
    simp only [Nat.zero_add, List.nil_append]
    refine gl_op <| op_rd rfl (rd_assign rfl) <| gl_nil <| gx_then <| gc_seq ?_
    obtain ⟨k9, hk99⟩ : ∃ k9, kd % (nOf l).length = k9 := ⟨_, rfl⟩
    rw [hk99] at hk9 ⊢
    rw [cast_int (earlC (nOf l)), castL_len (earlC (nOf l)), hecl]
    have hk8 := earlC_bd hg k9
    refine gc_region <| gl_op <| op_rd rfl (rd_move rfl) <| gl_op <| op_rd rfl (rd_move rfl) <| gl_op (op_rd rfl (rd_indexRow1 0 rfl Try.underlying25 ty_2 rfl rfl (by omega) (by omega)) ?_)
    refine gl_op (op_rd rfl (rd_load Try.underlying2 rfl rfl (ld_rowN 0 rfl (get_natL (p := k9) (by omega)))) ?_)
    refine gl_op (op_rd rfl (by exact rd_addN (b := 1) rfl rfl (by omega)) ?_)
    refine gl_op (op_rd rfl (rd_indexRow1 0 rfl Try.underlying25 ty_2 rfl rfl (by omega) (by omega)) ?_)
    refine gl_op (op_storeRowE 0 ty_2 rfl rfl rfl rfl (by rw [List.length_map]; omega) (show (List.map natV (earlC (nOf l))).set k9 (natV ((earlC (nOf l)).getD k9 0 + 1)) = (lteR (nOf l) (lateB (earlC (nOf l)) k9) 0).map natV from set_natL _ k9 _) (by rfl) ?_)
    refine gl_nil <| gx_then <| gc_seq <| gc_seq <| gc_region <| gl_op <| op_rd rfl (rd_assign rfl) <| gl_nil <| gx_then <| gc_block <| gc_loopF (ι := Nat) [(0, _), (9, _), (10, _), (18, _), (19, _)] [_, _, _] (fun r => r ≤ (nOf l).length) (fun r Fr0 => ((20, natV r) :: Fr0)) (fun r Fr0 => (.row 2 1 r142 (nOf l).length c142 ((lteR (nOf l) (lateB (earlC (nOf l)) k9) r).map natV) :: Fr0)) (fun r => (nOf l).length - r) 0 (Nat.zero_le _) ⟨rfl, rfl, rfl, rfl, rfl, rfl, trivial⟩ ⟨[0, 1, 2, 3], by decide, rfl⟩ ?_
    rintro r hr9
    refine gc_seq <| gc_seq <| gc_region <| gl_op <| op_rd rfl (rd_move rfl) <| gl_op <| op_rd rfl (rd_move rfl) <| gl_op <| op_rd rfl (rd_lenSlice Try.underlying22 rfl) <| gl_op (op_rd rfl (rd_lss rfl rfl) (gk_dec (fun h152 => ?_) (fun h152 => ?_)))
    · refine gl_nil <| gx_then <| gc_cond_t rfl <| gc_skip <| gx_then <| gc_seq <| gc_block <| gc_seq <| gc_region <| gl_op <| op_rd rfl (rd_assign rfl) <| gl_nil <| gx_then <| gc_block <| gc_loopF (ι := Nat) [(0, _), (9, _), (10, _), (18, _), (19, _), (20, _)] [_, _, _] (fun i => i ≤ (nOf l).length) (fun i Fr0 => ((21, natV i) :: Fr0)) (fun i Fr0 => (.row 2 1 r142 (nOf l).length c142 ((lteC (nOf l) (lateB (earlC (nOf l)) k9) r i).map natV) :: Fr0)) (fun i => (nOf l).length - i) 0 (Nat.zero_le _) ⟨rfl, rfl, rfl, rfl, rfl, rfl, rfl, trivial⟩ ⟨[0, 1, 2, 3], by decide, rfl⟩ ?_
      rintro i hi9
      refine gc_seq <| gc_seq <| gc_region <| gl_op <| op_rd rfl (rd_move rfl) <| gl_op <| op_rd rfl (rd_move rfl) <| gl_op <| op_rd rfl (rd_lenSlice Try.underlying22 rfl) <| gl_op (op_rd rfl (rd_lss rfl rfl) (gk_dec (fun h158 => ?_) (fun h158 => ?_)))
      · obtain ⟨x, hx⟩ := get_some (show i < (nOf l).length by omega)
        have hxl := hj.lags x (List.mem_of_getElem? hx)
        have hcln := lteC_len (nOf l) (lateB (earlC (nOf l)) k9) r i
        rw [late_len] at hcln
        rw [← lteJ_zero (l := nOf l) (i := i) (show i < (lteC (nOf l) (lateB (earlC (nOf l)) k9) r i).length by omega)]
        refine gl_nil <| gx_then <| gc_cond_t rfl <| gc_skip <| gx_then <| gc_seq <| gc_block <| gc_seq <| gc_region <| gl_op <| op_rd rfl (rd_assign rfl) <| gl_nil <| gx_then <| gc_block <| gc_loopF (ι := Nat) [(0, _), (9, _), (10, _), (18, _), (19, _), (20, _), (21, _)] [_, _, _] (fun j => j ≤ x.after.length) (fun j Fr0 => ((22, natV j) :: Fr0)) (fun j Fr0 => (.row 2 1 r142 (nOf l).length c142 ((lteJ (nOf l) (lteC (nOf l) (lateB (earlC (nOf l)) k9) r i) i j).map natV) :: Fr0)) (fun j => x.after.length - j) 0 (Nat.zero_le _) ⟨rfl, rfl, rfl, rfl, rfl, rfl, rfl, rfl, trivial⟩ ⟨[0, 1, 2, 3], by decide, rfl⟩ ?_
        rintro j hj9
        refine gc_seq <| gc_seq <| gc_region <| gl_op <| op_rd rfl (rd_move rfl) <| gl_op <| op_rd rfl (rd_move rfl) <| gl_op <| op_rd rfl (rd_move rfl) <| gl_op (op_rd rfl (rd_indexOld hN.t Try.underlying22 ty_48 rfl rfl (by omega) (by omega)) ?_)
        refine gl_op <| op_rd rfl (rd_fieldAddr rfl (fa_48_3 _)) <| gl_op (op_rd rfl (rd_load Try.underlying46 rfl rfl (ld_slf hN.t (get_flat Jb.cells 4 (fun _ => rfl) hx (j := 3) (by decide) rfl))) ?_)
        refine gl_op <| op_rd rfl (rd_lenSlice Try.underlying46 rfl) <| gl_op (op_rd rfl (rd_lss rfl rfl) (gk_dec (fun h168 => ?_) (fun h168 => ?_)))
        · obtain ⟨y, hy⟩ := get_some (show j < x.after.length by omega)
          have hyl := lag_lt hj hx hy
          obtain ⟨z, hz⟩ := get_some (show y.1 < (nOf l).length by omega)
          have hzh := job_le hj hz
          have hjl := lteJ_len (nOf l) (lteC (nOf l) (lateB (earlC (nOf l)) k9) r i) i j
          have hcb := fun q => lteC_bd hj (show (nOf l).length ≤ 9 by omega) (late_bd hg k9) (show r ≤ 9 by omega) (show i ≤ 9 by omega) q
          have hj1 := lteJ_bd hj hcb i j i
          have hj2 := lteJ_bd hj hcb i j y.1
          refine gl_nil <| gx_then <| gc_cond_t rfl <| gc_skip <| gx_then <| gc_seq <| gc_block <| gc_seq <| gc_region <| gl_op <| op_rd rfl (rd_move rfl) <| gl_op <| op_rd rfl (rd_move rfl) <| gl_op (op_rd rfl (rd_indexOld hN.t Try.underlying22 ty_48 rfl rfl (by omega) (by omega)) ?_)
          refine gl_op <| op_rd rfl (rd_fieldAddr rfl (fa_48_3 _)) <| gl_op (op_rd rfl (rd_load Try.underlying46 rfl rfl (ld_slf hN.t (get_flat Jb.cells 4 (fun _ => rfl) hx (j := 3) (by decide) rfl))) ?_)
          refine gl_op <| op_rd rfl (rd_move rfl) <| gl_op (op_rd rfl (rd_indexOld (hN.r x (List.mem_of_getElem? hx)) Try.underlying46 ty_50 rfl rfl (by omega) (by omega)) ?_)
          refine gl_op (op_rd rfl (rd_loadAgg Try.underlying50 rfl ty_50 rfl (cs_slN (hN.r x (List.mem_of_getElem? hx)) (flat_drop_get lagN 2 (fun _ => rfl) hy)) rfl) ?_)
          refine gl_op (op_alloc ty_50 rfl rfl (fun b23 => ?_))
          refine gl_op (op_storeAgg 0 ty_50 rfl rfl rfl rfl rfl rfl (by rfl) ?_)
          refine gl_nil <| gx_then <| gc_drawP [0, 1, 2, 3, 4] false 23 rfl <| ga_first 0 (bm 24 1) rfl rfl rfl rfl (by kernel_rfl) (by kernel_rfl) ⟨[0, 1, 2, 3, 4], by decide, rfl⟩ (qt_rd (rd_move rfl)) ?_
          refine ga_first 1 (bm 24 3) rfl rfl rfl rfl (by kernel_rfl) (by kernel_rfl) ⟨[0, 1, 2, 3, 4], by decide, rfl⟩ (qt_rd (rd_move rfl)) ?_
          refine ga_first 2 (bm 24 7) rfl rfl rfl rfl (by kernel_rfl) (by kernel_rfl) ⟨[0, 1, 2, 3, 4], by decide, rfl⟩ (qt_rd (rd_move rfl)) ?_
          refine ga_first 3 (bm 24 15) rfl rfl rfl rfl (by kernel_rfl) (by kernel_rfl) ⟨[0, 1, 2, 3, 4], by decide, rfl⟩ (qt_rd (rd_move rfl)) ?_
          refine ga_first 4 (bm 24 31) rfl rfl rfl rfl (by kernel_rfl) (by kernel_rfl) ⟨[0, 1, 2, 3, 4], by decide, rfl⟩ (qt_rd (rd_indexRow1 1 rfl Try.underlying25 ty_2 rfl rfl (by omega) (by omega))) ?_
          refine ga_first 5 (bm 24 63) rfl rfl rfl rfl (by kernel_rfl) (by kernel_rfl) ⟨[0, 1, 2, 3, 4], by decide, rfl⟩ (qt_rd (rd_load Try.underlying2 rfl rfl (ld_row 1 rfl (get_natL (p := i) (by omega))))) ?_
          refine ga_first 6 (bm 24 127) rfl rfl rfl rfl (by kernel_rfl) (by kernel_rfl) ⟨[0, 1, 2, 3, 4], by decide, rfl⟩ (qt_rd (rd_move rfl)) ?_
          refine ga_first 7 (bm 24 255) rfl rfl rfl rfl (by kernel_rfl) (by kernel_rfl) ⟨[0, 1, 2, 3, 4], by decide, rfl⟩ (qt_rd (rd_fieldAddr rfl (fa_50_0 _))) ?_
          refine ga_first 8 (bm 24 511) rfl rfl rfl rfl (by kernel_rfl) (by kernel_rfl) ⟨[0, 1, 2, 3, 4], by decide, rfl⟩ (qt_rd (rd_load Try.underlying3 rfl rfl (by exact ld_blk 0 rfl rfl))) ?_
          refine ga_first 9 (bm 24 1023) rfl rfl rfl rfl (by kernel_rfl) (by kernel_rfl) ⟨[0, 1, 2, 3, 4], by decide, rfl⟩ (qt_rd (rd_indexRow1 1 rfl Try.underlying25 ty_2 rfl rfl (by omega) (by omega))) ?_
          refine ga_first 10 (bm 24 2047) rfl rfl rfl rfl (by kernel_rfl) (by kernel_rfl) ⟨[0, 1, 2, 3, 4], by decide, rfl⟩ (qt_rd (rd_load Try.underlying2 rfl rfl (ld_row 1 rfl (get_natL (p := y.1) (by omega))))) ?_
          refine ga_first 11 (bm 24 4095) rfl rfl rfl rfl (by kernel_rfl) (by kernel_rfl) ⟨[0, 1, 2, 3, 4], by decide, rfl⟩ (qt_rd (rd_move rfl)) ?_
          refine ga_first 12 (bm 24 8191) rfl rfl rfl rfl (by kernel_rfl) (by kernel_rfl) ⟨[0, 1, 2, 3, 4], by decide, rfl⟩ (qt_rd (rd_fieldAddr rfl (fa_50_0 _))) ?_
          refine ga_first 13 (bm 24 16383) rfl rfl rfl rfl (by kernel_rfl) (by kernel_rfl) ⟨[0, 1, 2, 3, 4], by decide, rfl⟩ (qt_rd (rd_load Try.underlying3 rfl rfl (by exact ld_blk 0 rfl rfl))) ?_
          refine ga_first 14 (bm 24 32767) rfl rfl rfl rfl (by kernel_rfl) (by kernel_rfl) ⟨[0, 1, 2, 3, 4], by decide, rfl⟩ (qt_rd (rd_indexOld hN.t Try.underlying22 ty_48 rfl rfl (by omega) (by omega))) ?_
          refine ga_first 15 (bm 24 65535) rfl rfl rfl rfl (by kernel_rfl) (by kernel_rfl) ⟨[0, 1, 2, 3, 4], by decide, rfl⟩ (qt_rd (rd_fieldAddr rfl (fa_48_2 _))) ?_
          refine ga_first 16 (bm 24 131071) rfl rfl rfl rfl (by kernel_rfl) (by kernel_rfl) ⟨[0, 1, 2, 3, 4], by decide, rfl⟩ (qt_rd (rd_load Try.underlying2 rfl rfl (ld_slf hN.t (get_flat Jb.cells 4 (fun _ => rfl) hz (j := 2) (by decide) rfl)))) ?_
          refine ga_first 17 (bm 24 262143) rfl rfl rfl rfl (by kernel_rfl) (by kernel_rfl) ⟨[0, 1, 2, 3, 4], by decide, rfl⟩ (qt_rd (by exact rd_addN rfl rfl (by omega))) ?_
          refine ga_first 18 (bm 24 524287) rfl rfl rfl rfl (by kernel_rfl) (by kernel_rfl) ⟨[0, 1, 2, 3, 4], by decide, rfl⟩ (qt_rd (rd_fieldAddr rfl (fa_50_1 _))) ?_
          refine ga_first 19 (bm 24 1048575) rfl rfl rfl rfl (by kernel_rfl) (by kernel_rfl) ⟨[0, 1, 2, 3, 4], by decide, rfl⟩ (qt_rd (rd_load Try.underlying2 rfl rfl (by exact ld_blk 0 rfl rfl))) ?_
          refine ga_first 20 (bm 24 2097151) rfl rfl rfl rfl (by kernel_rfl) (by kernel_rfl) ⟨[0, 1, 2, 3, 4], by decide, rfl⟩ (qt_rd (by exact rd_addN rfl rfl (by omega))) ?_
          refine ga_first 21 (bm 24 4194303) rfl rfl rfl rfl (by kernel_rfl) (by kernel_rfl) ⟨[0, 1, 2, 3, 4], by decide, rfl⟩ (qt_rd (rd_max2 rfl rfl)) ?_
          refine ga_first 22 (bm 24 8388607) rfl rfl rfl rfl (by kernel_rfl) (by kernel_rfl) ⟨[0, 1, 2, 3, 4], by decide, rfl⟩ (qt_rd (rd_indexRow1 1 rfl Try.underlying25 ty_2 rfl rfl (by omega) (by omega))) ?_
          refine ga_only 23 (bm 24 16777215) rfl rfl (by kernel_rfl) (by kernel_rfl) (.inr ⟨[0, 1, 2, 3, 4], by decide, rfl⟩) (op_storeRowE 1 ty_2 rfl rfl rfl rfl (by rw [List.length_map]; omega) (lteJ_st (by omega) hx hy hz hyl.2.1) (by rfl) ?_)
          refine ga_end (by kernel_rfl) (.inl (by kernel_rfl)) ?_
          refine gx_block <| gx_then <| gc_region <| gl_op <| op_rd rfl (rd_move rfl) <| gl_op (op_rd rfl (by exact rd_addN (b := 1) rfl rfl (by omega)) ?_)
          refine gl_op <| op_rd rfl (rd_assign rfl) <| gl_nil <| gx_then ?_
          exact gx_cut (j + 1) ⟨by omega, by omega⟩ ⟨rfl, rfl, rfl, rfl, rfl, rfl, rfl, rfl, trivial⟩ ⟨[1, 2, 3, 4], by decide, rfl⟩
        rw [lteJ_all hx (by omega), ← lteC_next]
        refine gl_nil <| gx_then <| gc_cond_f rfl <| gc_exit <| gx_then_exit <| gx_then_exit <| gx_block_exit <| gx_block <| gx_then <| gc_region <| gl_op <| op_rd rfl (rd_move rfl) <| gl_op (op_rd rfl (by exact rd_addN (b := 1) rfl rfl (by omega)) ?_)
        refine gl_op <| op_rd rfl (rd_assign rfl) <| gl_nil <| gx_then ?_
        exact gx_cut (i + 1) ⟨by omega, by omega⟩ ⟨rfl, rfl, rfl, rfl, rfl, rfl, rfl, trivial⟩ ⟨[0, 1, 2, 3], by decide, rfl⟩
      have hi8 : i = (nOf l).length := by omega
      rw [hi8, lteC_all]
      refine gl_nil <| gx_then <| gc_cond_f rfl <| gc_exit <| gx_then_exit <| gx_then_exit <| gx_block_exit <| gx_block <| gx_then <| gc_region <| gl_op <| op_rd rfl (rd_move rfl) <| gl_op (op_rd rfl (by exact rd_addN (b := 1) rfl rfl (by omega)) ?_)
      refine gl_op <| op_rd rfl (rd_assign rfl) <| gl_nil <| gx_then ?_
      exact gx_cut (r + 1) ⟨by omega, by omega⟩ ⟨rfl, rfl, rfl, rfl, rfl, rfl, trivial⟩ ⟨[0, 1, 2, 3], by decide, rfl⟩
    have hr8 : r = (nOf l).length := by omega
    rw [hr8, show lteR (nOf l) (lateB (earlC (nOf l)) k9) (nOf l).length = lateF (nOf l) (earlC (nOf l)) k9 from rfl]
    have hll : (lateF (nOf l) (earlC (nOf l)) k9).length = (nOf l).length := by unfold lateF; rw [lteR_len, late_len]
    have hlb : ∀ t ∈ lateF (nOf l) (earlC (nOf l)) k9, t ≤ 1000000 := late_all hg (by omega) k9
    refine gl_nil <| gx_then <| gc_cond_f rfl <| gc_exit <| gx_then_exit <| gx_then_exit <| gx_block_exit <| gx_then <| gc_seq ?_
    rw [castL_len (critC (nOf l)), cast_int (critC (nOf l))]
    refine gc_region <| gl_op <| op_rd rfl (rd_assign rfl) <| gl_nil <| gx_then <| gc_seq <| gc_seq <| gc_region <| gl_op <| op_rd rfl (rd_assign rfl) <| gl_nil <| gx_then <| gc_block <| gc_loopF (ι := Nat) [(0, _), (9, _), (10, _), (18, _), (19, _)] [_, _, _, _] (fun m => m ≤ (critC (nOf l)).length) (fun m Fr0 => ((24, .bool (anyK (critC (nOf l)) k9 m)) :: (25, natV m) :: Fr0)) (fun m Fr0 => Fr0) (fun m => (critC (nOf l)).length - m) 0 (Nat.zero_le _) ⟨rfl, rfl, rfl, rfl, rfl, rfl, rfl, trivial⟩ ⟨[0, 1, 2, 3], by decide, rfl⟩ ?_
    rintro m hm
    refine gc_seq <| gc_seq <| gc_region <| gl_op <| op_rd rfl (rd_move rfl) <| gl_op <| op_rd rfl (rd_move rfl) <| gl_op <| op_rd rfl (rd_lenSlice Try.underlying29 rfl) <| gl_op (op_rd rfl (rd_lss rfl rfl) (gk_dec (fun h205 => ?_) (fun h205 => ?_)))
    · obtain ⟨xm, hmx⟩ := get_some (show m < (critC (nOf l)).length by omega)
      refine gl_nil <| gx_then <| gc_cond_t rfl <| gc_skip <| gx_then <| gc_seq <| gc_block <| gc_region <| gl_op <| op_rd rfl (rd_move rfl) <| gl_op <| op_rd rfl (rd_move rfl) <| gk_bool (fun h209 => ?_) (fun h209 => ?_)
      · refine gl_no rfl rfl rfl <| gl_no rfl rfl rfl <| gl_no rfl rfl rfl <| gl_no rfl rfl rfl <| gl_no rfl rfl rfl <| gl_no rfl rfl rfl <| gl_op <| op_rd rfl (rd_pick_t rfl rfl) <| gl_op <| op_rd rfl (rd_assign rfl) <| gl_nil <| gx_block <| gx_then <| gc_region <| gl_op <| op_rd rfl (rd_move rfl) <| gl_op (op_rd rfl (by exact rd_addN (b := 1) rfl rfl (by omega)) ?_)
        refine gl_op <| op_rd rfl (rd_assign rfl) <| gl_nil <| gx_then ?_
        rw [show Value.bool true = .bool (anyK (critC (nOf l)) k9 (m + 1)) from congrArg Value.bool (anyK_yes h209).symm]
        exact gx_cut (m + 1) ⟨by omega, by omega⟩ ⟨rfl, rfl, rfl, rfl, rfl, rfl, rfl, trivial⟩ ⟨[0, 1, 2, 3], by decide, rfl⟩
      refine gl_yes rfl rfl <| op_rd rfl (rd_move rfl) <| gl_yes rfl rfl <| op_rd rfl (rd_move rfl) <| gl_yes rfl rfl (op_rd rfl (rd_indexRow1 2 rfl Try.underlying29 ty_3 rfl rfl (by omega) (by omega)) ?_)
      refine gl_yes rfl rfl <| op_rd rfl (rd_load Try.underlying3 rfl rfl (ld_rowN 2 rfl (get_nat hmx))) <| gl_yes rfl rfl <| op_rd rfl (rd_move rfl) <| gl_yes rfl rfl <| op_rd rfl (rd_eql rfl rfl) <| gl_op <| op_rd rfl (rd_pick_f rfl rfl) <| gl_op <| op_rd rfl (rd_assign rfl) <| gl_nil <| gx_block <| gx_then <| gc_region <| gl_op <| op_rd rfl (rd_move rfl) <| gl_op (op_rd rfl (by exact rd_addN (b := 1) rfl rfl (by omega)) ?_)
      refine gl_op <| op_rd rfl (rd_assign rfl) <| gl_nil <| gx_then ?_
      rw [show Value.bool (decide _) = .bool (anyK (critC (nOf l)) k9 (m + 1)) from congrArg Value.bool (by rw [anyK_next hmx h209, decide_eq_decide]; omega)]
      exact gx_cut (m + 1) ⟨by omega, by omega⟩ ⟨rfl, rfl, rfl, rfl, rfl, rfl, rfl, trivial⟩ ⟨[0, 1, 2, 3], by decide, rfl⟩
    have hm9 : m = (critC (nOf l)).length := by omega
    rw [hm9, anyK_all hg hk9]
    refine gl_nil <| gx_then <| gc_cond_f rfl <| gc_exit <| gx_then_exit <| gx_then_exit <| gx_block_exit <| gx_then <| gc_seq <| gc_region <| gl_op <| op_rd rfl (rd_move rfl) <| gl_op <| op_rd rfl (rd_move rfl) <| gl_op <| op_rd rfl (rd_move rfl) ?_
    refine gl_op (op_call rfl (vf := []) (vc := []) rfl rfl Try.call22 (fun w1 ho => by
      have h9 := rEnd_ok a c (nOf l) hg.ok (rowA r142) c142 (lateF (nOf l) (earlC (nOf l)) k9) hll hlb w1 (hN.at ho) (by rw [hll]; exact ho.rowSl 0 rfl)
      rw [hll] at h9
      exact h9) ?_)
    rintro _ _ ⟨rfl, rfl⟩
    refine gl_op <| op_rd rfl (rd_move rfl) <| gl_op <| op_rd rfl (rd_gtr rfl rfl) <| gl_op <| op_rd rfl (rd_eqlb Try.runUnderlying4 rfl rfl) ?_
    rw [beq_self_eq_true]
    refine gl_op <| op_rd rfl (rd_move rfl) <| gl_yes rfl rfl (op_call rfl (vf := []) (vc := []) rfl rfl Try.call9 (fun w1 ho => shown_ok w1) ?_)
    rintro _ _ ⟨rfl, rfl⟩
    refine gl_op <| op_rd rfl (rd_pick_t rfl rfl) <| gl_op <| op_rd rfl (rd_assign rfl) <| gl_nil <| gx_then <| gc_ret <| gx_ret1 (.inl rfl) Try.results7 rfl [] (by decide) ?_
    exact ⟨rfl, rfl⟩
  refine gl_op <| op_rd rfl (rd_move rfl) <| gl_no rfl rfl rfl <| gl_no rfl rfl rfl <| gl_op <| op_rd rfl (rd_pick_f rfl rfl) <| gl_op <| op_rd rfl (rd_move rfl) <| gl_no rfl rfl rfl <| gl_op <| op_rd rfl (rd_pick_f rfl rfl) <| gl_nil <| gx_then <| gc_cond_f rfl <| gc_exit <| gx_then_exit <| gx_then_exit <| gx_block_exit <| gx_then <| gc_seq <| gc_seq <| gc_region <| gl_op <| op_rd rfl (rd_move rfl) <| gl_op <| op_rd rfl (rd_lenSlice Try.underlying22 rfl) <| gl_op (op_rd rfl (rd_eql rfl rfl) (gk_dec (fun h133 => ?_) (fun h133 => ?_)))
  · refine gl_nil <| gx_then <| gc_cond_t rfl <| gc_seq <| gc_region <| gl_op (op_call rfl (vf := []) (vc := []) rfl rfl Try.call9 (fun w1 ho => shown_ok w1) ?_)
    rintro _ _ ⟨rfl, rfl⟩
    refine gl_op <| op_rd rfl (rd_assign rfl) <| gl_nil <| gx_then <| gc_ret <| gx_then_ret <| gx_ret1 (.inl rfl) Try.results7 rfl [] (by decide) ?_
    exact ⟨rfl, rfl⟩
  rw [← hnl]
  refine gl_nil <| gx_then <| gc_cond_f rfl <| gc_skip <| gx_then <| gc_seq <| gc_region <| gl_op <| op_rd rfl (rd_move rfl) <| gl_op (op_rd rfl (rd_conv Try.runUnderlying5 Try.runUnderlying3 rfl (wrap64_ok (by omega) (by omega))) ?_)
  refine gl_op <| op_rd rfl (rd_move rfl) <| gl_op <| op_rd rfl (rd_lenSlice Try.underlying22 rfl) ?_
  have hk9 := Nat.mod_lt kd (show 0 < (nOf l).length by omega)
  refine gl_op (op_rd rfl (by exact rd_remN rfl rfl (by omega)) ?_)
  refine gl_op <| op_rd rfl (rd_assign rfl) <| gl_nil <| gx_then <| gc_seq <| gc_region <| gl_op (op_buildSlice (sz := 1) rfl rfl (fun _ => bs_25_0_) rfl rfl (fun b140 => ?_))
  refine gl_op <| op_rd rfl (rd_move rfl) <| gl_op (op_appendMem 0 (fun w ho => ho.rowSl 3 rfl) Try.underlying25 ty_2 rfl (by decide) rfl rfl rfl rfl (fun u hu => (by obtain ⟨x, _, rfl⟩ := List.mem_map.1 hu; rfl)) (by rw [castL_len, earlC_len]; omega) (by rw [castL_len, earlC_len]; omega) (fun _ => (by rfl)) (fun r142 c142 => ?_))
  simp only [Nat.zero_add, List.nil_append]
  refine gl_op <| op_rd rfl (rd_assign rfl) <| gl_nil <| gx_then <| gc_seq ?_
  obtain ⟨k9, hk99⟩ : ∃ k9, kd % (nOf l).length = k9 := ⟨_, rfl⟩
  rw [hk99] at hk9 ⊢
  rw [cast_int (earlC (nOf l)), castL_len (earlC (nOf l)), hecl]
  have hk8 := earlC_bd hg k9
  refine gc_region <| gl_op <| op_rd rfl (rd_move rfl) <| gl_op <| op_rd rfl (rd_move rfl) <| gl_op (op_rd rfl (rd_indexRow1 0 rfl Try.underlying25 ty_2 rfl rfl (by omega) (by omega)) ?_)
  refine gl_op (op_rd rfl (rd_load Try.underlying2 rfl rfl (ld_rowN 0 rfl (get_natL (p := k9) (by omega)))) ?_)
  refine gl_op (op_rd rfl (by exact rd_addN (b := 1) rfl rfl (by omega)) ?_)
  refine gl_op (op_rd rfl (rd_indexRow1 0 rfl Try.underlying25 ty_2 rfl rfl (by omega) (by omega)) ?_)
  refine gl_op (op_storeRowE 0 ty_2 rfl rfl rfl rfl (by rw [List.length_map]; omega) (show (List.map natV (earlC (nOf l))).set k9 (natV ((earlC (nOf l)).getD k9 0 + 1)) = (lteR (nOf l) (lateB (earlC (nOf l)) k9) 0).map natV from set_natL _ k9 _) (by rfl) ?_)
  refine gl_nil <| gx_then <| gc_seq <| gc_seq <| gc_region <| gl_op <| op_rd rfl (rd_assign rfl) <| gl_nil <| gx_then <| gc_block <| gc_loopF (ι := Nat) [(0, _), (9, _), (10, _), (18, _), (19, _)] [_, _, _] (fun r => r ≤ (nOf l).length) (fun r Fr0 => ((20, natV r) :: Fr0)) (fun r Fr0 => (.row 2 1 r142 (nOf l).length c142 ((lteR (nOf l) (lateB (earlC (nOf l)) k9) r).map natV) :: Fr0)) (fun r => (nOf l).length - r) 0 (Nat.zero_le _) ⟨rfl, rfl, rfl, rfl, rfl, rfl, trivial⟩ ⟨[0, 1, 2, 3], by decide, rfl⟩ ?_
  rintro r hr9
  refine gc_seq <| gc_seq <| gc_region <| gl_op <| op_rd rfl (rd_move rfl) <| gl_op <| op_rd rfl (rd_move rfl) <| gl_op <| op_rd rfl (rd_lenSlice Try.underlying22 rfl) <| gl_op (op_rd rfl (rd_lss rfl rfl) (gk_dec (fun h152 => ?_) (fun h152 => ?_)))
  · refine gl_nil <| gx_then <| gc_cond_t rfl <| gc_skip <| gx_then <| gc_seq <| gc_block <| gc_seq <| gc_region <| gl_op <| op_rd rfl (rd_assign rfl) <| gl_nil <| gx_then <| gc_block <| gc_loopF (ι := Nat) [(0, _), (9, _), (10, _), (18, _), (19, _), (20, _)] [_, _, _] (fun i => i ≤ (nOf l).length) (fun i Fr0 => ((21, natV i) :: Fr0)) (fun i Fr0 => (.row 2 1 r142 (nOf l).length c142 ((lteC (nOf l) (lateB (earlC (nOf l)) k9) r i).map natV) :: Fr0)) (fun i => (nOf l).length - i) 0 (Nat.zero_le _) ⟨rfl, rfl, rfl, rfl, rfl, rfl, rfl, trivial⟩ ⟨[0, 1, 2, 3], by decide, rfl⟩ ?_
    rintro i hi9
    refine gc_seq <| gc_seq <| gc_region <| gl_op <| op_rd rfl (rd_move rfl) <| gl_op <| op_rd rfl (rd_move rfl) <| gl_op <| op_rd rfl (rd_lenSlice Try.underlying22 rfl) <| gl_op (op_rd rfl (rd_lss rfl rfl) (gk_dec (fun h158 => ?_) (fun h158 => ?_)))
    · obtain ⟨x, hx⟩ := get_some (show i < (nOf l).length by omega)
      have hxl := hj.lags x (List.mem_of_getElem? hx)
      have hcln := lteC_len (nOf l) (lateB (earlC (nOf l)) k9) r i
      rw [late_len] at hcln
      rw [← lteJ_zero (l := nOf l) (i := i) (show i < (lteC (nOf l) (lateB (earlC (nOf l)) k9) r i).length by omega)]
      refine gl_nil <| gx_then <| gc_cond_t rfl <| gc_skip <| gx_then <| gc_seq <| gc_block <| gc_seq <| gc_region <| gl_op <| op_rd rfl (rd_assign rfl) <| gl_nil <| gx_then <| gc_block <| gc_loopF (ι := Nat) [(0, _), (9, _), (10, _), (18, _), (19, _), (20, _), (21, _)] [_, _, _] (fun j => j ≤ x.after.length) (fun j Fr0 => ((22, natV j) :: Fr0)) (fun j Fr0 => (.row 2 1 r142 (nOf l).length c142 ((lteJ (nOf l) (lteC (nOf l) (lateB (earlC (nOf l)) k9) r i) i j).map natV) :: Fr0)) (fun j => x.after.length - j) 0 (Nat.zero_le _) ⟨rfl, rfl, rfl, rfl, rfl, rfl, rfl, rfl, trivial⟩ ⟨[0, 1, 2, 3], by decide, rfl⟩ ?_
      rintro j hj9
      refine gc_seq <| gc_seq <| gc_region <| gl_op <| op_rd rfl (rd_move rfl) <| gl_op <| op_rd rfl (rd_move rfl) <| gl_op <| op_rd rfl (rd_move rfl) <| gl_op (op_rd rfl (rd_indexOld hN.t Try.underlying22 ty_48 rfl rfl (by omega) (by omega)) ?_)
      refine gl_op <| op_rd rfl (rd_fieldAddr rfl (fa_48_3 _)) <| gl_op (op_rd rfl (rd_load Try.underlying46 rfl rfl (ld_slf hN.t (get_flat Jb.cells 4 (fun _ => rfl) hx (j := 3) (by decide) rfl))) ?_)
      refine gl_op <| op_rd rfl (rd_lenSlice Try.underlying46 rfl) <| gl_op (op_rd rfl (rd_lss rfl rfl) (gk_dec (fun h168 => ?_) (fun h168 => ?_)))
      · obtain ⟨y, hy⟩ := get_some (show j < x.after.length by omega)
        have hyl := lag_lt hj hx hy
        obtain ⟨z, hz⟩ := get_some (show y.1 < (nOf l).length by omega)
        have hzh := job_le hj hz
        have hjl := lteJ_len (nOf l) (lteC (nOf l) (lateB (earlC (nOf l)) k9) r i) i j
        have hcb := fun q => lteC_bd hj (show (nOf l).length ≤ 9 by omega) (late_bd hg k9) (show r ≤ 9 by omega) (show i ≤ 9 by omega) q
        have hj1 := lteJ_bd hj hcb i j i
        have hj2 := lteJ_bd hj hcb i j y.1
        refine gl_nil <| gx_then <| gc_cond_t rfl <| gc_skip <| gx_then <| gc_seq <| gc_block <| gc_seq <| gc_region <| gl_op <| op_rd rfl (rd_move rfl) <| gl_op <| op_rd rfl (rd_move rfl) <| gl_op (op_rd rfl (rd_indexOld hN.t Try.underlying22 ty_48 rfl rfl (by omega) (by omega)) ?_)
        refine gl_op <| op_rd rfl (rd_fieldAddr rfl (fa_48_3 _)) <| gl_op (op_rd rfl (rd_load Try.underlying46 rfl rfl (ld_slf hN.t (get_flat Jb.cells 4 (fun _ => rfl) hx (j := 3) (by decide) rfl))) ?_)
        refine gl_op <| op_rd rfl (rd_move rfl) <| gl_op (op_rd rfl (rd_indexOld (hN.r x (List.mem_of_getElem? hx)) Try.underlying46 ty_50 rfl rfl (by omega) (by omega)) ?_)
        refine gl_op (op_rd rfl (rd_loadAgg Try.underlying50 rfl ty_50 rfl (cs_slN (hN.r x (List.mem_of_getElem? hx)) (flat_drop_get lagN 2 (fun _ => rfl) hy)) rfl) ?_)
        refine gl_op (op_alloc ty_50 rfl rfl (fun b23 => ?_))
        refine gl_op (op_storeAgg 0 ty_50 rfl rfl rfl rfl rfl rfl (by rfl) ?_)
        refine gl_nil <| gx_then <| gc_drawP [0, 1, 2, 3, 4] false 23 rfl <| ga_first 0 (bm 24 1) rfl rfl rfl rfl (by kernel_rfl) (by kernel_rfl) ⟨[0, 1, 2, 3, 4], by decide, rfl⟩ (qt_rd (rd_move rfl)) ?_
        refine ga_first 1 (bm 24 3) rfl rfl rfl rfl (by kernel_rfl) (by kernel_rfl) ⟨[0, 1, 2, 3, 4], by decide, rfl⟩ (qt_rd (rd_move rfl)) ?_
        refine ga_first 2 (bm 24 7) rfl rfl rfl rfl (by kernel_rfl) (by kernel_rfl) ⟨[0, 1, 2, 3, 4], by decide, rfl⟩ (qt_rd (rd_move rfl)) ?_
        refine ga_first 3 (bm 24 15) rfl rfl rfl rfl (by kernel_rfl) (by kernel_rfl) ⟨[0, 1, 2, 3, 4], by decide, rfl⟩ (qt_rd (rd_move rfl)) ?_
        refine ga_first 4 (bm 24 31) rfl rfl rfl rfl (by kernel_rfl) (by kernel_rfl) ⟨[0, 1, 2, 3, 4], by decide, rfl⟩ (qt_rd (rd_indexRow1 1 rfl Try.underlying25 ty_2 rfl rfl (by omega) (by omega))) ?_
        refine ga_first 5 (bm 24 63) rfl rfl rfl rfl (by kernel_rfl) (by kernel_rfl) ⟨[0, 1, 2, 3, 4], by decide, rfl⟩ (qt_rd (rd_load Try.underlying2 rfl rfl (ld_row 1 rfl (get_natL (p := i) (by omega))))) ?_
        refine ga_first 6 (bm 24 127) rfl rfl rfl rfl (by kernel_rfl) (by kernel_rfl) ⟨[0, 1, 2, 3, 4], by decide, rfl⟩ (qt_rd (rd_move rfl)) ?_
        refine ga_first 7 (bm 24 255) rfl rfl rfl rfl (by kernel_rfl) (by kernel_rfl) ⟨[0, 1, 2, 3, 4], by decide, rfl⟩ (qt_rd (rd_fieldAddr rfl (fa_50_0 _))) ?_
        refine ga_first 8 (bm 24 511) rfl rfl rfl rfl (by kernel_rfl) (by kernel_rfl) ⟨[0, 1, 2, 3, 4], by decide, rfl⟩ (qt_rd (rd_load Try.underlying3 rfl rfl (by exact ld_blk 0 rfl rfl))) ?_
        refine ga_first 9 (bm 24 1023) rfl rfl rfl rfl (by kernel_rfl) (by kernel_rfl) ⟨[0, 1, 2, 3, 4], by decide, rfl⟩ (qt_rd (rd_indexRow1 1 rfl Try.underlying25 ty_2 rfl rfl (by omega) (by omega))) ?_
        refine ga_first 10 (bm 24 2047) rfl rfl rfl rfl (by kernel_rfl) (by kernel_rfl) ⟨[0, 1, 2, 3, 4], by decide, rfl⟩ (qt_rd (rd_load Try.underlying2 rfl rfl (ld_row 1 rfl (get_natL (p := y.1) (by omega))))) ?_
        refine ga_first 11 (bm 24 4095) rfl rfl rfl rfl (by kernel_rfl) (by kernel_rfl) ⟨[0, 1, 2, 3, 4], by decide, rfl⟩ (qt_rd (rd_move rfl)) ?_
        refine ga_first 12 (bm 24 8191) rfl rfl rfl rfl (by kernel_rfl) (by kernel_rfl) ⟨[0, 1, 2, 3, 4], by decide, rfl⟩ (qt_rd (rd_fieldAddr rfl (fa_50_0 _))) ?_
        refine ga_first 13 (bm 24 16383) rfl rfl rfl rfl (by kernel_rfl) (by kernel_rfl) ⟨[0, 1, 2, 3, 4], by decide, rfl⟩ (qt_rd (rd_load Try.underlying3 rfl rfl (by exact ld_blk 0 rfl rfl))) ?_
        refine ga_first 14 (bm 24 32767) rfl rfl rfl rfl (by kernel_rfl) (by kernel_rfl) ⟨[0, 1, 2, 3, 4], by decide, rfl⟩ (qt_rd (rd_indexOld hN.t Try.underlying22 ty_48 rfl rfl (by omega) (by omega))) ?_
        refine ga_first 15 (bm 24 65535) rfl rfl rfl rfl (by kernel_rfl) (by kernel_rfl) ⟨[0, 1, 2, 3, 4], by decide, rfl⟩ (qt_rd (rd_fieldAddr rfl (fa_48_2 _))) ?_
        refine ga_first 16 (bm 24 131071) rfl rfl rfl rfl (by kernel_rfl) (by kernel_rfl) ⟨[0, 1, 2, 3, 4], by decide, rfl⟩ (qt_rd (rd_load Try.underlying2 rfl rfl (ld_slf hN.t (get_flat Jb.cells 4 (fun _ => rfl) hz (j := 2) (by decide) rfl)))) ?_
        refine ga_first 17 (bm 24 262143) rfl rfl rfl rfl (by kernel_rfl) (by kernel_rfl) ⟨[0, 1, 2, 3, 4], by decide, rfl⟩ (qt_rd (by exact rd_addN rfl rfl (by omega))) ?_
        refine ga_first 18 (bm 24 524287) rfl rfl rfl rfl (by kernel_rfl) (by kernel_rfl) ⟨[0, 1, 2, 3, 4], by decide, rfl⟩ (qt_rd (rd_fieldAddr rfl (fa_50_1 _))) ?_
        refine ga_first 19 (bm 24 1048575) rfl rfl rfl rfl (by kernel_rfl) (by kernel_rfl) ⟨[0, 1, 2, 3, 4], by decide, rfl⟩ (qt_rd (rd_load Try.underlying2 rfl rfl (by exact ld_blk 0 rfl rfl))) ?_
        refine ga_first 20 (bm 24 2097151) rfl rfl rfl rfl (by kernel_rfl) (by kernel_rfl) ⟨[0, 1, 2, 3, 4], by decide, rfl⟩ (qt_rd (by exact rd_addN rfl rfl (by omega))) ?_
        refine ga_first 21 (bm 24 4194303) rfl rfl rfl rfl (by kernel_rfl) (by kernel_rfl) ⟨[0, 1, 2, 3, 4], by decide, rfl⟩ (qt_rd (rd_max2 rfl rfl)) ?_
        refine ga_first 22 (bm 24 8388607) rfl rfl rfl rfl (by kernel_rfl) (by kernel_rfl) ⟨[0, 1, 2, 3, 4], by decide, rfl⟩ (qt_rd (rd_indexRow1 1 rfl Try.underlying25 ty_2 rfl rfl (by omega) (by omega))) ?_
        refine ga_only 23 (bm 24 16777215) rfl rfl (by kernel_rfl) (by kernel_rfl) (.inr ⟨[0, 1, 2, 3, 4], by decide, rfl⟩) (op_storeRowE 1 ty_2 rfl rfl rfl rfl (by rw [List.length_map]; omega) (lteJ_st (by omega) hx hy hz hyl.2.1) (by rfl) ?_)
        refine ga_end (by kernel_rfl) (.inl (by kernel_rfl)) ?_
        refine gx_block <| gx_then <| gc_region <| gl_op <| op_rd rfl (rd_move rfl) <| gl_op (op_rd rfl (by exact rd_addN (b := 1) rfl rfl (by omega)) ?_)
        refine gl_op <| op_rd rfl (rd_assign rfl) <| gl_nil <| gx_then ?_
        exact gx_cut (j + 1) ⟨by omega, by omega⟩ ⟨rfl, rfl, rfl, rfl, rfl, rfl, rfl, rfl, trivial⟩ ⟨[1, 2, 3, 4], by decide, rfl⟩
      rw [lteJ_all hx (by omega), ← lteC_next]
      refine gl_nil <| gx_then <| gc_cond_f rfl <| gc_exit <| gx_then_exit <| gx_then_exit <| gx_block_exit <| gx_block <| gx_then <| gc_region <| gl_op <| op_rd rfl (rd_move rfl) <| gl_op (op_rd rfl (by exact rd_addN (b := 1) rfl rfl (by omega)) ?_)
      refine gl_op <| op_rd rfl (rd_assign rfl) <| gl_nil <| gx_then ?_
      exact gx_cut (i + 1) ⟨by omega, by omega⟩ ⟨rfl, rfl, rfl, rfl, rfl, rfl, rfl, trivial⟩ ⟨[0, 1, 2, 3], by decide, rfl⟩
    have hi8 : i = (nOf l).length := by omega
    rw [hi8, lteC_all]
    refine gl_nil <| gx_then <| gc_cond_f rfl <| gc_exit <| gx_then_exit <| gx_then_exit <| gx_block_exit <| gx_block <| gx_then <| gc_region <| gl_op <| op_rd rfl (rd_move rfl) <| gl_op (op_rd rfl (by exact rd_addN (b := 1) rfl rfl (by omega)) ?_)
    refine gl_op <| op_rd rfl (rd_assign rfl) <| gl_nil <| gx_then ?_
    exact gx_cut (r + 1) ⟨by omega, by omega⟩ ⟨rfl, rfl, rfl, rfl, rfl, rfl, trivial⟩ ⟨[0, 1, 2, 3], by decide, rfl⟩
  have hr8 : r = (nOf l).length := by omega
  rw [hr8, show lteR (nOf l) (lateB (earlC (nOf l)) k9) (nOf l).length = lateF (nOf l) (earlC (nOf l)) k9 from rfl]
  have hll : (lateF (nOf l) (earlC (nOf l)) k9).length = (nOf l).length := by unfold lateF; rw [lteR_len, late_len]
  have hlb : ∀ t ∈ lateF (nOf l) (earlC (nOf l)) k9, t ≤ 1000000 := late_all hg (by omega) k9
  refine gl_nil <| gx_then <| gc_cond_f rfl <| gc_exit <| gx_then_exit <| gx_then_exit <| gx_block_exit <| gx_then <| gc_seq ?_
  rw [castL_len (critC (nOf l)), cast_int (critC (nOf l))]
  refine gc_region <| gl_op <| op_rd rfl (rd_assign rfl) <| gl_nil <| gx_then <| gc_seq <| gc_seq <| gc_region <| gl_op <| op_rd rfl (rd_assign rfl) <| gl_nil <| gx_then <| gc_block <| gc_loopF (ι := Nat) [(0, _), (9, _), (10, _), (18, _), (19, _)] [_, _, _, _] (fun m => m ≤ (critC (nOf l)).length) (fun m Fr0 => ((24, .bool (anyK (critC (nOf l)) k9 m)) :: (25, natV m) :: Fr0)) (fun m Fr0 => Fr0) (fun m => (critC (nOf l)).length - m) 0 (Nat.zero_le _) ⟨rfl, rfl, rfl, rfl, rfl, rfl, rfl, trivial⟩ ⟨[0, 1, 2, 3], by decide, rfl⟩ ?_
  rintro m hm
  refine gc_seq <| gc_seq <| gc_region <| gl_op <| op_rd rfl (rd_move rfl) <| gl_op <| op_rd rfl (rd_move rfl) <| gl_op <| op_rd rfl (rd_lenSlice Try.underlying29 rfl) <| gl_op (op_rd rfl (rd_lss rfl rfl) (gk_dec (fun h205 => ?_) (fun h205 => ?_)))
  · obtain ⟨xm, hmx⟩ := get_some (show m < (critC (nOf l)).length by omega)
    refine gl_nil <| gx_then <| gc_cond_t rfl <| gc_skip <| gx_then <| gc_seq <| gc_block <| gc_region <| gl_op <| op_rd rfl (rd_move rfl) <| gl_op <| op_rd rfl (rd_move rfl) <| gk_bool (fun h209 => ?_) (fun h209 => ?_)
    · refine gl_no rfl rfl rfl <| gl_no rfl rfl rfl <| gl_no rfl rfl rfl <| gl_no rfl rfl rfl <| gl_no rfl rfl rfl <| gl_no rfl rfl rfl <| gl_op <| op_rd rfl (rd_pick_t rfl rfl) <| gl_op <| op_rd rfl (rd_assign rfl) <| gl_nil <| gx_block <| gx_then <| gc_region <| gl_op <| op_rd rfl (rd_move rfl) <| gl_op (op_rd rfl (by exact rd_addN (b := 1) rfl rfl (by omega)) ?_)
      refine gl_op <| op_rd rfl (rd_assign rfl) <| gl_nil <| gx_then ?_
      rw [show Value.bool true = .bool (anyK (critC (nOf l)) k9 (m + 1)) from congrArg Value.bool (anyK_yes h209).symm]
      exact gx_cut (m + 1) ⟨by omega, by omega⟩ ⟨rfl, rfl, rfl, rfl, rfl, rfl, rfl, trivial⟩ ⟨[0, 1, 2, 3], by decide, rfl⟩
    refine gl_yes rfl rfl <| op_rd rfl (rd_move rfl) <| gl_yes rfl rfl <| op_rd rfl (rd_move rfl) <| gl_yes rfl rfl (op_rd rfl (rd_indexRow1 2 rfl Try.underlying29 ty_3 rfl rfl (by omega) (by omega)) ?_)
    refine gl_yes rfl rfl <| op_rd rfl (rd_load Try.underlying3 rfl rfl (ld_rowN 2 rfl (get_nat hmx))) <| gl_yes rfl rfl <| op_rd rfl (rd_move rfl) <| gl_yes rfl rfl <| op_rd rfl (rd_eql rfl rfl) <| gl_op <| op_rd rfl (rd_pick_f rfl rfl) <| gl_op <| op_rd rfl (rd_assign rfl) <| gl_nil <| gx_block <| gx_then <| gc_region <| gl_op <| op_rd rfl (rd_move rfl) <| gl_op (op_rd rfl (by exact rd_addN (b := 1) rfl rfl (by omega)) ?_)
    refine gl_op <| op_rd rfl (rd_assign rfl) <| gl_nil <| gx_then ?_
    rw [show Value.bool (decide _) = .bool (anyK (critC (nOf l)) k9 (m + 1)) from congrArg Value.bool (by rw [anyK_next hmx h209, decide_eq_decide]; omega)]
    exact gx_cut (m + 1) ⟨by omega, by omega⟩ ⟨rfl, rfl, rfl, rfl, rfl, rfl, rfl, trivial⟩ ⟨[0, 1, 2, 3], by decide, rfl⟩
  have hm9 : m = (critC (nOf l)).length := by omega
  rw [hm9, anyK_all hg hk9]
  refine gl_nil <| gx_then <| gc_cond_f rfl <| gc_exit <| gx_then_exit <| gx_then_exit <| gx_block_exit <| gx_then <| gc_seq <| gc_region <| gl_op <| op_rd rfl (rd_move rfl) <| gl_op <| op_rd rfl (rd_move rfl) <| gl_op <| op_rd rfl (rd_move rfl) ?_
  refine gl_op (op_call rfl (vf := []) (vc := []) rfl rfl Try.call22 (fun w1 ho => by
    have h9 := rEnd_ok a c (nOf l) hg.ok (rowA r142) c142 (lateF (nOf l) (earlC (nOf l)) k9) hll hlb w1 (hN.at ho) (by rw [hll]; exact ho.rowSl 0 rfl)
    rw [hll] at h9
    exact h9) ?_)
  rintro _ _ ⟨rfl, rfl⟩
  refine gl_op <| op_rd rfl (rd_move rfl) <| gl_op <| op_rd rfl (rd_gtr rfl rfl) <| gl_op <| op_rd rfl (rd_eqlb Try.runUnderlying4 rfl rfl) ?_
  rw [beq_self_eq_true]
  refine gl_op <| op_rd rfl (rd_move rfl) <| gl_yes rfl rfl (op_call rfl (vf := []) (vc := []) rfl rfl Try.call9 (fun w1 ho => shown_ok w1) ?_)
  rintro _ _ ⟨rfl, rfl⟩
  refine gl_op <| op_rd rfl (rd_pick_t rfl rfl) <| gl_op <| op_rd rfl (rd_assign rfl) <| gl_nil <| gx_then <| gc_ret <| gx_ret1 (.inl rfl) Try.results7 rfl [] (by decide) ?_
  exact ⟨rfl, rfl⟩
theorem law7_ok (a : Option Addr) (c : Nat) (l : List JI) (hle : JsLe l)  (q : Option Addr) (cq : Nat) (ats : List Int) (hal : ats.length ≤ 140737488355328) (kd : Int) (hkd : 0 ≤ kd ∧ kd ≤ 255) (w0 : World) (hJ : JsIn a l w0 []) (hT : OldSl w0 [] q ats.length 1 (ats.map intV)) : Sp Try.prog 7 [.slice a l.length c, .slice q ats.length cq, .int .u8 kd] w0 [] (RV (.bool true)) := by
  obtain ⟨k, rfl⟩ : ∃ k : Nat, kd = k := ⟨kd.toNat, by omega⟩
  exact law7_raw a c l hle q cq ats hal k (by omega) w0 hJ hT
end Go.Proofs.Ytafmcflggikbfaa
