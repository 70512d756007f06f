import Derived.Test.YtafmcflggikbfaaW03
import Derived.Test.YtafmcflggikbfaaW00
import Derived.Test.YtafmcflggikbfaaW02
/- A part of the proof: walks of the program. -/
set_option autoImplicit false
set_option linter.unusedSimpArgs false
set_option linter.unusedVariables false
set_option linter.unnecessarySimpa false
namespace Go.Proofs.Ytafmcflggikbfaa
open Go.Gv
open Go.RowKit
open Go.Sn
open Go.Wk
open Sx
namespace Sx
theorem perm_sorted_eq : ∀ {a b : List Nat}, a.Perm b → a.Pairwise (· ≤ ·) → b.Pairwise (· ≤ ·) → a = b
  | [], b, h, _, _ => by rw [List.nil_perm.1 h]
  | x :: xs, [], h, _, _ => by have := h.length_eq; simp at this
  | x :: xs, y :: ys, h, ha, hb => by
    have h1 : x ≤ y := by
      have : y ∈ x :: xs := h.mem_iff.2 List.mem_cons_self
      rcases List.mem_cons.1 this with e | e
      · omega
      · exact (List.pairwise_cons.1 ha).1 y e
    have h2 : y ≤ x := by
      have : x ∈ y :: ys := h.mem_iff.1 List.mem_cons_self
      rcases List.mem_cons.1 this with e | e
      · omega
      · exact (List.pairwise_cons.1 hb).1 x e
    have e : x = y := by omega
    subst e
    rw [perm_sorted_eq h.cons_inv (List.pairwise_cons.1 ha).2 (List.pairwise_cons.1 hb).2]
def srt (ts : List Nat) : List Nat := ts.mergeSort (fun a b => decide (a ≤ b))
theorem srt_perm (ts : List Nat) : (srt ts).Perm ts := List.mergeSort_perm ts _
theorem srt_sorted (ts : List Nat) : (srt ts).Pairwise (· ≤ ·) := by
  have := List.pairwise_mergeSort (le := fun a b : Nat => decide (a ≤ b)) (fun a b c h1 h2 => by simp at *; omega) (fun a b => by simp; omega) ts
  refine List.Pairwise.imp ?_ this
  intro a b h
  simpa using h
theorem srt_eq {ts xs : List Nat} (h : xs.Perm ts) (hs : xs.Pairwise (· ≤ ·)) : xs = srt ts := perm_sorted_eq (h.trans (srt_perm ts).symm) hs (srt_sorted ts)
theorem srt_len (ts : List Nat) : (srt ts).length = ts.length := (srt_perm ts).length_eq
/-- a round of the insertion sort: the list with the element x at place j of the first ones, pre -/
def insJ (pre rest : List Nat) (x j : Nat) : List Nat := pre.take j ++ x :: (pre.drop j ++ rest)
theorem insJ_len (pre rest : List Nat) (x j : Nat) : (insJ pre rest x j).length = pre.length + 1 + rest.length := by
  unfold insJ
  simp only [List.length_append, List.length_take, List.length_cons, List.length_drop]
  omega
theorem insJ_start (xs : List Nat) {i x : Nat} (h : xs[i]? = some x) : insJ (xs.take i) (xs.drop (i + 1)) x (xs.take i).length = xs := by
  unfold insJ
  rw [List.take_length, List.drop_length, List.nil_append]
  have := drop_at h
  rw [← this, List.take_append_drop]
theorem insJ_perm (pre rest : List Nat) (x j : Nat) : (insJ pre rest x j).Perm (pre ++ x :: rest) := by
  unfold insJ
  have h1 : (pre.take j ++ x :: (pre.drop j ++ rest)).Perm (x :: (pre.take j ++ (pre.drop j ++ rest))) := List.perm_middle
  refine h1.trans ?_
  rw [← List.append_assoc, List.take_append_drop]
  exact List.perm_middle.symm
theorem insJ_at {pre rest : List Nat} {x j : Nat} (hj : j ≤ pre.length) : (insJ pre rest x j)[j]? = some x := by
  unfold insJ
  rw [List.getElem?_append_right (by rw [List.length_take]; omega), List.length_take, Nat.min_eq_left hj, Nat.sub_self]; rfl
theorem insJ_before {pre rest : List Nat} {x j y : Nat} (hj : j < pre.length) (hy : pre[j]? = some y) : (insJ pre rest x (j + 1))[j]? = some y := by
  unfold insJ
  rw [List.getElem?_append_left (by rw [List.length_take]; omega), List.getElem?_take, if_pos (by omega)]; exact hy
theorem insJ_swap {pre rest : List Nat} {x j y : Nat} (hj : j < pre.length) (hy : pre[j]? = some y) : ((insJ pre rest x (j + 1)).set (j + 1) y).set j x = insJ pre rest x j := by
  apply List.ext_getElem?
  intro q
  have e1 : ∀ q, (insJ pre rest x (j + 1))[q]? = if q ≤ j then pre[q]? else if q = j + 1 then some x else (pre.drop (j + 1) ++ rest)[q - (j + 2)]? := fun q => by
    unfold insJ
    rw [List.getElem?_append, List.length_take, Nat.min_eq_left (by omega)]
    by_cases h : q < j + 1
    · rw [if_pos h, if_pos (by omega), List.getElem?_take, if_pos h]
    · rw [if_neg h, if_neg (by omega)]
      by_cases h2 : q = j + 1
      · rw [if_pos h2, h2, Nat.sub_self]; rfl
      · rw [if_neg h2, show q - (j + 1) = (q - (j + 2)) + 1 by omega, List.getElem?_cons_succ]
  have e2 : ∀ q, (insJ pre rest x j)[q]? = if q < j then pre[q]? else if q = j then some x else (pre.drop j ++ rest)[q - (j + 1)]? := fun q => by
    unfold insJ
    rw [List.getElem?_append, List.length_take, Nat.min_eq_left (by omega)]
    by_cases h : q < j
    · rw [if_pos h, if_pos h, List.getElem?_take, if_pos h]
    · rw [if_neg h, if_neg h]
      by_cases h2 : q = j
      · rw [if_pos h2, h2, Nat.sub_self]; rfl
      · rw [if_neg h2, show q - j = (q - (j + 1)) + 1 by omega, List.getElem?_cons_succ]
  have hl := insJ_len pre rest x (j + 1)
  rw [List.getElem?_set, List.getElem?_set, List.length_set, hl, e1, e2]
  by_cases h1 : j = q
  · rw [if_pos h1, if_pos (by omega), if_neg (by omega), if_pos h1.symm]
  · rw [if_neg h1]
    by_cases h2 : j + 1 = q
    · subst h2
      rw [if_pos rfl, if_pos (by omega), if_neg (by omega), if_neg (by omega), Nat.sub_self, drop_at hy]; rfl
    · rw [if_neg h2]
      by_cases h3 : q < j
      · rw [if_pos (by omega), if_pos h3]
      · rw [if_neg (by omega), if_neg (by omega), if_neg h3, if_neg (by omega), drop_at hy, List.cons_append, show q - (j + 1) = (q - (j + 2)) + 1 by omega, List.getElem?_cons_succ]
theorem insJ_sorted {pre rest : List Nat} {x j : Nat} (hp : pre.Pairwise (· ≤ ·)) (hj : j ≤ pre.length) (h1 : ∀ y ∈ pre.drop j, x ≤ y) (h2 : ∀ y ∈ pre.take j, y ≤ x) : ((insJ pre rest x j).take (pre.length + 1)).Pairwise (· ≤ ·) := by
  have e : (insJ pre rest x j).take (pre.length + 1) = pre.take j ++ x :: pre.drop j := by
    unfold insJ
    rw [show pre.take j ++ x :: (pre.drop j ++ rest) = (pre.take j ++ x :: pre.drop j) ++ rest by simp]
    rw [List.take_append_of_le_length (by simp only [List.length_append, List.length_take, List.length_cons, List.length_drop]; omega)]
    rw [List.take_of_length_le (by simp only [List.length_append, List.length_take, List.length_cons, List.length_drop]; omega)]
  rw [e]
  have h0 : (pre.take j ++ pre.drop j).Pairwise (· ≤ ·) := by rw [List.take_append_drop]; exact hp
  rw [List.pairwise_append] at h0 ⊢
  refine ⟨h0.1, List.pairwise_cons.2 ⟨h1, h0.2.1⟩, fun a ha b hb => ?_⟩
  rcases List.mem_cons.1 hb with rfl | hb
  · exact h2 a ha
  · exact h0.2.2 a ha b hb
theorem take_le_last {pre : List Nat} {j y : Nat} (hp : pre.Pairwise (· ≤ ·)) (hy : pre[j]? = some y) : ∀ z ∈ pre.take (j + 1), z ≤ y := fun z hz => by
  rw [take_at hy] at hz
  rcases List.mem_append.1 hz with hz | hz
  · have h0 : (pre.take j ++ pre.drop j).Pairwise (· ≤ ·) := by rw [List.take_append_drop]; exact hp
    rw [drop_at hy] at h0
    exact (List.pairwise_append.1 h0).2.2 z hz y List.mem_cons_self
  · rw [List.mem_singleton.1 hz]; exact Nat.le_refl _
theorem get_nat {xs : List Nat} {k x : Nat} (h : xs[k]? = some x) : (xs.map natV)[k]? = some (natV x) := by rw [List.getElem?_map, h]; rfl
theorem ba_get {s : ByteArray} {n : Nat} (h : n < s.size) : ∃ b, s[n]? = some b := ⟨s[n], getElem?_pos s n h⟩
theorem wrap8_ok {n : Nat} (h : n ≤ 100) : IntKind.wrap .u8 (n : Int) = (n : Int) := by
  simp [IntKind.wrap, IntKind.bits, IntKind.signed]
  omega
theorem one_sorted (ts : List Nat) : (ts.take 1).Pairwise (· ≤ ·) := by
  cases ts with
  | nil => simp
  | cons a l => simp
end Sx
open Sx
set_option maxRecDepth 100000 in
set_option maxHeartbeats 1000000 in
theorem isNaN_ok (x : Nat) (w0 : World) : Sp Try.prog 76 [natV x] w0 [] (RV (.bool false)) := by
  refine spec_enter Try.func76 rfl Try.ntmps76 rfl (Own.refl _) ?_
  simp only [argEnv]
  refine gc_seq <| gc_region <| gl_op <| op_rd rfl (rd_assign rfl) <| gl_nil <| gx_then <| gc_seq <| gc_region <| gl_op <| op_rd rfl (rd_move rfl) <| gl_op <| op_rd rfl (rd_move rfl) <| gl_op <| op_rd rfl (rd_neq rfl rfl) <| gl_op <| op_rd rfl (rd_assign rfl) <| gl_nil <| gx_then <| gc_ret <| gx_ret1 (.inl rfl) Try.results76 rfl [] (by decide) ?_
  refine ⟨congrArg Value.bool (decide_eq_false (by simp)), rfl⟩
set_option maxRecDepth 100000 in
set_option maxHeartbeats 1000000 in
theorem less64_ok (x y : Nat) (w0 : World) : Sp Try.prog 85 [natV x, natV y] w0 [] (RV (.bool (decide (x < y)))) := by
  refine spec_enter Try.func85 rfl Try.ntmps85 rfl (Own.refl _) ?_
  simp only [argEnv]
  refine gc_seq <| gc_region <| gl_op <| op_rd rfl (rd_assign rfl) <| gl_nil <| gx_then <| gc_seq <| gc_region <| gl_op <| op_rd rfl (rd_move rfl) <| gl_op (op_call rfl (vf := []) (vc := []) rfl rfl Try.call76 (fun w1 ho => isNaN_ok x w1) ?_)
  rintro _ _ ⟨rfl, rfl⟩
  refine gl_op <| op_rd rfl (rd_move rfl) <| gl_no rfl rfl rfl <| gl_no rfl rfl rfl <| gl_no rfl rfl rfl <| gl_op <| op_rd rfl (rd_pick_f rfl rfl) <| gl_op <| op_rd rfl (rd_move rfl) <| gl_yes rfl rfl <| op_rd rfl (rd_move rfl) <| gl_yes rfl rfl <| op_rd rfl (rd_move rfl) <| gl_yes rfl rfl <| op_rd rfl (rd_lss rfl rfl) <| gl_op <| op_rd rfl (rd_pick_f rfl rfl) <| gl_op <| op_rd rfl (rd_assign rfl) <| gl_nil <| gx_then <| gc_ret <| gx_ret1 (.inl rfl) Try.results85 rfl [] (by decide) ?_
  refine ⟨congrArg Value.bool ?_, rfl⟩
  rw [decide_eq_decide]; omega
set_option maxRecDepth 100000 in
set_option maxHeartbeats 1000000 in
theorem len64_ok (n : Nat) (hn : n ≤ 100) (w0 : World) : Sp Try.prog 89 [.int .u64 (n : Int)] w0 [] (fun v L => ∃ r : Nat, v = natV r ∧ L = []) := by
  refine spec_enter Try.func89 rfl Try.ntmps89 rfl (Own.refl _) ?_
  simp only [argEnv]
  refine gc_seq <| gc_region <| gl_op <| op_rd rfl (rd_assign rfl) <| gl_nil <| gx_then <| gc_seq <| gc_seq <| gc_region <| gl_op <| op_rd rfl (rd_move rfl) <| gl_op (op_rd rfl (rd_geq rfl rfl) (gk_dec (fun h4 => ?_) (fun h4 => ?_)))
  · exfalso; omega
  refine gl_nil <| gx_then <| gc_cond_f rfl <| gc_skip <| gx_then <| gc_seq <| gc_seq <| gc_region <| gl_op <| op_rd rfl (rd_move rfl) <| gl_op (op_rd rfl (rd_geq rfl rfl) (gk_dec (fun h8 => ?_) (fun h8 => ?_)))
  · exfalso; omega
  refine gl_nil <| gx_then <| gc_cond_f rfl <| gc_skip <| gx_then <| gc_seq <| gc_seq <| gc_region <| gl_op <| op_rd rfl (rd_move rfl) <| gl_op (op_rd rfl (rd_geq rfl rfl) (gk_dec (fun h14 => ?_) (fun h14 => ?_)))
  · exfalso; omega
  refine gl_nil <| gx_then <| gc_cond_f rfl <| gc_skip <| gx_then <| gc_seq <| gc_region <| gl_op <| op_rd rfl (rd_move rfl) <| gl_op <| op_rd rfl (rd_move rfl) <| gl_op <| op_rd rfl (rd_conv Try.runUnderlying121 Try.runUnderlying5 rfl (show IntKind.wrap .u8 (n : Int) = (n : Int) from wrap8_ok hn)) ?_
  obtain ⟨b, hb⟩ := ba_get (s := ⟨#[0, 1, 2, 2, 3, 3, 3, 3, 4, 4, 4, 4, 4, 4, 4, 4, 5, 5, 5, 5, 5, 5, 5, 5, 5, 5, 5, 5, 5, 5, 5, 5, 6, 6, 6, 6, 6, 6, 6, 6, 6, 6, 6, 6, 6, 6, 6, 6, 6, 6, 6, 6, 6, 6, 6, 6, 6, 6, 6, 6, 6, 6, 6, 6, 7, 7, 7, 7, 7, 7, 7, 7, 7, 7, 7, 7, 7, 7, 7, 7, 7, 7, 7, 7, 7, 7, 7, 7, 7, 7, 7, 7, 7, 7, 7, 7, 7, 7, 7, 7, 7, 7, 7, 7, 7, 7, 7, 7, 7, 7, 7, 7, 7, 7, 7, 7, 7, 7, 7, 7, 7, 7, 7, 7, 7, 7, 7, 7, 8, 8, 8, 8, 8, 8, 8, 8, 8, 8, 8, 8, 8, 8, 8, 8, 8, 8, 8, 8, 8, 8, 8, 8, 8, 8, 8, 8, 8, 8, 8, 8, 8, 8, 8, 8, 8, 8, 8, 8, 8, 8, 8, 8, 8, 8, 8, 8, 8, 8, 8, 8, 8, 8, 8, 8, 8, 8, 8, 8, 8, 8, 8, 8, 8, 8, 8, 8, 8, 8, 8, 8, 8, 8, 8, 8, 8, 8, 8, 8, 8, 8, 8, 8, 8, 8, 8, 8, 8, 8, 8, 8, 8, 8, 8, 8, 8, 8, 8, 8, 8, 8, 8, 8, 8, 8, 8, 8, 8, 8, 8, 8, 8, 8, 8, 8, 8, 8, 8, 8, 8, 8, 8, 8, 8, 8, 8, 8]⟩) (n := n) (show n < 256 by omega)
  have hb8 : b.toNat < 256 := b.toNat_lt
  refine gl_op <| op_rd rfl (rd_indexStr Try.underlying9 rfl rfl (hb)) <| gl_op (op_rd rfl (rd_conv Try.runUnderlying5 Try.runUnderlying3 rfl (wrap64_ok (by omega) (by omega))) ?_)
  refine gl_op (op_rd rfl (rd_addN (a := 0) rfl rfl (by omega)) ?_)
  refine gl_op <| op_rd rfl (rd_assign rfl) <| gl_nil <| gx_then <| gc_ret <| gx_ret1 (.inl rfl) Try.results89 rfl [] (by decide) ?_
  exact ⟨_, rfl, rfl⟩
set_option maxRecDepth 100000 in
set_option maxHeartbeats 1000000 in
theorem len_ok (n : Nat) (hn : n ≤ 100) (w0 : World) : Sp Try.prog 78 [.int .u64 (n : Int)] w0 [] (fun v L => ∃ r : Nat, v = natV r ∧ L = []) := by
  refine spec_enter Try.func78 rfl Try.ntmps78 rfl (Own.refl _) ?_
  simp only [argEnv]
  refine gc_seq <| gc_region <| gl_op <| op_rd rfl (rd_assign rfl) <| gl_nil <| gx_then <| gc_seq <| gc_cond_f rfl <| gc_skip <| gx_then <| gc_seq <| gc_region <| gl_op <| op_rd rfl (rd_move rfl) <| gl_op (op_call rfl (vf := []) (vc := []) rfl rfl Try.call89 (fun w1 ho => len64_ok n hn w1) ?_)
  rintro _ _ ⟨r, rfl, rfl⟩
  refine gl_op <| op_rd rfl (rd_assign rfl) <| gl_nil <| gx_then <| gc_ret <| gx_ret1 (.inl rfl) Try.results78 rfl [] (by decide) ?_
  exact ⟨r, rfl, rfl⟩
set_option maxRecDepth 100000 in
set_option maxHeartbeats 1000000 in
theorem insort_ok (ts : List Nat) (h1 : 1 ≤ ts.length) (h12 : ts.length ≤ 12) (r : Option Nat) (c : Nat) (w0 : World) (hown : Own w0 ([.row 2 1 r ts.length c (ts.map natV)].filterMap HL.block) w0 [.row 2 1 r ts.length c ((ts).map natV)]) : Sp Try.prog 79 [.slice (rowA r) ts.length c, natV 0, natV ts.length] w0 ([.row 2 1 r ts.length c (ts.map natV)].filterMap HL.block) (fun v L => v = .tuple #[] ∧ L = [.row 2 1 r ts.length c ((srt ts).map natV)]) := by
  refine spec_enter Try.func79 rfl Try.ntmps79 rfl hown ?_
  simp only [argEnv]
  refine gc_seq <| gc_region <| gl_op <| op_rd rfl (rd_move rfl) <| gl_op (op_rd rfl (by exact rd_addN (b := 1) rfl rfl (by omega)) ?_)
  refine gl_op <| op_rd rfl (rd_assign rfl) <| gl_nil <| gx_then <| gc_block <| gc_loopF (ι := Nat × List Nat) [(0, _), (1, _), (2, _)] [] (fun q => 1 ≤ q.1 ∧ q.1 ≤ ts.length ∧ q.2.Perm ts ∧ (q.2.take q.1).Pairwise (· ≤ ·)) (fun q Fr0 => ((6, natV q.1) :: Fr0)) (fun q Fr0 => (.row 2 1 r ts.length c ((q.2).map natV) :: Fr0)) (fun q => ts.length - q.1) (1, ts) (⟨Nat.le_refl _, h1, List.Perm.refl _, one_sorted ts⟩) ⟨rfl, rfl, rfl, rfl, trivial⟩ ⟨[0], by decide, rfl⟩ ?_
  rintro ⟨i, xs⟩ ⟨hi1, hil, hpm, hso⟩
  simp only at hi1 hil hpm hso ⊢
  have hxl := hpm.length_eq
  refine gc_seq <| gc_seq <| gc_region <| gl_op <| op_rd rfl (rd_move rfl) <| gl_op <| op_rd rfl (rd_move rfl) <| gl_op (op_rd rfl (rd_lss rfl rfl) (gk_dec (fun h12b => ?_) (fun h12b => ?_)))
  · obtain ⟨x, hx⟩ := get_some (show i < xs.length by omega)
    have htl : (xs.take i).length = i := by rw [List.length_take]; omega
    rw [show xs.map natV = (insJ (xs.take i) (xs.drop (i + 1)) x (xs.take i).length).map natV by rw [insJ_start xs hx]]
    rw [htl]
    refine gl_nil <| gx_then <| gc_cond_t rfl <| gc_skip <| gx_then <| gc_seq <| gc_block <| gc_seq <| gc_region <| gl_op <| op_rd rfl (rd_move rfl) <| gl_op <| op_rd rfl (rd_assign rfl) <| gl_nil <| gx_then <| gc_block <| gc_loopF (ι := Nat) [(0, _), (1, _), (2, _), (6, _)] [] (fun j1 => j1 ≤ i ∧ ∀ y ∈ (xs.take i).drop j1, x ≤ y) (fun j1 Fr0 => ((7, natV j1) :: Fr0)) (fun j1 Fr0 => (.row 2 1 r ts.length c ((insJ (xs.take i) (xs.drop (i + 1)) x j1).map natV) :: Fr0)) (fun j1 => j1) i (⟨Nat.le_refl _, fun y hy => absurd hy (by rw [List.drop_eq_nil_of_le (by rw [htl]; exact Nat.le_refl _)]; simp)⟩) ⟨rfl, rfl, rfl, rfl, rfl, trivial⟩ ⟨[0], by decide, rfl⟩ ?_
    rintro j1 ⟨hj, hgt⟩
    have hcl := insJ_len (xs.take i) (xs.drop (i + 1)) x j1
    rw [htl, List.length_drop] at hcl
    refine gc_seq <| gc_seq <| gc_drawP [0] true 14 rfl <| ga_first 0 (bm 15 1) rfl rfl rfl rfl (by kernel_rfl) (by kernel_rfl) ⟨[0], by decide, rfl⟩ (qt_rd (rd_move rfl)) ?_
    refine ga_first 1 (bm 15 3) rfl rfl rfl rfl (by kernel_rfl) (by kernel_rfl) ⟨[0], by decide, rfl⟩ (qt_rd (rd_move rfl)) ?_
    refine ga_first 2 (bm 15 7) rfl rfl rfl rfl (by kernel_rfl) (by kernel_rfl) ⟨[0], by decide, rfl⟩ (qt_rd (rd_gtr rfl rfl)) (gk_dec (fun h18 => ?_) (fun h18 => ?_))
    · obtain ⟨j, rfl⟩ : ∃ j, j1 = j + 1 := ⟨j1 - 1, by omega⟩
      obtain ⟨y9, hy9⟩ := get_some (show j < (xs.take i).length by omega)
      refine ga_first 3 (bm 15 15) rfl rfl rfl rfl (by kernel_rfl) (by kernel_rfl) ⟨[0], by decide, rfl⟩ (qt_rd (rd_move rfl)) ?_
      refine ga_firstY 4 (bm 15 31) rfl rfl rfl rfl rfl rfl (by kernel_rfl) (by kernel_rfl) ⟨[0], by decide, rfl⟩ (qt_rd (rd_move rfl)) ?_
      refine ga_firstY 5 (bm 15 63) rfl rfl rfl rfl rfl rfl (by kernel_rfl) (by kernel_rfl) ⟨[0], by decide, rfl⟩ (qt_rd (rd_move rfl)) ?_
      refine ga_firstY 6 (bm 15 127) rfl rfl rfl rfl rfl rfl (by kernel_rfl) (by kernel_rfl) ⟨[0], by decide, rfl⟩ (qt_rd (rd_indexRow1 0 rfl Try.underlying25 ty_2 rfl rfl (by omega) (by omega))) ?_
      refine ga_firstY 7 (bm 15 255) rfl rfl rfl rfl rfl rfl (by kernel_rfl) (by kernel_rfl) ⟨[0], by decide, rfl⟩ (qt_rd (rd_load Try.underlying2 rfl rfl (ld_rowN 0 rfl (get_nat (insJ_at (by omega)))))) ?_
      refine ga_firstY 8 (bm 15 511) rfl rfl rfl rfl rfl rfl (by kernel_rfl) (by kernel_rfl) ⟨[0], by decide, rfl⟩ (qt_rd (rd_move rfl)) ?_
      refine ga_firstY 9 (bm 15 1023) rfl rfl rfl rfl rfl rfl (by kernel_rfl) (by kernel_rfl) ⟨[0], by decide, rfl⟩ (qt_rd (rd_move rfl)) ?_
      refine ga_firstY 10 (bm 15 2047) rfl rfl rfl rfl rfl rfl (by kernel_rfl) (by kernel_rfl) ⟨[0], by decide, rfl⟩ (qt_rd (rd_subN (a := j + 1) (b := 1) rfl rfl (by omega) (by omega))) ?_
      refine ga_firstY 11 (bm 15 4095) rfl rfl rfl rfl rfl rfl (by kernel_rfl) (by kernel_rfl) ⟨[0], by decide, rfl⟩ (qt_rd (rd_indexRow1 0 rfl Try.underlying25 ty_2 rfl rfl (by omega) (by omega))) ?_
      refine ga_firstY 12 (bm 15 8191) rfl rfl rfl rfl rfl rfl (by kernel_rfl) (by kernel_rfl) ⟨[0], by decide, rfl⟩ (qt_rd (rd_load Try.underlying2 rfl rfl (ld_rowN 0 rfl (get_nat (insJ_before (by omega) hy9))))) ?_
      refine ga_firstY 13 (bm 15 16383) rfl rfl rfl rfl rfl rfl (by kernel_rfl) (by kernel_rfl) ⟨[0], by decide, rfl⟩ (qt_call (vf := []) (vc := []) rfl rfl Try.call85 (fun w1 ho => less64_ok x y9 w1) (by rintro _ _ ⟨h, _⟩; exact h)) ?_
      refine gk_bool (fun hl => ?_) (fun hl => ?_)
      · have hlt := of_decide_eq_true hl
        refine ga_first 14 (bm 15 32767) rfl rfl rfl rfl (by kernel_rfl) (by kernel_rfl) ⟨[0], by decide, rfl⟩ (qt_rd (rd_pick_t rfl rfl)) ?_
        refine ga_end (by kernel_rfl) (.inr ⟨[0], by decide, rfl⟩) ?_
        refine gx_then <| gc_cond_t rfl <| gc_skip <| gx_then <| gc_seq <| gc_block <| gc_drawP [0] false 13 rfl <| ga_firstT 0 (bm 18 1) rfl rfl rfl rfl (by kernel_rfl) (by kernel_rfl) (fun _ => rd_move rfl) ?_
        refine ga_firstT 1 (bm 18 3) rfl rfl rfl rfl (by kernel_rfl) (by kernel_rfl) (fun _ => rd_move rfl) ?_
        refine ga_firstT 2 (bm 18 7) rfl rfl rfl rfl (by kernel_rfl) (by kernel_rfl) (fun _ => rd_move rfl) ?_
        refine ga_firstT 3 (bm 18 15) rfl rfl rfl rfl (by kernel_rfl) (by kernel_rfl) (fun _ => rd_move rfl) ?_
        refine ga_firstT 4 (bm 18 31) rfl rfl rfl rfl (by kernel_rfl) (by kernel_rfl) (fun _ => rd_subN (a := j + 1) (b := 1) rfl rfl (by omega) (by omega)) ?_
        refine ga_firstT 5 (bm 18 63) rfl rfl rfl rfl (by kernel_rfl) (by kernel_rfl) (fun _ => rd_move rfl) ?_
        refine ga_firstT 6 (bm 18 127) rfl rfl rfl rfl (by kernel_rfl) (by kernel_rfl) (fun _ => rd_move rfl) ?_
        refine ga_firstT 7 (bm 18 255) rfl rfl rfl rfl (by kernel_rfl) (by kernel_rfl) (fun _ => rd_subN (a := j + 1) (b := 1) rfl rfl (by omega) (by omega)) ?_
        refine ga_firstT 10 (bm 18 1279) rfl rfl rfl rfl (by kernel_rfl) (by kernel_rfl) (fun _ => rd_move rfl) ?_
        refine ga_firstT 11 (bm 18 3327) rfl rfl rfl rfl (by kernel_rfl) (by kernel_rfl) (fun _ => rd_move rfl) ?_
        refine ga_first 12 (bm 18 7423) rfl rfl rfl rfl (by kernel_rfl) (by kernel_rfl) ⟨[0], by decide, rfl⟩ (qt_rd (rd_indexRow1 0 rfl Try.underlying25 ty_2 rfl rfl (by omega) (by omega))) ?_
        refine ga_two 8 13 (bm 18 7679) (bm 18 15615) rfl rfl rfl rfl (by kernel_rfl) (by kernel_rfl) (by kernel_rfl) (.inr ⟨[0], by decide, rfl⟩) ?_ ?_
        · refine (op_rd rfl (rd_indexRow1 0 rfl Try.underlying25 ty_2 rfl rfl (by omega) (by omega)) ?_)
          refine ga_two 9 13 (bm 18 8191) (bm 18 15871) rfl rfl rfl rfl (by kernel_rfl) (by kernel_rfl) (by kernel_rfl) (.inr ⟨[0], by decide, rfl⟩) ?_ ?_
          · refine (op_rd rfl (rd_load Try.underlying2 rfl rfl (ld_rowN 0 rfl (get_nat (insJ_before (by omega) hy9)))) ?_)
            refine ga_only 13 (bm 18 16383) rfl rfl (by kernel_rfl) (by kernel_rfl) (.inr ⟨[0], by decide, rfl⟩) (op_rd rfl (rd_load Try.underlying2 rfl rfl (ld_rowN 0 rfl (get_nat (insJ_at (by omega))))) ?_)
            refine ga_only 14 (bm 18 32767) rfl rfl (by kernel_rfl) (by kernel_rfl) (.inl (by kernel_rfl)) (op_rd rfl (rd_indexRow1 0 rfl Try.underlying25 ty_2 rfl rfl (by omega) (by omega)) ?_)
            refine ga_only 15 (bm 18 65535) rfl rfl (by kernel_rfl) (by kernel_rfl) (.inl (by kernel_rfl)) (op_storeRowE 0 ty_2 rfl rfl rfl rfl (by rw [List.length_map]; omega) (set_natL _ (j + 1) y9) (by rfl) ?_)
            refine ga_only 16 (bm 18 131071) rfl rfl (by kernel_rfl) (by kernel_rfl) (.inl (by kernel_rfl)) (op_rd rfl (rd_indexRow1 0 rfl Try.underlying25 ty_2 rfl rfl (by omega) (by omega)) ?_)
            refine ga_only 17 (bm 18 262143) rfl rfl (by kernel_rfl) (by kernel_rfl) (.inl (by kernel_rfl)) (op_storeRowE 0 ty_2 rfl rfl rfl rfl (by rw [List.length_map]; (rw [List.length_set]; omega)) ((set_natL _ j x).trans (congrArg (List.map natV) (insJ_swap (by omega) hy9))) (by rfl) ?_)
            refine ga_end (by kernel_rfl) (.inl (by kernel_rfl)) ?_
            refine gx_block <| gx_then <| gc_region <| gl_op <| op_rd rfl (rd_move rfl) <| gl_op (op_rd rfl (rd_subN (a := j + 1) (b := 1) rfl rfl (by omega) (by omega)) ?_)
            refine gl_op <| op_rd rfl (rd_assign rfl) <| gl_nil <| gx_then ?_
            exact gx_cut (j) ⟨⟨by omega, fun y hy => by
              rw [drop_at hy9] at hy
              rcases List.mem_cons.1 hy with rfl | hy
              · exact Nat.le_of_lt hlt
              · exact hgt y hy⟩, by omega⟩ ⟨rfl, rfl, rfl, rfl, rfl, trivial⟩ ⟨[0], by decide, rfl⟩
          refine (op_rd rfl (rd_load Try.underlying2 rfl rfl (ld_rowN 0 rfl (get_nat (insJ_at (by omega))))) ?_)
          refine ga_only 9 (bm 18 16383) rfl rfl (by kernel_rfl) (by kernel_rfl) (.inl (by kernel_rfl)) (op_rd rfl (rd_load Try.underlying2 rfl rfl (ld_rowN 0 rfl (get_nat (insJ_before (by omega) hy9)))) ?_)
          refine ga_only 14 (bm 18 32767) rfl rfl (by kernel_rfl) (by kernel_rfl) (.inl (by kernel_rfl)) (op_rd rfl (rd_indexRow1 0 rfl Try.underlying25 ty_2 rfl rfl (by omega) (by omega)) ?_)
          refine ga_only 15 (bm 18 65535) rfl rfl (by kernel_rfl) (by kernel_rfl) (.inl (by kernel_rfl)) (op_storeRowE 0 ty_2 rfl rfl rfl rfl (by rw [List.length_map]; omega) (set_natL _ (j + 1) y9) (by rfl) ?_)
          refine ga_only 16 (bm 18 131071) rfl rfl (by kernel_rfl) (by kernel_rfl) (.inl (by kernel_rfl)) (op_rd rfl (rd_indexRow1 0 rfl Try.underlying25 ty_2 rfl rfl (by omega) (by omega)) ?_)
          refine ga_only 17 (bm 18 262143) rfl rfl (by kernel_rfl) (by kernel_rfl) (.inl (by kernel_rfl)) (op_storeRowE 0 ty_2 rfl rfl rfl rfl (by rw [List.length_map]; (rw [List.length_set]; omega)) ((set_natL _ j x).trans (congrArg (List.map natV) (insJ_swap (by omega) hy9))) (by rfl) ?_)
          refine ga_end (by kernel_rfl) (.inl (by kernel_rfl)) ?_
          refine gx_block <| gx_then <| gc_region <| gl_op <| op_rd rfl (rd_move rfl) <| gl_op (op_rd rfl (rd_subN (a := j + 1) (b := 1) rfl rfl (by omega) (by omega)) ?_)
          refine gl_op <| op_rd rfl (rd_assign rfl) <| gl_nil <| gx_then ?_
          exact gx_cut (j) ⟨⟨by omega, fun y hy => by
            rw [drop_at hy9] at hy
            rcases List.mem_cons.1 hy with rfl | hy
            · exact Nat.le_of_lt hlt
            · exact hgt y hy⟩, by omega⟩ ⟨rfl, rfl, rfl, rfl, rfl, trivial⟩ ⟨[0], by decide, rfl⟩
        refine (op_rd rfl (rd_load Try.underlying2 rfl rfl (ld_rowN 0 rfl (get_nat (insJ_at (by omega))))) ?_)
        refine ga_only 8 (bm 18 15871) rfl rfl (by kernel_rfl) (by kernel_rfl) (.inl (by kernel_rfl)) (op_rd rfl (rd_indexRow1 0 rfl Try.underlying25 ty_2 rfl rfl (by omega) (by omega)) ?_)
        refine ga_only 9 (bm 18 16383) rfl rfl (by kernel_rfl) (by kernel_rfl) (.inl (by kernel_rfl)) (op_rd rfl (rd_load Try.underlying2 rfl rfl (ld_rowN 0 rfl (get_nat (insJ_before (by omega) hy9)))) ?_)
        refine ga_only 14 (bm 18 32767) rfl rfl (by kernel_rfl) (by kernel_rfl) (.inl (by kernel_rfl)) (op_rd rfl (rd_indexRow1 0 rfl Try.underlying25 ty_2 rfl rfl (by omega) (by omega)) ?_)
        refine ga_only 15 (bm 18 65535) rfl rfl (by kernel_rfl) (by kernel_rfl) (.inl (by kernel_rfl)) (op_storeRowE 0 ty_2 rfl rfl rfl rfl (by rw [List.length_map]; omega) (set_natL _ (j + 1) y9) (by rfl) ?_)
        refine ga_only 16 (bm 18 131071) rfl rfl (by kernel_rfl) (by kernel_rfl) (.inl (by kernel_rfl)) (op_rd rfl (rd_indexRow1 0 rfl Try.underlying25 ty_2 rfl rfl (by omega) (by omega)) ?_)
        refine ga_only 17 (bm 18 262143) rfl rfl (by kernel_rfl) (by kernel_rfl) (.inl (by kernel_rfl)) (op_storeRowE 0 ty_2 rfl rfl rfl rfl (by rw [List.length_map]; (rw [List.length_set]; omega)) ((set_natL _ j x).trans (congrArg (List.map natV) (insJ_swap (by omega) hy9))) (by rfl) ?_)
        refine ga_end (by kernel_rfl) (.inl (by kernel_rfl)) ?_
        refine gx_block <| gx_then <| gc_region <| gl_op <| op_rd rfl (rd_move rfl) <| gl_op (op_rd rfl (rd_subN (a := j + 1) (b := 1) rfl rfl (by omega) (by omega)) ?_)
        refine gl_op <| op_rd rfl (rd_assign rfl) <| gl_nil <| gx_then ?_
        exact gx_cut (j) ⟨⟨by omega, fun y hy => by
          rw [drop_at hy9] at hy
          rcases List.mem_cons.1 hy with rfl | hy
          · exact Nat.le_of_lt hlt
          · exact hgt y hy⟩, by omega⟩ ⟨rfl, rfl, rfl, rfl, rfl, trivial⟩ ⟨[0], by decide, rfl⟩
      have hge := Nat.le_of_not_lt (of_decide_eq_false hl)
      refine ga_first 14 (bm 15 32767) rfl rfl rfl rfl (by kernel_rfl) (by kernel_rfl) ⟨[0], by decide, rfl⟩ (qt_rd (rd_pick_t rfl rfl)) ?_
      refine ga_end (by kernel_rfl) (.inr ⟨[0], by decide, rfl⟩) ?_
      refine gx_then <| gc_cond_f rfl <| gc_exit <| gx_then_exit <| gx_then_exit <| gx_block_exit <| gx_block <| gx_then <| gc_region <| gl_op <| op_rd rfl (rd_move rfl) <| gl_op (op_rd rfl (by exact rd_addN (b := 1) rfl rfl (by omega)) ?_)
      refine gl_op <| op_rd rfl (rd_assign rfl) <| gl_nil <| gx_then ?_
      have hfin := insJ_sorted (rest := xs.drop (i + 1)) (x := x) (j := j + 1) hso (by rw [htl]; omega) hgt (fun y hy => Nat.le_trans (take_le_last hso hy9 y hy) hge)
      exact gx_cut ((i + 1, insJ (xs.take i) (xs.drop (i + 1)) x (j + 1))) ⟨⟨by simp only; omega, by simp only; omega, (insJ_perm _ _ _ _).trans ((List.Perm.of_eq (by rw [← drop_at hx, List.take_append_drop])).trans hpm), by rw [htl] at hfin; exact hfin⟩, by simp only; omega⟩ ⟨rfl, rfl, rfl, rfl, trivial⟩ ⟨[0], by decide, rfl⟩
    refine ga_first 3 (bm 15 15) rfl rfl rfl rfl (by kernel_rfl) (by kernel_rfl) ⟨[0], by decide, rfl⟩ (qt_rd (rd_move rfl)) ?_
    refine ga_firstN 4 (bm 15 31) rfl rfl rfl rfl rfl rfl (by kernel_rfl) (by kernel_rfl) ⟨[0], by decide, rfl⟩ ?_
    refine ga_firstN 5 (bm 15 63) rfl rfl rfl rfl rfl rfl (by kernel_rfl) (by kernel_rfl) ⟨[0], by decide, rfl⟩ ?_
    refine ga_firstN 6 (bm 15 127) rfl rfl rfl rfl rfl rfl (by kernel_rfl) (by kernel_rfl) ⟨[0], by decide, rfl⟩ ?_
    refine ga_firstN 7 (bm 15 255) rfl rfl rfl rfl rfl rfl (by kernel_rfl) (by kernel_rfl) ⟨[0], by decide, rfl⟩ ?_
    refine ga_firstN 8 (bm 15 511) rfl rfl rfl rfl rfl rfl (by kernel_rfl) (by kernel_rfl) ⟨[0], by decide, rfl⟩ ?_
    refine ga_firstN 9 (bm 15 1023) rfl rfl rfl rfl rfl rfl (by kernel_rfl) (by kernel_rfl) ⟨[0], by decide, rfl⟩ ?_
    refine ga_firstN 10 (bm 15 2047) rfl rfl rfl rfl rfl rfl (by kernel_rfl) (by kernel_rfl) ⟨[0], by decide, rfl⟩ ?_
    refine ga_firstN 11 (bm 15 4095) rfl rfl rfl rfl rfl rfl (by kernel_rfl) (by kernel_rfl) ⟨[0], by decide, rfl⟩ ?_
    refine ga_firstN 12 (bm 15 8191) rfl rfl rfl rfl rfl rfl (by kernel_rfl) (by kernel_rfl) ⟨[0], by decide, rfl⟩ ?_
    refine ga_firstN 13 (bm 15 16383) rfl rfl rfl rfl rfl rfl (by kernel_rfl) (by kernel_rfl) ⟨[0], by decide, rfl⟩ ?_
    refine ga_first 14 (bm 15 32767) rfl rfl rfl rfl (by kernel_rfl) (by kernel_rfl) ⟨[0], by decide, rfl⟩ (qt_rd (rd_pick_f rfl rfl)) ?_
    refine ga_end (by kernel_rfl) (.inr ⟨[0], by decide, rfl⟩) ?_
    refine gx_then <| gc_cond_f rfl <| gc_exit <| gx_then_exit <| gx_then_exit <| gx_block_exit <| gx_block <| gx_then <| gc_region <| gl_op <| op_rd rfl (rd_move rfl) <| gl_op (op_rd rfl (by exact rd_addN (b := 1) rfl rfl (by omega)) ?_)
    refine gl_op <| op_rd rfl (rd_assign rfl) <| gl_nil <| gx_then ?_
    have hfin := insJ_sorted (rest := xs.drop (i + 1)) (x := x) (j := j1) hso (by rw [htl]; omega) hgt (fun y hy => absurd hy (by rw [show j1 = 0 by omega]; simp))
    exact gx_cut ((i + 1, insJ (xs.take i) (xs.drop (i + 1)) x j1)) ⟨⟨by simp only; omega, by simp only; omega, (insJ_perm _ _ _ _).trans ((List.Perm.of_eq (by rw [← drop_at hx, List.take_append_drop])).trans hpm), by rw [htl] at hfin; exact hfin⟩, by simp only; omega⟩ ⟨rfl, rfl, rfl, rfl, trivial⟩ ⟨[0], by decide, rfl⟩
  refine gl_nil <| gx_then <| gc_cond_f rfl <| gc_exit <| gx_then_exit <| gx_then_exit <| gx_block_exit <| gx_ret0 (.inr rfl) Try.results79 [0] (by decide) ?_
  have hi9 : i = ts.length := by omega
  subst hi9
  rw [List.take_of_length_le (by omega)] at hso
  rw [← srt_eq hpm hso]
  exact ⟨rfl, rfl⟩
end Go.Proofs.Ytafmcflggikbfaa
namespace Go.Proofs.Ytafmcflggikbfaa
open Go.Gv
open Go.RowKit
open Go.Sn
open Go.Wk
open Sx
namespace Sx
theorem drop_cons {l r : List Nat} {j a : Nat} (h : l.drop j = a :: r) : j < l.length ∧ l.getD j 0 = a ∧ l.drop (j + 1) = r := by
  have hl : j < l.length := by
    rcases Nat.lt_or_ge j l.length with h1 | h1
    · exact h1
    · rw [List.drop_eq_nil_of_le h1] at h; cases h
  obtain ⟨x, hx⟩ := get_some hl
  rw [drop_at hx] at h
  have h1 := (List.cons.inj h).1
  have h2 := (List.cons.inj h).2
  refine ⟨hl, ?_, h2⟩
  rw [List.getD_eq_getElem?_getD, hx]; exact h1
def freesL (shop : List Int) (l : List Jb) (p : Plc) (i : Nat) : List Nat := (srt (cand l p i l.length)).filter (freeB shop l p i)
theorem filt_yes {f : Nat → Bool} {xs : List Nat} {k t : Nat} (hx : xs[k]? = some t) (hf : f t = true) : (xs.drop k).filter f = t :: (xs.drop (k + 1)).filter f := by
  rw [drop_at hx]; simp [hf]
theorem filt_no {f : Nat → Bool} {xs : List Nat} {k t : Nat} (hx : xs[k]? = some t) (hf : f t = false) : (xs.drop k).filter f = (xs.drop (k + 1)).filter f := by
  rw [drop_at hx]; simp [hf]
end Sx
open Sx
set_option maxRecDepth 100000 in
set_option maxHeartbeats 1000000 in
theorem pdq_ok (ts : List Nat) (h1 : 1 ≤ ts.length) (h12 : ts.length ≤ 12) (r : Option Nat) (c : Nat) (w0 : World) (hown : Own w0 ([.row 2 1 r ts.length c (ts.map natV)].filterMap HL.block) w0 [.row 2 1 r ts.length c ((ts).map natV)]) (q : Nat) : Sp Try.prog 77 [.slice (rowA r) ts.length c, natV 0, natV ts.length, natV q] w0 ([.row 2 1 r ts.length c (ts.map natV)].filterMap HL.block) (fun v L => v = .tuple #[] ∧ L = [.row 2 1 r ts.length c ((srt ts).map natV)]) := by
  refine spec_enter Try.func77 rfl Try.ntmps77 rfl hown ?_
  simp only [argEnv]
  refine gc_seq <| gc_region <| gl_op <| op_rd rfl (rd_assign rfl) <| gl_nil <| gx_then <| gc_seq <| gc_region <| gl_op <| op_rd rfl (rd_assign rfl) <| gl_nil <| gx_then <| gc_block <| gc_loopF (ι := Unit) [(0, _)] [] (fun _ => True) (fun _ Fr0 => ((1, natV 0) :: (2, natV ts.length) :: (3, natV q) :: (8, .bool true) :: (9, .bool true) :: Fr0)) (fun _ Fr0 => (.row 2 1 r ts.length c ((ts).map natV) :: Fr0)) (fun _ => 0) () (trivial) ⟨rfl, rfl, rfl, rfl, rfl, rfl, trivial⟩ ⟨[0], by decide, rfl⟩ ?_
  rintro _ _
  refine gc_block <| gc_seq <| gc_region <| gl_op <| op_rd rfl (rd_move rfl) <| gl_op <| op_rd rfl (rd_move rfl) <| gl_op (op_rd rfl (rd_subN (a := ts.length) (b := 0) rfl rfl (by omega) (by omega)) ?_)
  refine gl_op <| op_rd rfl (rd_assign rfl) <| gl_nil <| gx_then <| gc_seq <| gc_seq <| gc_region <| gl_op <| op_rd rfl (rd_move rfl) <| gl_op (op_rd rfl (rd_leq rfl rfl) (gk_dec (fun h23 => ?_) (fun h23 => ?_)))
  · refine gl_nil <| gx_then <| gc_cond_t rfl <| gc_seq <| gc_region <| gl_op <| op_rd rfl (rd_move rfl) <| gl_op <| op_rd rfl (rd_move rfl) <| gl_op <| op_rd rfl (rd_move rfl) <| gl_op (op_callM [0] [] rfl (vf := []) (vc := []) rfl rfl Try.call79 (by decide) rfl (fun w how hc => insort_ok ts h1 h12 r c w hc) ?_)
    rintro _ _ ⟨rfl, rfl⟩
    refine gl_nil <| gx_then <| gc_ret <| gx_then_ret <| gx_block_ret <| gx_then_ret <| gx_block_ret <| gx_ret0 (.inl rfl) Try.results77 [0] (by decide) ?_
    exact ⟨rfl, rfl⟩
  exfalso; omega
set_option maxRecDepth 100000 in
set_option maxHeartbeats 1000000 in
theorem sort_ok (ts : List Nat) (h1 : 1 ≤ ts.length) (h12 : ts.length ≤ 12) (r : Option Nat) (c : Nat) (w0 : World) (hown : Own w0 ([.row 2 1 r ts.length c (ts.map natV)].filterMap HL.block) w0 [.row 2 1 r ts.length c ((ts).map natV)]) : Sp Try.prog 73 [.slice (rowA r) ts.length c] w0 ([.row 2 1 r ts.length c (ts.map natV)].filterMap HL.block) (fun v L => v = .tuple #[] ∧ L = [.row 2 1 r ts.length c ((srt ts).map natV)]) := by
  refine spec_enter Try.func73 rfl Try.ntmps73 rfl hown ?_
  simp only [argEnv]
  refine gc_seq <| gc_region <| gl_op <| op_rd rfl (rd_move rfl) <| gl_op <| op_rd rfl (rd_lenSlice Try.underlying25 rfl) <| gl_op <| op_rd rfl (rd_assign rfl) <| gl_nil <| gx_then <| gc_region <| gl_op <| op_rd rfl (rd_move rfl) <| gl_op <| op_rd rfl (rd_move rfl) <| gl_op <| op_rd rfl (rd_move rfl) <| gl_op (op_rd rfl (rd_conv Try.runUnderlying3 Try.runUnderlying108 rfl (wrap_u64_nat (by omega))) ?_)
  refine gl_op (op_call rfl (vf := []) (vc := []) rfl rfl Try.call78 (fun w1 ho => len_ok ts.length (by omega) w1) ?_)
  rintro _ _ ⟨q, rfl, rfl⟩
  refine gl_op (op_callM [0] [] rfl (vf := []) (vc := []) rfl rfl Try.call77 (by decide) rfl (fun w how hc => pdq_ok ts h1 h12 r c w hc q) ?_)
  rintro _ _ ⟨rfl, rfl⟩
  refine gl_nil <| gx_ret0 (.inr rfl) Try.results73 [0] (by decide) ?_
  exact ⟨rfl, rfl⟩
set_option maxRecDepth 100000 in
set_option maxHeartbeats 1000000 in
theorem Clone_ok (q : Nat) (cq : Nat) (g : List Nat) (hg : g.length ≤ 100) (w0 : World) (hA : OldSl w0 [] (rowA (some q)) g.length 1 (g.map natV)) : Sp Try.prog 58 [.slice (rowA (some q)) g.length cq] w0 [] (fun v L => ∃ (r : Option Nat) (c : Nat), v = .slice (rowA r) g.length c ∧ (g.length ≠ 0 → r.isSome = true) ∧ L = [.row 2 1 r g.length c (g.map natV)]) := by
  refine spec_enter Try.func58 rfl Try.ntmps58 rfl (Own.refl _) ?_
  simp only [argEnv]
  refine gc_seq <| gc_region <| gl_op <| op_rd rfl (rd_assign rfl) <| gl_nil <| gx_then <| gc_seq <| gc_seq <| gc_region <| gl_op <| op_rd rfl (rd_move rfl) <| gl_op <| op_rd rfl (rd_eqlNilSl eg_25 Try.underlying25 rfl rfl) <| gl_nil <| gx_then <| gc_cond_f rfl <| gc_skip <| gx_then <| gc_seq <| gc_region <| gl_op (op_buildSlice (sz := 1) rfl rfl (fun _ => bs_25_0_) rfl rfl (fun b5 => ?_))
  refine gl_op <| op_rd rfl (rd_move rfl) <| gl_op (op_appendSl 0 hA Try.underlying25 ty_2 rfl (by decide) rfl rfl rfl rfl (fun u hu => (by obtain ⟨x, _, rfl⟩ := List.mem_map.1 hu; rfl)) (by omega) (by omega) (fun _ => (by rfl)) (fun r7 c7 => ?_))
  refine gl_op <| op_rd rfl (rd_assign rfl) <| gl_nil <| gx_then <| gc_ret <| gk_know (fun w ho => Own.rowSome ho 0 rfl) (fun hsome => ?_)
  refine gx_ret1 (.inl rfl) Try.results58 rfl [0] (by decide) ?_
  exact ⟨r7, c7, by rw [Nat.zero_add], fun h => hsome (by omega), by rw [Nat.zero_add]; rfl⟩
set_option maxRecDepth 100000 in
set_option maxHeartbeats 1000000 in
theorem unpl_ok (p : Plc) (pcb bp : Nat) (vs0 vs1 vs2 v4 v5 : Value) (qb : Option Nat) (cb : Nat) (y : Nat × Nat) (hy : y.1 < p.is.length) (w0 : World) (hC : OldSl w0 [] (some ⟨pcb, 0, none⟩) 1 1 [.pointer (some ⟨bp, 0, none⟩)]) (hP : OldSl w0 [] (some ⟨bp, 0, none⟩) 1 6 [vs0, vs1, vs2, .slice (rowA qb) p.is.length cb, v4, v5]) (hB : OldSl w0 [] (rowA qb) p.is.length 1 (p.is.map boolV)) : Sp Try.prog 60 [.agg #[natV y.1, natV y.2], .pointer (some ⟨pcb, 0, none⟩)] w0 [] (RV (.bool (!plB p y.1))) := by
  refine spec_enter Try.func60 rfl Try.ntmps60 rfl (Own.refl _) ?_
  simp only [argEnv]
  refine gc_seq <| gc_region <| gl_op (op_box rfl rfl rfl (fun b2 => ?_))
  refine gl_op <| op_rd rfl (rd_assign rfl) <| gl_nil <| gx_then <| gc_seq <| gc_drawP [0] true 9 rfl <| ga_first 0 (bm 10 1) rfl rfl rfl rfl (by kernel_rfl) (by kernel_rfl) ⟨[0], by decide, rfl⟩ (qt_rd (rd_load Try.underlying73 rfl rfl (ld_sl (off := 0) hC rfl))) ?_
  refine ga_first 1 (bm 10 3) rfl rfl rfl rfl (by kernel_rfl) (by kernel_rfl) ⟨[0], by decide, rfl⟩ (qt_rd (rd_nilCheck rfl)) ?_
  refine ga_first 2 (bm 10 7) rfl rfl rfl rfl (by kernel_rfl) (by kernel_rfl) ⟨[0], by decide, rfl⟩ (qt_rd (rd_fieldAddr rfl (fa_76_3 _))) ?_
  refine ga_first 3 (bm 10 15) rfl rfl rfl rfl (by kernel_rfl) (by kernel_rfl) ⟨[0], by decide, rfl⟩ (qt_rd (rd_load Try.underlying74 rfl rfl (ld_sl hP rfl))) ?_
  refine ga_first 4 (bm 10 31) rfl rfl rfl rfl (by kernel_rfl) (by kernel_rfl) ⟨[0], by decide, rfl⟩ (qt_rd (rd_fieldAddr rfl (fa_50_0 _))) ?_
  refine ga_first 5 (bm 10 63) rfl rfl rfl rfl (by kernel_rfl) (by kernel_rfl) ⟨[0], by decide, rfl⟩ (qt_rd (rd_load Try.underlying3 rfl rfl (by exact ld_blk 0 rfl rfl))) ?_
  refine ga_first 6 (bm 10 127) rfl rfl rfl rfl (by kernel_rfl) (by kernel_rfl) ⟨[0], by decide, rfl⟩ (qt_rd (rd_indexOld1 hB Try.underlying74 ty_4 rfl rfl (by omega) (by omega))) ?_
  refine ga_first 7 (bm 10 255) rfl rfl rfl rfl (by kernel_rfl) (by kernel_rfl) ⟨[0], by decide, rfl⟩ (qt_rd (rd_load Try.underlying4 rfl rfl (ld_slN hB (get_plQ (k := y.1) (by omega))))) ?_
  refine ga_first 8 (bm 10 511) rfl rfl rfl rfl (by kernel_rfl) (by kernel_rfl) ⟨[0], by decide, rfl⟩ (qt_rd (rd_not rfl)) ?_
  refine ga_first 9 (bm 10 1023) rfl rfl rfl rfl (by kernel_rfl) (by kernel_rfl) ⟨[0], by decide, rfl⟩ (qt_rd (rd_assign rfl)) ?_
  refine ga_end (by kernel_rfl) (.inr ⟨[0], by decide, rfl⟩) ?_
  refine gx_then <| gc_ret <| gx_ret1 (.inl rfl) Try.results60 rfl [] (by decide) ?_
  exact ⟨rfl, rfl⟩
set_option maxRecDepth 100000 in
set_option maxHeartbeats 1000000 in
theorem indexUnpl_ok (a : Option Addr) (c : Nat) (l : List (Nat × Nat)) (hll : l.length ≤ 10) (p : Plc) (hpl : ∀ y ∈ l, y.1 < p.is.length) (pcb bp : Nat) (vs0 vs1 vs2 v4 v5 : Value) (qb : Option Nat) (cb : Nat) (w0 : World) (hL : OldSl w0 [] a l.length 2 (l.flatMap lagN)) (hC : OldSl w0 [] (some ⟨pcb, 0, none⟩) 1 1 [.pointer (some ⟨bp, 0, none⟩)]) (hP : OldSl w0 [] (some ⟨bp, 0, none⟩) 1 6 [vs0, vs1, vs2, .slice (rowA qb) p.is.length cb, v4, v5]) (hB : OldSl w0 [] (rowA qb) p.is.length 1 (p.is.map boolV)) : Sp Try.prog 71 [.slice a l.length c, .func (.func 60) #[] #[.pointer (some ⟨pcb, 0, none⟩)]] w0 [] (fun v L => ∃ r : Int, v = .int .i64 r ∧ L = [] ∧ (0 ≤ r ↔ l.any ((fun y : Nat × Nat => !plB p y.1)) = true)) := by
  refine spec_enter Try.func71 rfl Try.ntmps71 rfl (Own.refl _) ?_
  simp only [argEnv]
  refine gc_seq <| gc_region <| gl_op <| op_rd rfl (rd_assign rfl) <| gl_nil <| gx_then <| gc_seq <| gc_seq <| gc_region <| gl_op <| op_rd rfl (rd_move rfl) <| gl_op <| op_rd rfl (rd_lenSlice Try.underlying46 rfl) <| gl_op <| op_rd rfl (rd_move rfl) <| gl_nil <| gx_then <| gc_block <| gc_loopF (ι := Nat) [(0, _), (1, _), (7, _)] [] (fun k => k ≤ l.length ∧ ∀ (j : Nat) y, j < k → l[j]? = some y → ((fun y : Nat × Nat => !plB p y.1)) y = false) (fun k Fr0 => ((8, natV k) :: Fr0)) (fun k Fr0 => Fr0) (fun k => l.length - k) 0 (⟨Nat.zero_le _, fun j y h => absurd h (Nat.not_lt_zero j)⟩) ⟨rfl, rfl, rfl, rfl, trivial⟩ ⟨[], by decide, rfl⟩ ?_
  rintro k ⟨hkk, hall⟩
  refine gc_seq <| gc_region <| gl_op (op_rd rfl (rd_lss rfl rfl) (gk_dec (fun h9 => ?_) (fun h9 => ?_)))
  · obtain ⟨x, hx⟩ := get_some (show k < l.length by omega)
    refine gl_nil <| gx_then <| gc_seq <| gc_cond_t rfl <| gc_skip <| gx_then <| gc_seq <| gc_block <| gc_seq <| gc_region <| gl_op <| op_rd rfl (rd_move rfl) <| gl_op <| op_rd rfl (rd_assign rfl) <| gl_nil <| gx_then <| gc_seq <| gc_region <| gl_op <| op_rd rfl (rd_move rfl) <| gl_op <| op_rd rfl (rd_move rfl) <| gl_op <| op_rd rfl (rd_move rfl) <| gl_op (op_rd rfl (rd_indexOld hL Try.underlying46 ty_50 rfl rfl (by omega) (by omega)) ?_)
    refine gl_op (op_rd rfl (rd_loadAgg Try.underlying50 rfl ty_50 rfl (cs_slN hL (flat_drop_get lagN 2 (fun _ => rfl) hx)) rfl) ?_)
    simp only [lagN]
    refine gl_op (op_call rfl (vf := []) (vc := [.pointer (some ⟨pcb, 0, none⟩)]) rfl rfl Try.call60 (fun w1 ho => unpl_ok p pcb bp vs0 vs1 vs2 v4 v5 qb cb x (hpl x (List.mem_of_getElem? hx)) w1 (hC.at ho) (hP.at ho) (hB.at ho)) ?_)
    rintro _ _ ⟨rfl, rfl⟩
    refine gk_bool (fun hh => ?_) (fun hh => ?_)
    · refine gl_nil <| gx_then <| gc_cond_t rfl <| gc_seq <| gc_region <| gl_op <| op_rd rfl (rd_move rfl) <| gl_op <| op_rd rfl (rd_assign rfl) <| gl_nil <| gx_then <| gc_ret <| gx_block_ret <| gx_then_ret <| gx_then_ret <| gx_block_ret <| gx_then_ret <| gx_ret1 (.inl rfl) Try.results71 rfl [] (by decide) ?_
      exact ⟨_, rfl, rfl, ⟨fun _ => any_yes hx hh, fun _ => by omega⟩⟩
    refine gl_nil <| gx_then <| gc_cond_f rfl <| gc_skip <| gx_block <| gx_then <| gc_region <| gl_op (op_rd rfl (by exact rd_addN (b := 1) rfl rfl (by omega)) ?_)
    refine gl_op <| op_rd rfl (rd_move rfl) <| gl_nil <| gx_then ?_
    exact gx_cut (k + 1) ⟨⟨by omega, snocF hall hx hh⟩, by omega⟩ ⟨rfl, rfl, rfl, rfl, trivial⟩ ⟨[], by decide, rfl⟩
  refine gl_nil <| gx_then <| gc_seq <| gc_cond_f rfl <| gc_exit <| gx_then_exit <| gx_then_exit <| gx_block_exit <| gx_then <| gc_seq <| gc_region <| gl_op <| op_rd rfl (rd_assign rfl) <| gl_nil <| gx_then <| gc_ret <| gx_ret1 (.inl rfl) Try.results71 rfl [] (by decide) ?_
  refine ⟨_, rfl, rfl, ⟨fun h => by omega, fun h => ?_⟩⟩
  rw [allF hall (by omega)] at h; cases h
set_option maxRecDepth 100000 in
set_option maxHeartbeats 1000000 in
theorem containsUnpl_ok (a : Option Addr) (c : Nat) (l : List (Nat × Nat)) (hll : l.length ≤ 10) (p : Plc) (hpl : ∀ y ∈ l, y.1 < p.is.length) (pcb bp : Nat) (vs0 vs1 vs2 v4 v5 : Value) (qb : Option Nat) (cb : Nat) (w0 : World) (hL : OldSl w0 [] a l.length 2 (l.flatMap lagN)) (hC : OldSl w0 [] (some ⟨pcb, 0, none⟩) 1 1 [.pointer (some ⟨bp, 0, none⟩)]) (hP : OldSl w0 [] (some ⟨bp, 0, none⟩) 1 6 [vs0, vs1, vs2, .slice (rowA qb) p.is.length cb, v4, v5]) (hB : OldSl w0 [] (rowA qb) p.is.length 1 (p.is.map boolV)) : Sp Try.prog 59 [.slice a l.length c, .func (.func 60) #[] #[.pointer (some ⟨pcb, 0, none⟩)]] w0 [] (RV (.bool (l.any ((fun y : Nat × Nat => !plB p y.1))))) := by
  refine spec_enter Try.func59 rfl Try.ntmps59 rfl (Own.refl _) ?_
  simp only [argEnv]
  refine gc_seq <| gc_region <| gl_op <| op_rd rfl (rd_assign rfl) <| gl_nil <| gx_then <| gc_seq <| gc_region <| gl_op <| op_rd rfl (rd_move rfl) <| gl_op <| op_rd rfl (rd_move rfl) <| gl_op (op_call rfl (vf := []) (vc := []) rfl rfl Try.call71 (fun w1 ho => indexUnpl_ok a c l hll p hpl pcb bp vs0 vs1 vs2 v4 v5 qb cb w1 (hL.at ho) (hC.at ho) (hP.at ho) (hB.at ho)) ?_)
  rintro _ _ ⟨r, rfl, rfl, hr⟩
  refine gl_op <| op_rd rfl (rd_geq rfl rfl) <| gl_op <| op_rd rfl (rd_assign rfl) <| gl_nil <| gx_then <| gc_ret <| gx_ret1 (.inl rfl) Try.results59 rfl [] (by decide) ?_
  refine ⟨congrArg Value.bool ?_, rfl⟩
  rw [Bool.eq_iff_iff, ← hr]; simp
set_option maxRecDepth 100000 in
set_option maxHeartbeats 1000000 in
theorem ben1_ok (x : Jb) (shb : Nat) (sa : Option Addr) (sc : Nat) (shop : List Int) (hsl : shop.length ≤ 140737488355328) (w0 : World) (hC : OldSl w0 [] (some ⟨shb, 0, none⟩) 1 1 [.slice sa shop.length sc]) : Sp Try.prog 44 [x.val, .pointer (some ⟨shb, 0, none⟩)] w0 [] (RV (.bool (decide (shop.length ≤ x.bench)))) := by
  refine spec_enter Try.func44 rfl Try.ntmps44 rfl (Own.refl _) ?_
  simp only [argEnv]
  refine gc_seq <| gc_region <| gl_op (op_box rfl rfl rfl (fun b2 => ?_))
  refine gl_op <| op_rd rfl (rd_assign rfl) <| gl_nil <| gx_then <| gc_seq <| gc_region <| gl_op <| op_rd rfl (rd_fieldAddr rfl (fa_48_1 _)) <| gl_op (op_rd rfl (rd_load Try.underlying3 rfl rfl (by exact ld_blk 0 rfl rfl)) ?_)
  refine gl_op <| op_rd rfl (rd_load Try.underlying29 rfl rfl (ld_sl (off := 0) hC rfl)) <| gl_op <| op_rd rfl (rd_lenSlice Try.underlying29 rfl) <| gl_op <| op_rd rfl (rd_geq rfl rfl) <| gl_op <| op_rd rfl (rd_assign rfl) <| gl_nil <| gx_then <| gc_ret <| gx_ret1 (.inl rfl) Try.results44 rfl [] (by decide) ?_
  refine ⟨congrArg Value.bool ?_, rfl⟩
  rw [decide_eq_decide]; omega
set_option maxRecDepth 100000 in
set_option maxHeartbeats 1000000 in
theorem indexBen_ok (a : Option Addr) (c : Nat) (l : List Jb) (hln : l.length ≤ 40) (shb : Nat) (sa : Option Addr) (sc : Nat) (shop : List Int) (hsl : shop.length ≤ 140737488355328) (w0 : World) (hJ : JnIn a l w0 []) (hC : OldSl w0 [] (some ⟨shb, 0, none⟩) 1 1 [.slice sa shop.length sc]) : Sp Try.prog 49 [.slice a l.length c, .func (.func 44) #[] #[.pointer (some ⟨shb, 0, none⟩)]] w0 [] (fun v L => ∃ r : Int, v = .int .i64 r ∧ L = [] ∧ (0 ≤ r ↔ l.any ((fun x : Jb => decide (shop.length ≤ x.bench))) = true)) := by
  refine spec_enter Try.func49 rfl Try.ntmps49 rfl (Own.refl _) ?_
  simp only [argEnv]
  refine gc_seq <| gc_region <| gl_op <| op_rd rfl (rd_assign rfl) <| gl_nil <| gx_then <| gc_seq <| gc_seq <| gc_region <| gl_op <| op_rd rfl (rd_move rfl) <| gl_op <| op_rd rfl (rd_lenSlice Try.underlying22 rfl) <| gl_op <| op_rd rfl (rd_move rfl) <| gl_nil <| gx_then <| gc_block <| gc_loopF (ι := Nat) [(0, _), (1, _), (7, _)] [] (fun k => k ≤ l.length ∧ ∀ (j : Nat) y, j < k → l[j]? = some y → ((fun x : Jb => decide (shop.length ≤ x.bench))) y = false) (fun k Fr0 => ((8, natV k) :: Fr0)) (fun k Fr0 => Fr0) (fun k => l.length - k) 0 (⟨Nat.zero_le _, fun j y h => absurd h (Nat.not_lt_zero j)⟩) ⟨rfl, rfl, rfl, rfl, trivial⟩ ⟨[], by decide, rfl⟩ ?_
  rintro k ⟨hkk, hall⟩
  refine gc_seq <| gc_region <| gl_op (op_rd rfl (rd_lss rfl rfl) (gk_dec (fun h9 => ?_) (fun h9 => ?_)))
  · obtain ⟨x, hx⟩ := get_some (show k < l.length by omega)
    refine gl_nil <| gx_then <| gc_seq <| gc_cond_t rfl <| gc_skip <| gx_then <| gc_seq <| gc_block <| gc_seq <| gc_region <| gl_op <| op_rd rfl (rd_move rfl) <| gl_op <| op_rd rfl (rd_assign rfl) <| gl_nil <| gx_then <| gc_seq <| gc_region <| gl_op <| op_rd rfl (rd_move rfl) <| gl_op <| op_rd rfl (rd_move rfl) <| gl_op <| op_rd rfl (rd_move rfl) <| gl_op (op_rd rfl (rd_indexOld hJ.t Try.underlying22 ty_48 rfl rfl (by omega) (by omega)) ?_)
    refine gl_op (op_rd rfl (rd_loadAgg Try.underlying48 rfl ty_48 rfl (cs_slN hJ.t (flat_drop_get Jb.cells 4 (fun _ => rfl) hx)) rfl) ?_)
    simp only [Jb.cells]
    refine gl_op (op_call rfl (vf := []) (vc := [.pointer (some ⟨shb, 0, none⟩)]) rfl rfl Try.call44 (fun w1 ho => ben1_ok x shb sa sc shop hsl w1 (hC.at ho)) ?_)
    rintro _ _ ⟨rfl, rfl⟩
    refine gk_bool (fun hh => ?_) (fun hh => ?_)
    · refine gl_nil <| gx_then <| gc_cond_t rfl <| gc_seq <| gc_region <| gl_op <| op_rd rfl (rd_move rfl) <| gl_op <| op_rd rfl (rd_assign rfl) <| gl_nil <| gx_then <| gc_ret <| gx_block_ret <| gx_then_ret <| gx_then_ret <| gx_block_ret <| gx_then_ret <| gx_ret1 (.inl rfl) Try.results49 rfl [] (by decide) ?_
      exact ⟨_, rfl, rfl, ⟨fun _ => any_yes hx hh, fun _ => by omega⟩⟩
    refine gl_nil <| gx_then <| gc_cond_f rfl <| gc_skip <| gx_block <| gx_then <| gc_region <| gl_op (op_rd rfl (by exact rd_addN (b := 1) rfl rfl (by omega)) ?_)
    refine gl_op <| op_rd rfl (rd_move rfl) <| gl_nil <| gx_then ?_
    exact gx_cut (k + 1) ⟨⟨by omega, snocF hall hx hh⟩, by omega⟩ ⟨rfl, rfl, rfl, rfl, trivial⟩ ⟨[], by decide, rfl⟩
  refine gl_nil <| gx_then <| gc_seq <| gc_cond_f rfl <| gc_exit <| gx_then_exit <| gx_then_exit <| gx_block_exit <| gx_then <| gc_seq <| gc_region <| gl_op <| op_rd rfl (rd_assign rfl) <| gl_nil <| gx_then <| gc_ret <| gx_ret1 (.inl rfl) Try.results49 rfl [] (by decide) ?_
  refine ⟨_, rfl, rfl, ⟨fun h => by omega, fun h => ?_⟩⟩
  rw [allF hall (by omega)] at h; cases h
set_option maxRecDepth 100000 in
set_option maxHeartbeats 1000000 in
theorem containsBen_ok (a : Option Addr) (c : Nat) (l : List Jb) (hln : l.length ≤ 40) (shb : Nat) (sa : Option Addr) (sc : Nat) (shop : List Int) (hsl : shop.length ≤ 140737488355328) (w0 : World) (hJ : JnIn a l w0 []) (hC : OldSl w0 [] (some ⟨shb, 0, none⟩) 1 1 [.slice sa shop.length sc]) : Sp Try.prog 32 [.slice a l.length c, .func (.func 44) #[] #[.pointer (some ⟨shb, 0, none⟩)]] w0 [] (RV (.bool (l.any ((fun x : Jb => decide (shop.length ≤ x.bench)))))) := by
  refine spec_enter Try.func32 rfl Try.ntmps32 rfl (Own.refl _) ?_
  simp only [argEnv]
  refine gc_seq <| gc_region <| gl_op <| op_rd rfl (rd_assign rfl) <| gl_nil <| gx_then <| gc_seq <| gc_region <| gl_op <| op_rd rfl (rd_move rfl) <| gl_op <| op_rd rfl (rd_move rfl) <| gl_op (op_call rfl (vf := []) (vc := []) rfl rfl Try.call49 (fun w1 ho => indexBen_ok a c l hln shb sa sc shop hsl w1 (hJ.at ho) (hC.at ho)) ?_)
  rintro _ _ ⟨r, rfl, rfl, hr⟩
  refine gl_op <| op_rd rfl (rd_geq rfl rfl) <| gl_op <| op_rd rfl (rd_assign rfl) <| gl_nil <| gx_then <| gc_ret <| gx_ret1 (.inl rfl) Try.results32 rfl [] (by decide) ?_
  refine ⟨congrArg Value.bool ?_, rfl⟩
  rw [Bool.eq_iff_iff, ← hr]; simp
set_option maxRecDepth 100000 in
set_option maxHeartbeats 1000000 in
theorem hours_ok (bp i : Nat) (w0 : World) : Sp Try.prog 61 [.pointer (some ⟨bp, 0, none⟩), natV i] w0 [] (fun v L => ∃ pcb icb, v = .func (.func 72) #[] #[.pointer (some ⟨pcb, 0, none⟩), .pointer (some ⟨icb, 0, none⟩)] ∧ L = [.blk icb [natV i] 3, .blk pcb [.pointer (some ⟨bp, 0, none⟩)] 73]) := by
  refine spec_enter Try.func61 rfl Try.ntmps61 rfl (Own.refl _) ?_
  simp only [argEnv]
  refine gc_seq <| gc_region <| gl_op (op_box rfl rfl rfl (fun b2 => ?_))
  refine gl_op (op_box rfl rfl rfl (fun b3 => ?_))
  refine gl_op <| op_rd rfl (rd_assign rfl) <| gl_nil <| gx_then <| gc_seq <| gc_region <| gl_op <| op_rd rfl (rd_makeFunc (fs := []) (cs := [.tmp 2, .tmp 3]) rfl rfl) <| gl_op <| op_rd rfl (rd_assign rfl) <| gl_nil <| gx_then <| gc_ret <| gx_ret1 (.inl rfl) Try.results61 rfl [0, 1] (by decide) ?_
  exact ⟨b2, b3, rfl, rfl⟩
end Go.Proofs.Ytafmcflggikbfaa
namespace Go.Proofs.Ytafmcflggikbfaa
open Go.Gv
open Go.RowKit
open Go.Sn
open Go.Wk
open Sx
namespace Sx
theorem cand_le {l : List Jb} (hj : JOk l) {p : Plc} (hpb : ∀ j, atN p j ≤ 100000) {i : Nat} (hi : i < l.length) : ∀ t ∈ cand l p i l.length, t ≤ 200000 := fun t ht => by
  rcases List.mem_cons.1 ht with rfl | ht
  · exact Nat.le_trans (aft_bdQ hj hpb hi) (by decide)
  · obtain ⟨q, hq, rfl⟩ := List.mem_map.1 ht
    have h1 := (hj.hrs q (List.mem_range.1 (List.mem_filter.1 hq).1)).2
    have h2 := hpb q
    unfold endP1
    omega
theorem srt_le {l : List Jb} (hj : JOk l) {p : Plc} (hpb : ∀ j, atN p j ≤ 100000) {i : Nat} (hi : i < l.length) {k t : Nat} (h : (srt (cand l p i l.length))[k]? = some t) : t ≤ 200000 :=
  cand_le hj hpb hi t ((srt_perm _).mem_iff.1 (List.mem_of_getElem? h))
/-- what the iterator needs of the caller's memory -/
def GH (sa : Option Addr) (sn sc : Nat) (a : Option Addr) (n c : Nat) (p : Plc) (qa qb : Option Nat) (ca cb bp pcb icb i : Nat) (L : List HL) : Prop :=
  ∃ v4 v5, HL.blk bp [.slice sa sn sc, .slice a n c, .slice (rowA qa) p.at_.length ca, .slice (rowA qb) p.is.length cb, v4, v5] 76 ∈ L ∧ HL.row 2 1 qa p.at_.length ca (p.at_.map natV) ∈ L ∧ HL.row 4 1 qb p.is.length cb (p.is.map boolV) ∈ L ∧ HL.blk pcb [.pointer (some ⟨bp, 0, none⟩)] 73 ∈ L ∧ HL.blk icb [natV i] 3 ∈ L
end Sx
open Sx
set_option maxRecDepth 100000 in
set_option maxHeartbeats 1000000 in
theorem hoursIt_ok (a : Option Addr) (c : Nat) (l : List Jb) (hj : JOk l) (sa : Option Addr) (sc : Nat) (shop : List Int) (hsl : shop.length ≤ 6) (p : Plc) (hla : p.at_.length = l.length) (hli : p.is.length = l.length) (hpb : ∀ j, atN p j ≤ 100000) (i : Nat) (x : Jb) (hx : l[i]? = some x) (hxs : x.bench < shop.length) (h7 : l.length ≤ 7) (qa qb : Option Nat) (ca cb bp pcb icb lb : Nat) (J Jx : Nat → List HL → Prop) (hG : ∀ k L, J k L → GH sa shop.length sc a l.length c p qa qb ca cb bp pcb icb i L) (w1 : World) (L : List HL) (hY : YOk Try.prog lb (freesL shop l p i).length (fun k => [natV ((freesL shop l p i).getD k 0)]) J Jx w1 (L.filterMap HL.block)) (h0 : J 0 L) (ho : Own w1 (L.filterMap HL.block) w1 L) (hJ : JnIn a l w1 (L.filterMap HL.block)) (hS : OldSl w1 (L.filterMap HL.block) sa shop.length 1 (shop.map intV)) : Sp Try.prog 72 [.func (.yield lb) #[] #[], .pointer (some ⟨pcb, 0, none⟩), .pointer (some ⟨icb, 0, none⟩)] w1 (L.filterMap HL.block) (fun _ L2 => J (freesL shop l p i).length L2 ∨ ∃ k, k < (freesL shop l p i).length ∧ Jx k L2) := by
  have hln := hj.n
  have hil := (List.getElem?_eq_some_iff.1 hx).1
  have hxh := job_le hj hx
  obtain ⟨s, hs⟩ := get_some hxs
  have hsb := sb_at hx hs
  have hbn := bn_at hx
  have hhr := hr_at hx
  obtain ⟨v4, v5, hg1, hg2, hg3, hg4, hg5⟩ := hG _ _ h0
  refine spec_enterM Try.func72 rfl Try.ntmps72 rfl ho ?_
  simp only [argEnv]
  refine rc_seq <| rc_drawT [] L [] true 10 rfl rfl rfl <| ga_first 0 (bm 11 1) rfl rfl rfl rfl (by kernel_rfl) (by kernel_rfl) (sub_tail (A := []) (B := []) (T := L) [] 0 (by decide) (by decide) rfl rfl) (qt_rd (rd_load Try.underlying73 rfl rfl (ld_mem hg4 rfl))) ?_
  refine ga_first 1 (bm 11 3) rfl rfl rfl rfl (by kernel_rfl) (by kernel_rfl) (sub_tail (A := []) (B := []) (T := L) [] 0 (by decide) (by decide) rfl rfl) (qt_rd (rd_nilCheck rfl)) ?_
  refine ga_first 2 (bm 11 7) rfl rfl rfl rfl (by kernel_rfl) (by kernel_rfl) (sub_tail (A := []) (B := []) (T := L) [] 0 (by decide) (by decide) rfl rfl) (qt_rd (rd_fieldAddr rfl (fa_76_1 _))) ?_
  refine ga_first 3 (bm 11 15) rfl rfl rfl rfl (by kernel_rfl) (by kernel_rfl) (sub_tail (A := []) (B := []) (T := L) [] 0 (by decide) (by decide) rfl rfl) (qt_rd (rd_load Try.underlying22 rfl rfl (ld_mem hg1 rfl))) ?_
  refine ga_first 4 (bm 11 31) rfl rfl rfl rfl (by kernel_rfl) (by kernel_rfl) (sub_tail (A := []) (B := []) (T := L) [] 0 (by decide) (by decide) rfl rfl) (qt_rd (rd_load Try.underlying73 rfl rfl (ld_mem hg4 rfl))) ?_
  refine ga_first 5 (bm 11 63) rfl rfl rfl rfl (by kernel_rfl) (by kernel_rfl) (sub_tail (A := []) (B := []) (T := L) [] 0 (by decide) (by decide) rfl rfl) (qt_rd (rd_nilCheck rfl)) ?_
  refine ga_first 6 (bm 11 127) rfl rfl rfl rfl (by kernel_rfl) (by kernel_rfl) (sub_tail (A := []) (B := []) (T := L) [] 0 (by decide) (by decide) rfl rfl) (qt_rd (rd_fieldAddr rfl (fa_76_2 _))) ?_
  refine ga_first 7 (bm 11 255) rfl rfl rfl rfl (by kernel_rfl) (by kernel_rfl) (sub_tail (A := []) (B := []) (T := L) [] 0 (by decide) (by decide) rfl rfl) (qt_rd (rd_load Try.underlying25 rfl rfl (ld_mem hg1 rfl))) ?_
  refine ga_first 8 (bm 11 511) rfl rfl rfl rfl (by kernel_rfl) (by kernel_rfl) (sub_tail (A := []) (B := []) (T := L) [] 0 (by decide) (by decide) rfl rfl) (qt_rd (rd_load Try.underlying3 rfl rfl (ld_mem hg5 rfl))) ?_
  refine ga_first 9 (bm 11 1023) rfl rfl rfl rfl (by kernel_rfl) (by kernel_rfl) (sub_tail (A := []) (B := []) (T := L) [] 0 (by decide) (by decide) rfl rfl) (qt_call (vf := []) (vc := []) rfl rfl Try.call41 (fun w2 how => afterN_ok a c l hj (rowA qa) ca p.at_ hla (fun t ht => Nat.le_trans (bd_of (g := p.at_) hpb t ht) (by decide)) i x hx w2 (hJ.at how) (slMem how hg2)) (by rintro _ _ ⟨h, _⟩; exact h)) ?_
  rw [show aft l p.at_ i = aftP1 l p i from rfl]
  refine ga_first 10 (bm 11 2047) rfl rfl rfl rfl (by kernel_rfl) (by kernel_rfl) (sub_tail (A := []) (B := []) (T := L) [] 0 (by decide) (by decide) rfl rfl) (qt_rd (rd_assign rfl)) ?_
  refine ga_end (by kernel_rfl) (.inr (sub_tail (A := []) (B := []) (T := L) [] 0 (by decide) (by decide) rfl rfl)) ?_
  refine gx_then <| rc_seq <| rc_region <| rl_op (by nofun) (op_rd rfl (rd_move rfl) ?_)
  refine rl_op (by nofun) (op_buildSlice (sz := 1) rfl rfl (fun _ => bs_25_1_0 _) rfl rfl (fun b22 => ?_))
  refine rl_op (by nofun) (op_rd rfl (rd_assign rfl) ?_)
  refine rl_nil <| gx_then <| rc_seq <| rc_seq ?_
  rw [show ([natV (aftP1 l p i)] : List Value) = (cand l p i 0).map natV from rfl]
  refine rc_region <| rl_op (by nofun) (op_rd rfl (rd_load Try.underlying73 rfl rfl (ld_mem (List.mem_cons_of_mem _ hg4) rfl)) ?_)
  refine rl_op (by nofun) (op_rd rfl (rd_nilCheck rfl) ?_)
  refine rl_op (by nofun) (op_rd rfl (rd_fieldAddr rfl (fa_76_1 _)) ?_)
  refine rl_op (by nofun) (op_rd rfl (rd_load Try.underlying22 rfl rfl (ld_mem (List.mem_cons_of_mem _ hg1) rfl)) ?_)
  refine rl_op (by nofun) (op_rd rfl (rd_lenSlice Try.underlying22 rfl) ?_)
  refine rl_op (by nofun) (op_rd rfl (rd_move rfl) ?_)
  refine rl_nil <| gx_then <| rc_block <| rc_loopF (ι := Nat × Option Nat × Nat) [(0, _), (1, _), (2, _), (4, _), (26, _), (27, _)] (L) (fun q => q.1 ≤ l.length) (fun q Fr0 => ((5, .slice (rowA q.2.1) (cand l p i q.1).length q.2.2) :: (28, natV q.1) :: Fr0)) (fun q Fr0 => (.row 2 1 q.2.1 (cand l p i q.1).length q.2.2 ((cand l p i q.1).map natV) :: Fr0)) (fun q => l.length - q.1) (0, some b22, 1) (Nat.zero_le _) ⟨rfl, rfl, rfl, rfl, rfl, rfl, rfl, rfl, trivial⟩ (sub_tail (A := [_]) (B := [_]) (T := L) [0] 1 (by decide) (by decide) rfl rfl) ?_
  rintro ⟨k, r9, c9⟩ hk
  simp only at hk ⊢
  have hcl := cand_len l p i k
  refine rc_seq <| rc_region <| rl_op (by nofun) (op_rd rfl (rd_lss rfl rfl) (gk_dec (fun h29 => ?_) (fun h29 => ?_)))
  · obtain ⟨z, hz⟩ := get_some (show k < l.length by omega)
    have hzh := job_le hj hz
    have hkb := hpb k
    have hen := end_at (p := p) hz
    refine rl_nil <| gx_then <| rc_seq <| rc_cond_t rfl <| rc_skip <| gx_then <| rc_seq <| rc_block <| rc_seq <| rc_region <| rl_op (by nofun) (op_rd rfl (rd_move rfl) ?_)
    refine rl_op (by nofun) (op_rd rfl (rd_indexOld hJ.t Try.underlying22 ty_48 rfl rfl (by omega) (by omega)) ?_)
    refine rl_op (by nofun) (op_rd rfl (rd_loadAgg Try.underlying48 rfl ty_48 rfl (cs_slN hJ.t (flat_drop_get Jb.cells 4 (fun _ => rfl) hz)) rfl) ?_)
    refine rl_op (by nofun) (op_alloc ty_48 rfl rfl (fun b7 => ?_))
    refine rl_op (by nofun) (op_rd rfl (rd_assign rfl) ?_)
    refine rl_op (by nofun) (op_storeAgg 0 ty_48 rfl rfl rfl rfl rfl rfl (by rfl) ?_)
    refine rl_nil <| gx_then <| rc_seq <| rc_drawT [_, _] L [0, 1] true 10 rfl rfl rfl <| ga_first 0 (bm 11 1) rfl rfl rfl rfl (by kernel_rfl) (by kernel_rfl) (sub_tail (A := [_, _]) (B := [_, _]) (T := L) [0, 1] 2 (by decide) (by decide) rfl rfl) (qt_rd (rd_load Try.underlying73 rfl rfl (ld_mem (List.mem_cons_of_mem _ (List.mem_cons_of_mem _ hg4)) rfl))) ?_
    refine ga_first 1 (bm 11 3) rfl rfl rfl rfl (by kernel_rfl) (by kernel_rfl) (sub_tail (A := [_, _]) (B := [_, _]) (T := L) [0, 1] 2 (by decide) (by decide) rfl rfl) (qt_rd (rd_nilCheck rfl)) ?_
    refine ga_first 2 (bm 11 7) rfl rfl rfl rfl (by kernel_rfl) (by kernel_rfl) (sub_tail (A := [_, _]) (B := [_, _]) (T := L) [0, 1] 2 (by decide) (by decide) rfl rfl) (qt_rd (rd_fieldAddr rfl (fa_76_2 _))) ?_
    refine ga_first 3 (bm 11 15) rfl rfl rfl rfl (by kernel_rfl) (by kernel_rfl) (sub_tail (A := [_, _]) (B := [_, _]) (T := L) [0, 1] 2 (by decide) (by decide) rfl rfl) (qt_rd (rd_load Try.underlying25 rfl rfl (ld_mem (List.mem_cons_of_mem _ (List.mem_cons_of_mem _ hg1)) rfl))) ?_
    refine ga_first 4 (bm 11 31) rfl rfl rfl rfl (by kernel_rfl) (by kernel_rfl) (sub_tail (A := [_, _]) (B := [_, _]) (T := L) [0, 1] 2 (by decide) (by decide) rfl rfl) (qt_rd (rd_move rfl)) ?_
    refine ga_first 5 (bm 11 63) rfl rfl rfl rfl (by kernel_rfl) (by kernel_rfl) (sub_tail (A := [_, _]) (B := [_, _]) (T := L) [0, 1] 2 (by decide) (by decide) rfl rfl) (qt_rd (rd_indexMem (List.mem_cons_of_mem _ (List.mem_cons_of_mem _ hg2)) Try.underlying25 ty_2 rfl rfl (by omega) (by omega))) ?_
    refine ga_first 6 (bm 11 127) rfl rfl rfl rfl (by kernel_rfl) (by kernel_rfl) (sub_tail (A := [_, _]) (B := [_, _]) (T := L) [0, 1] 2 (by decide) (by decide) rfl rfl) (qt_rd (rd_load Try.underlying2 rfl rfl (ld_memRow (List.mem_cons_of_mem _ (List.mem_cons_of_mem _ hg2)) (by rw [Nat.mul_one]; exact get_atQ (k := k) (by omega))))) ?_
    refine ga_first 7 (bm 11 255) rfl rfl rfl rfl (by kernel_rfl) (by kernel_rfl) (sub_tail (A := [_, _]) (B := [_, _]) (T := L) [0, 1] 2 (by decide) (by decide) rfl rfl) (qt_rd (rd_fieldAddr rfl (fa_48_2 _))) ?_
    refine ga_first 8 (bm 11 511) rfl rfl rfl rfl (by kernel_rfl) (by kernel_rfl) (sub_tail (A := [_, _]) (B := [_, _]) (T := L) [0, 1] 2 (by decide) (by decide) rfl rfl) (qt_rd (rd_load Try.underlying2 rfl rfl (by exact ld_blk 0 rfl rfl))) ?_
    refine ga_first 9 (bm 11 1023) rfl rfl rfl rfl (by kernel_rfl) (by kernel_rfl) (sub_tail (A := [_, _]) (B := [_, _]) (T := L) [0, 1] 2 (by decide) (by decide) rfl rfl) (qt_rd (by exact rd_addN rfl rfl (by omega))) ?_
    refine ga_first 10 (bm 11 2047) rfl rfl rfl rfl (by kernel_rfl) (by kernel_rfl) (sub_tail (A := [_, _]) (B := [_, _]) (T := L) [0, 1] 2 (by decide) (by decide) rfl rfl) (qt_rd (rd_assign rfl)) ?_
    refine ga_end (by kernel_rfl) (.inr (sub_tail (A := [_, _]) (B := [_, _]) (T := L) [0, 1] 2 (by decide) (by decide) rfl rfl)) ?_
    refine gx_then <| rc_seq ?_
    rw [← hen]
    refine rc_region <| rl_op (by nofun) (op_rd rfl (rd_load Try.underlying73 rfl rfl (ld_mem (List.mem_cons_of_mem _ (List.mem_cons_of_mem _ hg4)) rfl)) ?_)
    refine rl_op (by nofun) (op_rd rfl (rd_nilCheck rfl) ?_)
    refine rl_op (by nofun) (op_rd rfl (rd_fieldAddr rfl (fa_76_3 _)) ?_)
    refine rl_op (by nofun) (op_rd rfl (rd_load Try.underlying74 rfl rfl (ld_mem (List.mem_cons_of_mem _ (List.mem_cons_of_mem _ hg1)) rfl)) ?_)
    refine rl_op (by nofun) (op_rd rfl (rd_move rfl) ?_)
    refine rl_op (by nofun) (op_rd rfl (rd_indexMem (List.mem_cons_of_mem _ (List.mem_cons_of_mem _ hg3)) Try.underlying74 ty_4 rfl rfl (by omega) (by omega)) ?_)
    refine rl_op (by nofun) (op_rd rfl (rd_load Try.underlying4 rfl rfl (ld_memRow (List.mem_cons_of_mem _ (List.mem_cons_of_mem _ hg3)) (by rw [Nat.mul_one]; exact get_plQ (k := k) (by omega)))) ?_)
    refine gk_bool (fun h49 => ?_) (fun h49 => ?_)
    · refine rl_op (by nofun) (op_rd rfl (rd_move rfl) ?_)
      refine rl_yes (by nofun) rfl rfl (op_rd rfl (rd_move rfl) ?_)
      refine rl_yes (by nofun) rfl rfl (op_rd rfl (rd_move rfl) ?_)
      refine rl_yes (by nofun) rfl rfl (op_rd rfl (rd_gtr rfl rfl) (gk_dec (fun h53 => ?_) (fun h53 => ?_)))
      · refine rl_op (by nofun) (op_rd rfl (rd_pick_t rfl rfl) ?_)
        refine rl_nil <| gx_then <| rc_cond_t rfl <| rc_region <| rl_op (by nofun) (op_rd rfl (rd_move rfl) ?_)
        refine rl_op (by nofun) (op_rd rfl (rd_move rfl) ?_)
        refine rl_op (by nofun) (op_buildSlice (sz := 1) rfl rfl (fun _ => bs_25_1_0 _) rfl rfl (fun b57 => ?_))
        refine rl_op (by nofun) (op_appendRow 2 0 Try.underlying25 ty_2 rfl (by decide) rfl rfl rfl rfl rfl (by simp [Value.oneCell']) (by omega) (by omega) (fun _ => (by rfl)) (fun r58 c58 => ?_))
        refine rl_op (by nofun) (op_rd rfl (rd_assign rfl) ?_)
        refine rl_nil <| gx_block <| gx_then <| rc_region <| rl_op (by nofun) (op_rd rfl (by exact rd_addN (b := 1) rfl rfl (by omega)) ?_)
        refine rl_op (by nofun) (op_rd rfl (rd_move rfl) ?_)
        refine rl_nil <| gx_then ?_
        rw [show (cand l p i k).map natV ++ [natV (endP1 l p k)] = (cand l p i (k + 1)).map natV by rw [cand_yes h49 (by omega), List.map_append]; rfl]
        rw [show (cand l p i k).length + 1 = (cand l p i (k + 1)).length by rw [cand_yes h49 (by omega), List.length_append]; rfl]
        exact gx_cut ((k + 1, r58, c58)) ⟨(by simp only; omega), by simp only; omega⟩ ⟨rfl, rfl, rfl, rfl, rfl, rfl, rfl, rfl, trivial⟩ (sub_tail (A := [_]) (B := [_, _, _]) (T := L) [2] 3 (by decide) (by decide) rfl rfl)
      refine rl_op (by nofun) (op_rd rfl (rd_pick_t rfl rfl) ?_)
      refine rl_nil <| gx_then <| rc_cond_f rfl <| rc_skip <| gx_block <| gx_then <| rc_region <| rl_op (by nofun) (op_rd rfl (by exact rd_addN (b := 1) rfl rfl (by omega)) ?_)
      refine rl_op (by nofun) (op_rd rfl (rd_move rfl) ?_)
      refine rl_nil <| gx_then ?_
      rw [show cand l p i k = cand l p i (k + 1) from (cand_no (fun e => by omega)).symm]
      exact gx_cut ((k + 1, r9, c9)) ⟨(by simp only; omega), by simp only; omega⟩ ⟨rfl, rfl, rfl, rfl, rfl, rfl, rfl, rfl, trivial⟩ (sub_tail (A := [_]) (B := [_, _]) (T := L) [1] 2 (by decide) (by decide) rfl rfl)
    refine rl_op (by nofun) (op_rd rfl (rd_move rfl) ?_)
    refine rl_no rfl rfl rfl <| rl_no rfl rfl rfl <| rl_no rfl rfl rfl <| rl_op (by nofun) (op_rd rfl (rd_pick_f rfl rfl) ?_)
    refine rl_nil <| gx_then <| rc_cond_f rfl <| rc_skip <| gx_block <| gx_then <| rc_region <| rl_op (by nofun) (op_rd rfl (by exact rd_addN (b := 1) rfl rfl (by omega)) ?_)
    refine rl_op (by nofun) (op_rd rfl (rd_move rfl) ?_)
    refine rl_nil <| gx_then ?_
    rw [show cand l p i k = cand l p i (k + 1) from (cand_no (fun e => by rw [e.1] at h49; cases h49)).symm]
    exact gx_cut ((k + 1, r9, c9)) ⟨(by simp only; omega), by simp only; omega⟩ ⟨rfl, rfl, rfl, rfl, rfl, rfl, rfl, rfl, trivial⟩ (sub_tail (A := [_]) (B := [_, _]) (T := L) [1] 2 (by decide) (by decide) rfl rfl)
  have hk9 : k = l.length := by omega
  subst hk9
  have hs1 : 1 ≤ (cand l p i l.length).length := by unfold cand; simp
  refine rl_nil <| gx_then <| rc_seq <| rc_cond_f rfl <| rc_exit <| gx_then_exit <| gx_then_exit <| gx_block_exit <| gx_then <| rc_seq <| rc_region <| rl_op (by nofun) (op_rd rfl (rd_move rfl) ?_)
  refine rl_op (by nofun) (op_callMT [_] L [0] [] 1 rfl rfl rfl (vf := []) (vc := []) rfl rfl Try.call73 (by decide) (by decide) rfl (fun w2 how hc => sort_ok (cand l p i l.length) hs1 (by omega) r9 c9 w2 hc) ?_)
  rintro _ _ ⟨rfl, rfl⟩
  have hsl9 := srt_len (cand l p i l.length)
  refine rl_nil <| gx_then <| rc_seq <| rc_region <| rl_op (by nofun) (op_rd rfl (rd_move rfl) ?_)
  refine rl_op (by nofun) (op_rd rfl (rd_lenSlice Try.underlying25 rfl) ?_)
  refine rl_op (by nofun) (op_rd rfl (rd_move rfl) ?_)
  refine rl_nil <| gx_then <| rc_block <| rc_loopF (ι := Nat × Nat × List HL) [(0, _), (1, _), (2, _), (62, _), (63, _)] [_] (fun q => q.1 ≤ (cand l p i l.length).length ∧ J q.2.1 q.2.2 ∧ (freesL shop l p i).drop q.2.1 = ((srt (cand l p i l.length)).drop q.1).filter (freeB shop l p i) ∧ q.2.1 ≤ (freesL shop l p i).length) (fun q Fr0 => ((64, natV q.1) :: Fr0)) (fun q Fr0 => (Fr0 ++ q.2.2)) (fun q => (cand l p i l.length).length - q.1) (0, 0, L) (⟨Nat.zero_le _, h0, rfl, Nat.zero_le _⟩) ⟨rfl, rfl, rfl, rfl, rfl, rfl, trivial⟩ (sub_tail (A := [_]) (B := [_]) (T := L) [0] 1 (by decide) (by decide) rfl rfl) ?_
  rintro ⟨k9, j, T⟩ ⟨hk9, hJT, hdr, hjl0⟩
  simp only at hk9 hJT hdr hjl0 ⊢
  obtain ⟨u4, u5, hk1, hk2, hk3, hk4, hk5⟩ := hG _ _ hJT
  refine rc_seq <| rc_region <| rl_op (by nofun) (op_rd rfl (rd_lss rfl rfl) (gk_dec (fun h65 => ?_) (fun h65 => ?_)))
  · obtain ⟨t9, hx9⟩ := get_some (show k9 < (srt (cand l p i l.length)).length by omega)
    have ht9 := srt_le hj hpb hil hx9
    refine rl_nil <| gx_then <| rc_seq <| rc_cond_t rfl <| rc_skip <| gx_then <| rc_seq <| rc_block <| rc_seq <| rc_region <| rl_op (by nofun) (op_rd rfl (rd_indexRow1 0 rfl Try.underlying25 ty_2 rfl rfl (by omega) (by omega)) ?_)
    refine rl_op (by nofun) (op_rd rfl (rd_load Try.underlying2 rfl rfl (ld_rowN 0 rfl (get_nat hx9))) ?_)
    refine rl_op (by nofun) (op_rd rfl (rd_assign rfl) ?_)
    refine rl_nil <| gx_then <| rc_seq <| rc_region <| rl_op (by nofun) (op_rd rfl (rd_load Try.underlying73 rfl rfl (ld_mem (List.mem_cons_of_mem _ hk4) rfl)) ?_)
    refine rl_op (by nofun) (op_rd rfl (rd_load Try.underlying3 rfl rfl (ld_mem (List.mem_cons_of_mem _ hk5) rfl)) ?_)
    refine rl_op (by nofun) (op_rd rfl (rd_move rfl) ?_)
    refine rl_op (by nofun) (op_call rfl (vf := []) (vc := []) rfl rfl Try.call74 (fun w2 how => free_ok a c l hj sa sc shop hsl p hla hli hpb i x hx hxs t9 ht9 (rowA qa) ca (rowA qb) cb w2 (hJ.at how) (hS.at how) (slMem how (List.mem_cons_of_mem _ hk2)) (slMem how (List.mem_cons_of_mem _ hk3)) bp u4 u5 (blkMem how 6 rfl (List.mem_cons_of_mem _ hk1))) ?_)
    rintro _ _ ⟨rfl, rfl⟩
    refine gk_bool (fun hfr => ?_) (fun hfr => ?_)
    · refine rl_op (by nofun) (op_rd rfl (rd_move rfl) ?_)
      refine rl_yes (by nofun) rfl rfl (op_rd rfl (rd_move rfl) ?_)
      refine rl_yes (by nofun) rfl rfl (op_rd rfl (rd_move rfl) ?_)
      obtain ⟨hjl, hjd, hjr⟩ := drop_cons (hdr.trans (filt_yes hx9 hfr))
      refine rl_yesI rfl rfl (op_yield [_] T hY hjl hJT rfl rfl rfl (congrArg (fun z => some [natV z]) hjd.symm) (fun T2 hJ2 => ?_) (fun T2 hJ2 => ?_))
      · refine rl_yes (by nofun) rfl rfl (op_rd rfl (rd_not rfl) ?_)
        refine rl_op (by nofun) (op_rd rfl (rd_pick_t rfl rfl) ?_)
        refine rl_nil <| gx_then <| rc_cond_f rfl <| rc_skip <| gx_block <| gx_then <| rc_region <| rl_op (by nofun) (op_rd rfl (by exact rd_addN (b := 1) rfl rfl (by omega)) ?_)
        refine rl_op (by nofun) (op_rd rfl (rd_move rfl) ?_)
        refine rl_nil <| gx_then ?_
        exact gx_cut ((k9 + 1, j + 1, T2)) ⟨⟨by simp only; omega, hJ2, hjr, by simp only; omega⟩, by simp only; omega⟩ ⟨rfl, rfl, rfl, rfl, rfl, rfl, trivial⟩ (sub_tail (A := [_]) (B := [_]) (T := T2) [0] 1 (by decide) (by decide) rfl rfl)
      refine rl_yes (by nofun) rfl rfl (op_rd rfl (rd_not rfl) ?_)
      refine rl_op (by nofun) (op_rd rfl (rd_pick_t rfl rfl) ?_)
      refine rl_nil <| gx_then <| rc_cond_t rfl <| rc_ret <| gx_block_ret <| gx_then_ret <| gx_then_ret <| gx_block_ret <| gx_retM0 [] (.inl rfl) Try.results72 (sub_tail (A := []) (B := [_]) (T := T2) [] 1 (by decide) (by decide) rfl rfl) ?_
      exact .inr ⟨j, hjl, hJ2⟩
    refine rl_op (by nofun) (op_rd rfl (rd_move rfl) ?_)
    refine rl_no rfl rfl rfl <| rl_no rfl rfl rfl <| rl_no rfl rfl rfl <| rl_no rfl rfl rfl <| rl_op (by nofun) (op_rd rfl (rd_pick_f rfl rfl) ?_)
    refine rl_nil <| gx_then <| rc_cond_f rfl <| rc_skip <| gx_block <| gx_then <| rc_region <| rl_op (by nofun) (op_rd rfl (by exact rd_addN (b := 1) rfl rfl (by omega)) ?_)
    refine rl_op (by nofun) (op_rd rfl (rd_move rfl) ?_)
    refine rl_nil <| gx_then ?_
    exact gx_cut ((k9 + 1, j, T)) ⟨⟨by simp only; omega, hJT, hdr.trans (filt_no hx9 hfr), hjl0⟩, by simp only; omega⟩ ⟨rfl, rfl, rfl, rfl, rfl, rfl, trivial⟩ (sub_tail (A := [_]) (B := [_]) (T := T) [0] 1 (by decide) (by decide) rfl rfl)
  refine rl_nil <| gx_then <| rc_seq <| rc_cond_f rfl <| rc_exit <| gx_then_exit <| gx_then_exit <| gx_block_exit <| gx_retM0 [] (.inr rfl) Try.results72 (sub_tail (A := []) (B := [_]) (T := T) [] 1 (by decide) (by decide) rfl rfl) ?_
  have hj9 : j = (freesL shop l p i).length := by
    rw [show (srt (cand l p i l.length)).drop k9 = [] from List.drop_eq_nil_of_le (by omega), List.filter_nil] at hdr
    have := List.length_drop (i := j) (l := freesL shop l p i)
    rw [hdr] at this
    simp at this; omega
  exact .inl (hj9 ▸ hJT)
end Go.Proofs.Ytafmcflggikbfaa
namespace Go.Proofs.Ytafmcflggikbfaa
open Go.Gv
open Go.RowKit
open Go.Sn
open Go.Wk
open Sx
namespace Sx
theorem JnIn.allOut {w0 w : World} {S : List Nat} {L : List HL} {a : Option Addr} {l : List Jb} (h : JnIn a l w0 S) (ho : Own w0 S w L) : JnIn a l w (L.filterMap HL.block) := ⟨h.t.allOut ho (by decide), fun x hx => (h.r x hx).allOut ho (by decide)⟩
theorem JnIn.outT {w0 w : World} {S : List Nat} {a : Option Addr} {l : List Jb} {B T : List HL} (h : JnIn a l w0 S) (ho : Own w0 S w (B ++ T)) (ic : List Nat) : JnIn a l w ((pick ic B).filterMap HL.block) := ⟨slOutT ho h.t (by decide) ic, fun x hx => slOutT ho (h.r x hx) (by decide) ic⟩
theorem ready_any {l : List Jb} {p : Plc} {k : Nat} {x : Jb} (hx : l[k]? = some x) : readyB l p k = (!plB p k && !(x.after.any fun y => !plB p y.1)) := by
  unfold readyB preOf
  rw [jb_at hx]
  congr 1
  induction x.after with
  | nil => rfl
  | cons y ys ih => simp only [List.map_cons, List.all_cons, List.any_cons, ih, Bool.not_or, Bool.not_not]
theorem find_filter {f : Nat → Bool} : ∀ {ts : List Nat} {t : Nat}, ts.find? f = some t → ∃ r, ts.filter f = t :: r
  | [], t, h => by cases h
  | x :: xs, t, h => by
    cases hf : f x with
    | true => rw [List.find?_cons_of_pos (by simpa using hf)] at h; rw [← Option.some.inj h]; exact ⟨xs.filter f, by rw [List.filter_cons_of_pos (by simpa using hf)]⟩
    | false =>
      rw [List.find?_cons_of_neg (by simp [hf])] at h
      obtain ⟨r, hr⟩ := find_filter h
      exact ⟨r, by rw [List.filter_cons_of_neg (by simp [hf])]; exact hr⟩
theorem frees_first {shop : List Int} {l : List Jb} {p : Plc} {i : Nat} (h : (placeO shop l p i).isSome = true) : 0 < (freesL shop l p i).length ∧ (freesL shop l p i).getD 0 0 = placeF shop l p i := by
  obtain ⟨t, ht⟩ := Option.isSome_iff_exists.1 h
  have h1 : IsBest (freeB shop l p i) (cand l p i l.length) (placeO shop l p i) := bestF_is _ _
  have h2 : IsBest (freeB shop l p i) (srt (cand l p i l.length)) ((srt (cand l p i l.length)).find? (freeB shop l p i)) := sorted_best (srt_sorted _)
  have h3 := isBest_eq (fun t => (srt_perm (cand l p i l.length)).mem_iff.symm) h1 h2
  rw [ht] at h3
  obtain ⟨r, hr⟩ := find_filter h3.symm
  unfold freesL
  rw [hr]
  refine ⟨by simp, ?_⟩
  unfold placeF
  rw [ht]; rfl
theorem sb_pos {shop : List Int} (hs : ∀ s ∈ shop, 1 ≤ s) {l : List Jb} {i : Nat} {x : Jb} (hx : l[i]? = some x) (hb : x.bench < shop.length) : 1 ≤ sb shop (bn l i) := by
  obtain ⟨s, hs9⟩ := get_some hb
  rw [sb_at hx hs9]
  exact hs s (List.mem_of_getElem? hs9)
def lsO (l : List Jb) (b : Option (List Nat)) : Nat := match b with
  | none => 0
  | some g => endF l g
/-- the planner in memory -/
def plH (bp : Nat) (sa : Option Addr) (sn sc : Nat) (a : Option Addr) (l : List Jb) (c qa qb : Nat) (b : Option (List Nat)) (rb : Option Nat) (cb : Nat) : HL :=
  .blk bp [.slice sa sn sc, .slice a l.length c, .slice (rowA (some qa)) l.length l.length, .slice (rowA (some qb)) l.length l.length, .slice (rowA rb) (bl b).length cb, natV (lsO l b)] 76
def atH (qa : Nat) (l : List Jb) (p : Plc) : HL := .row 2 1 (some qa) l.length l.length (p.at_.map natV)
def isH (qb : Nat) (l : List Jb) (p : Plc) : HL := .row 4 1 (some qb) l.length l.length (p.is.map boolV)
theorem set_back {p : Plc} {i t : Nat} (hi : i < p.at_.length) (h : atN p i = 0) : ((p.at_.set i t).set i 0) = p.at_ := by
  rw [List.set_set]
  apply List.ext_getElem?
  intro q
  rw [List.getElem?_set]
  split
  · rename_i e; subst e
    unfold atN at h
    rw [List.getD_eq_getElem?_getD] at h
    rw [List.getElem?_eq_getElem hi] at h ⊢
    rw [← h]; rfl
  · rfl
theorem set_backB {p : Plc} {i : Nat} (hi : i < p.is.length) (h : plB p i = false) : ((p.is.set i true).set i false) = p.is := by
  rw [List.set_set]
  apply List.ext_getElem?
  intro q
  rw [List.getElem?_set]
  split
  · rename_i e; subst e
    unfold plB at h
    rw [List.getD_eq_getElem?_getD] at h
    rw [List.getElem?_eq_getElem hi] at h ⊢
    rw [← h]; rfl
  · rfl
theorem so_next {shop : List Int} {l : List Jb} {p : Plc} {k : Nat} {x : Jb} (hla : p.at_.length = l.length) (hli : p.is.length = l.length) (hx : l[k]? = some x) (hnp : plB p k = false) : max ((soP l p : Nat) : Int) ((placeF shop l p k + x.hours : Nat) : Int) = ((soP l (nextP shop l p k) : Nat) : Int) := by
  unfold nextP
  rw [soP_put hla hli (List.getElem?_eq_some_iff.1 hx).1 hnp, hr_at hx]
  omega
theorem best_dec {shop : List Int} {l : List Jb} {r : Nat} {p : Plc} {b : Option (List Nat)} {rb : Option Nat} {cb : Nat} (hj : JOk l) (hp : PlOk l r p) (h : BestOk b rb cb l.length) (h0 : b = none ∨ l.length ≠ 0) : (!(rowA rb).isNone) = false ∨ ((!(rowA rb).isNone) = true ∧ (lsO l b < soP l p → (leaves shop l r p).foldl (upd l) b = b)) := by
  rcases best_cases h h0 with ⟨rfl, rfl, rfl⟩ | ⟨g, k, rfl, rfl, hgl, hgb⟩
  · exact .inl rfl
  · exact .inr ⟨rfl, fun hb => prune hj hp hb⟩
end Sx
open Sx
set_option maxRecDepth 100000 in
set_option maxHeartbeats 1000000 in
theorem srch0_ok (a : Option Addr) (c : Nat) (l : List Jb) (hg : GoodJ l) (h7 : l.length ≤ 7) (sa : Option Addr) (sc : Nat) (shop : List Int) (hsl : shop.length ≤ 6) (hsp : ∀ s ∈ shop, 1 ≤ s) (hbn : ∀ x ∈ l, x.bench < shop.length) (bp qa qb pc fc : Nat) (p : Plc) (hp : PlOk l (0) p) (many : Nat) (hm : many + (0) = l.length) (b : Option (List Nat)) (rb : Option Nat) (cb : Nat) (hb0 : b = none ∨ l.length ≠ 0) (hB0 : BestOk b rb cb l.length) (w0 : World) (hown : Own w0 ([plH bp sa shop.length sc a l c qa qb (b) rb cb, atH qa l p, isH qb l p, srR (b) rb cb].filterMap HL.block) w0 [plH bp sa shop.length sc a l c qa qb (b) rb cb, atH qa l p, isH qb l p, srR (b) rb cb]) (hJ : JnIn a l w0 ([plH bp sa shop.length sc a l c qa qb (b) rb cb, atH qa l p, isH qb l p, srR (b) rb cb].filterMap HL.block)) (hS : OldSl w0 ([plH bp sa shop.length sc a l c qa qb (b) rb cb, atH qa l p, isH qb l p, srR (b) rb cb].filterMap HL.block) sa shop.length 1 (shop.map intV)) (hcp : OldSl w0 ([plH bp sa shop.length sc a l c qa qb (b) rb cb, atH qa l p, isH qb l p, srR (b) rb cb].filterMap HL.block) (some ⟨pc, 0, none⟩) 1 1 [.pointer (some ⟨bp, 0, none⟩)]) (hcf : OldSl w0 ([plH bp sa shop.length sc a l c qa qb (b) rb cb, atH qa l p, isH qb l p, srR (b) rb cb].filterMap HL.block) (some ⟨fc, 0, none⟩) 1 1 [.func (.func 56) #[] #[.pointer (some ⟨pc, 0, none⟩), .pointer (some ⟨fc, 0, none⟩)]]) : Sp Try.prog 56 [natV many, natV (soP l p), .pointer (some ⟨pc, 0, none⟩), .pointer (some ⟨fc, 0, none⟩)] w0 ([plH bp sa shop.length sc a l c qa qb (b) rb cb, atH qa l p, isH qb l p, srR (b) rb cb].filterMap HL.block) (fun v L => v = .tuple #[] ∧ ∃ rb' cb', BestOk ((leaves shop l (0) p).foldl (upd l) b) rb' cb' l.length ∧ L = [plH bp sa shop.length sc a l c qa qb ((leaves shop l (0) p).foldl (upd l) b) rb' cb', atH qa l p, isH qb l p, srR ((leaves shop l (0) p).foldl (upd l) b) rb' cb']) := by
  have hj := hg.ok
  have hla := hp.la
  have hli := hp.li
  have hpb := atN_bd hp h7
  refine spec_enter Try.func56 rfl Try.ntmps56 rfl hown ?_
  simp only [argEnv]
  refine gc_seq <| gc_region <| gl_op (op_box rfl rfl rfl (fun b4 => ?_))
  refine gl_op (op_box rfl rfl rfl (fun b5 => ?_))
  refine gl_nil <| gx_then <| gc_seq <| gc_seq ?_
  rcases best_cases hB0 hb0 with ⟨rfl, rfl, rfl⟩ | ⟨g, k, rfl, rfl, hgl, hgb⟩
  · refine gc_drawP [0, 1, 2, 3, 4, 5] true 12 rfl <| ga_first 0 (bm 13 1) rfl rfl rfl rfl (by kernel_rfl) (by kernel_rfl) ⟨[0, 1, 2, 3, 4, 5], by decide, rfl⟩ (qt_rd (rd_load Try.underlying73 rfl rfl (ld_sl (off := 0) hcp rfl))) ?_
    refine ga_first 1 (bm 13 3) rfl rfl rfl rfl (by kernel_rfl) (by kernel_rfl) ⟨[0, 1, 2, 3, 4, 5], by decide, rfl⟩ (qt_rd (rd_nilCheck rfl)) ?_
    refine ga_first 2 (bm 13 7) rfl rfl rfl rfl (by kernel_rfl) (by kernel_rfl) ⟨[0, 1, 2, 3, 4, 5], by decide, rfl⟩ (qt_rd (rd_fieldAddr rfl (fa_76_4 _))) ?_
    refine ga_first 3 (bm 13 15) rfl rfl rfl rfl (by kernel_rfl) (by kernel_rfl) ⟨[0, 1, 2, 3, 4, 5], by decide, rfl⟩ (qt_rd (rd_load Try.underlying25 rfl rfl (by exact ld_blk 2 rfl rfl))) ?_
    refine ga_first 4 (bm 13 31) rfl rfl rfl rfl (by kernel_rfl) (by kernel_rfl) ⟨[0, 1, 2, 3, 4, 5], by decide, rfl⟩ (qt_rd (rd_neqNilSl eg_25 Try.underlying25 rfl rfl)) ?_
    refine ga_first 5 (bm 13 63) rfl rfl rfl rfl (by kernel_rfl) (by kernel_rfl) ⟨[0, 1, 2, 3, 4, 5], by decide, rfl⟩ (qt_rd (rd_move rfl)) ?_
    refine ga_firstN 6 (bm 13 127) rfl rfl rfl rfl rfl rfl (by kernel_rfl) (by kernel_rfl) ⟨[0, 1, 2, 3, 4, 5], by decide, rfl⟩ ?_
    refine ga_firstN 7 (bm 13 255) rfl rfl rfl rfl rfl rfl (by kernel_rfl) (by kernel_rfl) ⟨[0, 1, 2, 3, 4, 5], by decide, rfl⟩ ?_
    refine ga_firstN 8 (bm 13 511) rfl rfl rfl rfl rfl rfl (by kernel_rfl) (by kernel_rfl) ⟨[0, 1, 2, 3, 4, 5], by decide, rfl⟩ ?_
    refine ga_firstN 9 (bm 13 1023) rfl rfl rfl rfl rfl rfl (by kernel_rfl) (by kernel_rfl) ⟨[0, 1, 2, 3, 4, 5], by decide, rfl⟩ ?_
    refine ga_firstN 10 (bm 13 2047) rfl rfl rfl rfl rfl rfl (by kernel_rfl) (by kernel_rfl) ⟨[0, 1, 2, 3, 4, 5], by decide, rfl⟩ ?_
    refine ga_firstN 11 (bm 13 4095) rfl rfl rfl rfl rfl rfl (by kernel_rfl) (by kernel_rfl) ⟨[0, 1, 2, 3, 4, 5], by decide, rfl⟩ ?_
    refine ga_first 12 (bm 13 8191) rfl rfl rfl rfl (by kernel_rfl) (by kernel_rfl) ⟨[0, 1, 2, 3, 4, 5], by decide, rfl⟩ (qt_rd (rd_pick_f rfl rfl)) ?_
    refine ga_end (by kernel_rfl) (.inr ⟨[0, 1, 2, 3, 4, 5], by decide, rfl⟩) ?_
    refine gx_then <| gc_cond_f rfl <| gc_skip <| gx_then <| gc_seq <| gc_seq <| gc_drawP [0, 1, 2, 3, 4, 5] true 6 rfl <| ga_first 0 (bm 7 1) rfl rfl rfl rfl (by kernel_rfl) (by kernel_rfl) ⟨[0, 1, 2, 3, 4, 5], by decide, rfl⟩ (qt_rd (rd_load Try.underlying3 rfl rfl (by exact ld_blk 1 rfl rfl))) ?_
    refine ga_first 1 (bm 7 3) rfl rfl rfl rfl (by kernel_rfl) (by kernel_rfl) ⟨[0, 1, 2, 3, 4, 5], by decide, rfl⟩ (qt_rd (rd_load Try.underlying73 rfl rfl (ld_sl (off := 0) hcp rfl))) ?_
    refine ga_first 2 (bm 7 7) rfl rfl rfl rfl (by kernel_rfl) (by kernel_rfl) ⟨[0, 1, 2, 3, 4, 5], by decide, rfl⟩ (qt_rd (rd_nilCheck rfl)) ?_
    refine ga_first 3 (bm 7 15) rfl rfl rfl rfl (by kernel_rfl) (by kernel_rfl) ⟨[0, 1, 2, 3, 4, 5], by decide, rfl⟩ (qt_rd (rd_fieldAddr rfl (fa_76_1 _))) ?_
    refine ga_first 4 (bm 7 31) rfl rfl rfl rfl (by kernel_rfl) (by kernel_rfl) ⟨[0, 1, 2, 3, 4, 5], by decide, rfl⟩ (qt_rd (rd_load Try.underlying22 rfl rfl (by exact ld_blk 2 rfl rfl))) ?_
    refine ga_first 5 (bm 7 63) rfl rfl rfl rfl (by kernel_rfl) (by kernel_rfl) ⟨[0, 1, 2, 3, 4, 5], by decide, rfl⟩ (qt_rd (rd_lenSlice Try.underlying22 rfl)) ?_
    refine ga_first 6 (bm 7 127) rfl rfl rfl rfl (by kernel_rfl) (by kernel_rfl) ⟨[0, 1, 2, 3, 4, 5], by decide, rfl⟩ (qt_rd (rd_eql rfl rfl)) (gk_dec (fun h28 => ?_) (fun h28 => ?_))
    · refine ga_end (by kernel_rfl) (.inr ⟨[0, 1, 2, 3, 4, 5], by decide, rfl⟩) ?_
      refine gx_then <| gc_cond_t rfl <| gc_seq <| gc_seq <| gc_drawP [0, 1, 2, 3, 4, 5] true 24 rfl <| ga_first 0 (bm 25 1) rfl rfl rfl rfl (by kernel_rfl) (by kernel_rfl) ⟨[0, 1, 2, 3, 4, 5], by decide, rfl⟩ (qt_rd (rd_load Try.underlying73 rfl rfl (ld_sl (off := 0) hcp rfl))) ?_
      refine ga_first 1 (bm 25 3) rfl rfl rfl rfl (by kernel_rfl) (by kernel_rfl) ⟨[0, 1, 2, 3, 4, 5], by decide, rfl⟩ (qt_rd (rd_nilCheck rfl)) ?_
      refine ga_first 2 (bm 25 7) rfl rfl rfl rfl (by kernel_rfl) (by kernel_rfl) ⟨[0, 1, 2, 3, 4, 5], by decide, rfl⟩ (qt_rd (rd_fieldAddr rfl (fa_76_4 _))) ?_
      refine ga_first 3 (bm 25 15) rfl rfl rfl rfl (by kernel_rfl) (by kernel_rfl) ⟨[0, 1, 2, 3, 4, 5], by decide, rfl⟩ (qt_rd (rd_load Try.underlying25 rfl rfl (by exact ld_blk 2 rfl rfl))) ?_
      refine ga_first 4 (bm 25 31) rfl rfl rfl rfl (by kernel_rfl) (by kernel_rfl) ⟨[0, 1, 2, 3, 4, 5], by decide, rfl⟩ (qt_rd (rd_eqlNilSl eg_25 Try.underlying25 rfl rfl)) ?_
      refine ga_first 5 (bm 25 63) rfl rfl rfl rfl (by kernel_rfl) (by kernel_rfl) ⟨[0, 1, 2, 3, 4, 5], by decide, rfl⟩ (qt_rd (rd_move rfl)) ?_
      refine ga_firstN 6 (bm 25 127) rfl rfl rfl rfl rfl rfl (by kernel_rfl) (by kernel_rfl) ⟨[0, 1, 2, 3, 4, 5], by decide, rfl⟩ ?_
      refine ga_firstN 7 (bm 25 255) rfl rfl rfl rfl rfl rfl (by kernel_rfl) (by kernel_rfl) ⟨[0, 1, 2, 3, 4, 5], by decide, rfl⟩ ?_
      refine ga_firstN 8 (bm 25 511) rfl rfl rfl rfl rfl rfl (by kernel_rfl) (by kernel_rfl) ⟨[0, 1, 2, 3, 4, 5], by decide, rfl⟩ ?_
      refine ga_firstN 9 (bm 25 1023) rfl rfl rfl rfl rfl rfl (by kernel_rfl) (by kernel_rfl) ⟨[0, 1, 2, 3, 4, 5], by decide, rfl⟩ ?_
      refine ga_firstN 10 (bm 25 2047) rfl rfl rfl rfl rfl rfl (by kernel_rfl) (by kernel_rfl) ⟨[0, 1, 2, 3, 4, 5], by decide, rfl⟩ ?_
      refine ga_firstN 11 (bm 25 4095) rfl rfl rfl rfl rfl rfl (by kernel_rfl) (by kernel_rfl) ⟨[0, 1, 2, 3, 4, 5], by decide, rfl⟩ ?_
      refine ga_first 12 (bm 25 8191) rfl rfl rfl rfl (by kernel_rfl) (by kernel_rfl) ⟨[0, 1, 2, 3, 4, 5], by decide, rfl⟩ (qt_rd (rd_pick_t rfl rfl)) ?_
      refine ga_first 13 (bm 25 16383) rfl rfl rfl rfl (by kernel_rfl) (by kernel_rfl) ⟨[0, 1, 2, 3, 4, 5], by decide, rfl⟩ (qt_rd (rd_move rfl)) ?_
      refine ga_firstN 14 (bm 25 32767) rfl rfl rfl rfl rfl rfl (by kernel_rfl) (by kernel_rfl) ⟨[0, 1, 2, 3, 4, 5], by decide, rfl⟩ ?_
      refine ga_firstN 15 (bm 25 65535) rfl rfl rfl rfl rfl rfl (by kernel_rfl) (by kernel_rfl) ⟨[0, 1, 2, 3, 4, 5], by decide, rfl⟩ ?_
      refine ga_firstN 16 (bm 25 131071) rfl rfl rfl rfl rfl rfl (by kernel_rfl) (by kernel_rfl) ⟨[0, 1, 2, 3, 4, 5], by decide, rfl⟩ ?_
      refine ga_firstN 17 (bm 25 262143) rfl rfl rfl rfl rfl rfl (by kernel_rfl) (by kernel_rfl) ⟨[0, 1, 2, 3, 4, 5], by decide, rfl⟩ ?_
      refine ga_firstN 18 (bm 25 524287) rfl rfl rfl rfl rfl rfl (by kernel_rfl) (by kernel_rfl) ⟨[0, 1, 2, 3, 4, 5], by decide, rfl⟩ ?_
      refine ga_firstN 19 (bm 25 1048575) rfl rfl rfl rfl rfl rfl (by kernel_rfl) (by kernel_rfl) ⟨[0, 1, 2, 3, 4, 5], by decide, rfl⟩ ?_
      refine ga_firstN 20 (bm 25 2097151) rfl rfl rfl rfl rfl rfl (by kernel_rfl) (by kernel_rfl) ⟨[0, 1, 2, 3, 4, 5], by decide, rfl⟩ ?_
      refine ga_firstN 21 (bm 25 4194303) rfl rfl rfl rfl rfl rfl (by kernel_rfl) (by kernel_rfl) ⟨[0, 1, 2, 3, 4, 5], by decide, rfl⟩ ?_
      refine ga_firstN 22 (bm 25 8388607) rfl rfl rfl rfl rfl rfl (by kernel_rfl) (by kernel_rfl) ⟨[0, 1, 2, 3, 4, 5], by decide, rfl⟩ ?_
      refine ga_firstN 23 (bm 25 16777215) rfl rfl rfl rfl rfl rfl (by kernel_rfl) (by kernel_rfl) ⟨[0, 1, 2, 3, 4, 5], by decide, rfl⟩ ?_
      refine ga_first 24 (bm 25 33554431) rfl rfl rfl rfl (by kernel_rfl) (by kernel_rfl) ⟨[0, 1, 2, 3, 4, 5], by decide, rfl⟩ (qt_rd (rd_pick_t rfl rfl)) ?_
      refine ga_end (by kernel_rfl) (.inr ⟨[0, 1, 2, 3, 4, 5], by decide, rfl⟩) ?_
      refine gx_then <| gc_cond_t rfl <| gc_drawP [0, 1, 3, 4, 5] false 11 rfl <| ga_first 0 (bm 14 1) rfl rfl rfl rfl (by kernel_rfl) (by kernel_rfl) ⟨[0, 1, 3, 4, 5], by decide, rfl⟩ (qt_rd (rd_load Try.underlying73 rfl rfl (ld_sl (off := 0) hcp rfl))) ?_
      refine ga_first 1 (bm 14 3) rfl rfl rfl rfl (by kernel_rfl) (by kernel_rfl) ⟨[0, 1, 3, 4, 5], by decide, rfl⟩ (qt_rd (rd_load Try.underlying73 rfl rfl (ld_sl (off := 0) hcp rfl))) ?_
      refine ga_first 2 (bm 14 7) rfl rfl rfl rfl (by kernel_rfl) (by kernel_rfl) ⟨[0, 1, 3, 4, 5], by decide, rfl⟩ (qt_rd (rd_load Try.underlying73 rfl rfl (ld_sl (off := 0) hcp rfl))) ?_
      refine ga_first 3 (bm 14 15) rfl rfl rfl rfl (by kernel_rfl) (by kernel_rfl) ⟨[0, 1, 3, 4, 5], by decide, rfl⟩ (qt_rd (rd_nilCheck rfl)) ?_
      refine ga_first 4 (bm 14 31) rfl rfl rfl rfl (by kernel_rfl) (by kernel_rfl) ⟨[0, 1, 3, 4, 5], by decide, rfl⟩ (qt_rd (rd_fieldAddr rfl (fa_76_2 _))) ?_
      refine ga_first 7 (bm 14 159) rfl rfl rfl rfl (by kernel_rfl) (by kernel_rfl) ⟨[0, 1, 3, 4, 5], by decide, rfl⟩ (qt_rd (rd_load Try.underlying2 rfl rfl (by exact ld_blk 0 rfl rfl))) ?_
      refine ga_only 5 (bm 14 191) rfl rfl (by kernel_rfl) (by kernel_rfl) (.inr ⟨[0, 1, 3, 4, 5], by decide, rfl⟩) (op_rd rfl (rd_load Try.underlying25 rfl rfl (by exact ld_blk 2 rfl rfl)) ?_)
      refine ga_only 6 (bm 14 255) rfl rfl (by kernel_rfl) (by kernel_rfl) (.inr ⟨[0, 1, 3, 4, 5], by decide, rfl⟩) (op_call rfl (vf := []) (vc := []) rfl rfl Try.call58 (fun w1 ho => by
        have h9 := Clone_ok qa l.length p.at_ (by omega) w1 (by rw [hla]; exact ho.rowSl 3 rfl)
        rw [hla] at h9
        exact h9) ?_)
      rintro _ _ ⟨r60, c60, rfl, hsome, rfl⟩
      refine ga_first 8 (bm 14 511) rfl rfl rfl rfl (by kernel_rfl) (by kernel_rfl) ⟨[1, 2, 4, 5, 6], by decide, rfl⟩ (qt_rd (rd_nilCheck rfl)) ?_
      refine ga_first 9 (bm 14 1023) rfl rfl rfl rfl (by kernel_rfl) (by kernel_rfl) ⟨[1, 2, 4, 5, 6], by decide, rfl⟩ (qt_rd (rd_fieldAddr rfl (fa_76_4 _))) ?_
      refine ga_only 10 (bm 14 2047) rfl rfl (by kernel_rfl) (by kernel_rfl) (.inr ⟨[1, 2, 4, 5, 6], by decide, rfl⟩) (op_store 3 ty_25 rfl rfl rfl rfl rfl (by rfl) (by rfl) ?_)
      refine ga_only 11 (bm 14 4095) rfl rfl (by kernel_rfl) (by kernel_rfl) (.inr ⟨[1, 2, 4, 5, 6], by decide, rfl⟩) (op_rd rfl (rd_nilCheck rfl) ?_)
      refine ga_only 12 (bm 14 8191) rfl rfl (by kernel_rfl) (by kernel_rfl) (.inl (by kernel_rfl)) (op_rd rfl (rd_fieldAddr rfl (fa_76_5 _)) ?_)
      refine ga_only 13 (bm 14 16383) rfl rfl (by kernel_rfl) (by kernel_rfl) (.inl (by kernel_rfl)) (op_store 3 ty_2 rfl rfl rfl rfl rfl (by rfl) (by rfl) ?_)
      refine ga_end (by kernel_rfl) (.inl (by kernel_rfl)) ?_
      refine gx_then <| gc_ret <| gx_then_ret ?_
      have hen := hp.end
      have hu : (leaves shop l 0 p).foldl (upd l) none = some p.at_ := rfl
      rw [hu]
      refine gx_ret0 (.inl rfl) Try.results56 [3, 4, 5, 0] (by decide) ?_
      exact ⟨rfl, r60, c60, ⟨fun h => hsome (by omega), hla, bd_of (g := p.at_) hpb⟩, by simp only [plH, lsO, srR, bl, Option.getD_some, hen, hla]; rfl⟩
    exfalso; omega
  refine gc_drawP [0, 1, 2, 3, 4, 5] true 12 rfl <| ga_first 0 (bm 13 1) rfl rfl rfl rfl (by kernel_rfl) (by kernel_rfl) ⟨[0, 1, 2, 3, 4, 5], by decide, rfl⟩ (qt_rd (rd_load Try.underlying73 rfl rfl (ld_sl (off := 0) hcp rfl))) ?_
  refine ga_first 1 (bm 13 3) rfl rfl rfl rfl (by kernel_rfl) (by kernel_rfl) ⟨[0, 1, 2, 3, 4, 5], by decide, rfl⟩ (qt_rd (rd_nilCheck rfl)) ?_
  refine ga_first 2 (bm 13 7) rfl rfl rfl rfl (by kernel_rfl) (by kernel_rfl) ⟨[0, 1, 2, 3, 4, 5], by decide, rfl⟩ (qt_rd (rd_fieldAddr rfl (fa_76_4 _))) ?_
  refine ga_first 3 (bm 13 15) rfl rfl rfl rfl (by kernel_rfl) (by kernel_rfl) ⟨[0, 1, 2, 3, 4, 5], by decide, rfl⟩ (qt_rd (rd_load Try.underlying25 rfl rfl (by exact ld_blk 2 rfl rfl))) ?_
  refine ga_first 4 (bm 13 31) rfl rfl rfl rfl (by kernel_rfl) (by kernel_rfl) ⟨[0, 1, 2, 3, 4, 5], by decide, rfl⟩ (qt_rd (rd_neqNilSl eg_25 Try.underlying25 rfl rfl)) ?_
  refine ga_first 5 (bm 13 63) rfl rfl rfl rfl (by kernel_rfl) (by kernel_rfl) ⟨[0, 1, 2, 3, 4, 5], by decide, rfl⟩ (qt_rd (rd_move rfl)) ?_
  refine ga_firstY 6 (bm 13 127) rfl rfl rfl rfl rfl rfl (by kernel_rfl) (by kernel_rfl) ⟨[0, 1, 2, 3, 4, 5], by decide, rfl⟩ (qt_rd (rd_load Try.underlying2 rfl rfl (by exact ld_blk 0 rfl rfl))) ?_
  refine ga_firstY 7 (bm 13 255) rfl rfl rfl rfl rfl rfl (by kernel_rfl) (by kernel_rfl) ⟨[0, 1, 2, 3, 4, 5], by decide, rfl⟩ (qt_rd (rd_load Try.underlying73 rfl rfl (ld_sl (off := 0) hcp rfl))) ?_
  refine ga_firstY 8 (bm 13 511) rfl rfl rfl rfl rfl rfl (by kernel_rfl) (by kernel_rfl) ⟨[0, 1, 2, 3, 4, 5], by decide, rfl⟩ (qt_rd (rd_nilCheck rfl)) ?_
  refine ga_firstY 9 (bm 13 1023) rfl rfl rfl rfl rfl rfl (by kernel_rfl) (by kernel_rfl) ⟨[0, 1, 2, 3, 4, 5], by decide, rfl⟩ (qt_rd (rd_fieldAddr rfl (fa_76_5 _))) ?_
  refine ga_firstY 10 (bm 13 2047) rfl rfl rfl rfl rfl rfl (by kernel_rfl) (by kernel_rfl) ⟨[0, 1, 2, 3, 4, 5], by decide, rfl⟩ (qt_rd (rd_load Try.underlying2 rfl rfl (by exact ld_blk 2 rfl rfl))) ?_
  refine ga_firstY 11 (bm 13 4095) rfl rfl rfl rfl rfl rfl (by kernel_rfl) (by kernel_rfl) ⟨[0, 1, 2, 3, 4, 5], by decide, rfl⟩ (qt_rd (rd_gtr rfl rfl)) (gk_dec (fun h20 => ?_) (fun h20 => ?_))
  · refine ga_first 12 (bm 13 8191) rfl rfl rfl rfl (by kernel_rfl) (by kernel_rfl) ⟨[0, 1, 2, 3, 4, 5], by decide, rfl⟩ (qt_rd (rd_pick_t rfl rfl)) ?_
    refine ga_end (by kernel_rfl) (.inr ⟨[0, 1, 2, 3, 4, 5], by decide, rfl⟩) ?_
    refine gx_then <| gc_cond_t rfl <| gc_ret <| gx_then_ret ?_
    rw [prune (shop := shop) hj hp (show endF l g < soP l p by simp only [lsO] at h20; omega)]
    refine gx_ret0 (.inl rfl) Try.results56 [2, 3, 4, 5] (by decide) ?_
    exact ⟨rfl, some k, cb, ⟨fun _ => rfl, hgl, hgb⟩, rfl⟩
  refine ga_first 12 (bm 13 8191) rfl rfl rfl rfl (by kernel_rfl) (by kernel_rfl) ⟨[0, 1, 2, 3, 4, 5], by decide, rfl⟩ (qt_rd (rd_pick_t rfl rfl)) ?_
  refine ga_end (by kernel_rfl) (.inr ⟨[0, 1, 2, 3, 4, 5], by decide, rfl⟩) ?_
  refine gx_then <| gc_cond_f rfl <| gc_skip <| gx_then <| gc_seq <| gc_seq <| gc_drawP [0, 1, 2, 3, 4, 5] true 6 rfl <| ga_first 0 (bm 7 1) rfl rfl rfl rfl (by kernel_rfl) (by kernel_rfl) ⟨[0, 1, 2, 3, 4, 5], by decide, rfl⟩ (qt_rd (rd_load Try.underlying3 rfl rfl (by exact ld_blk 1 rfl rfl))) ?_
  refine ga_first 1 (bm 7 3) rfl rfl rfl rfl (by kernel_rfl) (by kernel_rfl) ⟨[0, 1, 2, 3, 4, 5], by decide, rfl⟩ (qt_rd (rd_load Try.underlying73 rfl rfl (ld_sl (off := 0) hcp rfl))) ?_
  refine ga_first 2 (bm 7 7) rfl rfl rfl rfl (by kernel_rfl) (by kernel_rfl) ⟨[0, 1, 2, 3, 4, 5], by decide, rfl⟩ (qt_rd (rd_nilCheck rfl)) ?_
  refine ga_first 3 (bm 7 15) rfl rfl rfl rfl (by kernel_rfl) (by kernel_rfl) ⟨[0, 1, 2, 3, 4, 5], by decide, rfl⟩ (qt_rd (rd_fieldAddr rfl (fa_76_1 _))) ?_
  refine ga_first 4 (bm 7 31) rfl rfl rfl rfl (by kernel_rfl) (by kernel_rfl) ⟨[0, 1, 2, 3, 4, 5], by decide, rfl⟩ (qt_rd (rd_load Try.underlying22 rfl rfl (by exact ld_blk 2 rfl rfl))) ?_
  refine ga_first 5 (bm 7 63) rfl rfl rfl rfl (by kernel_rfl) (by kernel_rfl) ⟨[0, 1, 2, 3, 4, 5], by decide, rfl⟩ (qt_rd (rd_lenSlice Try.underlying22 rfl)) ?_
  refine ga_first 6 (bm 7 127) rfl rfl rfl rfl (by kernel_rfl) (by kernel_rfl) ⟨[0, 1, 2, 3, 4, 5], by decide, rfl⟩ (qt_rd (rd_eql rfl rfl)) (gk_dec (fun h28 => ?_) (fun h28 => ?_))
  · refine ga_end (by kernel_rfl) (.inr ⟨[0, 1, 2, 3, 4, 5], by decide, rfl⟩) ?_
    refine gx_then <| gc_cond_t rfl <| gc_seq <| gc_seq <| gc_drawP [0, 1, 2, 3, 4, 5] true 24 rfl <| ga_first 0 (bm 25 1) rfl rfl rfl rfl (by kernel_rfl) (by kernel_rfl) ⟨[0, 1, 2, 3, 4, 5], by decide, rfl⟩ (qt_rd (rd_load Try.underlying73 rfl rfl (ld_sl (off := 0) hcp rfl))) ?_
    refine ga_first 1 (bm 25 3) rfl rfl rfl rfl (by kernel_rfl) (by kernel_rfl) ⟨[0, 1, 2, 3, 4, 5], by decide, rfl⟩ (qt_rd (rd_nilCheck rfl)) ?_
    refine ga_first 2 (bm 25 7) rfl rfl rfl rfl (by kernel_rfl) (by kernel_rfl) ⟨[0, 1, 2, 3, 4, 5], by decide, rfl⟩ (qt_rd (rd_fieldAddr rfl (fa_76_4 _))) ?_
    refine ga_first 3 (bm 25 15) rfl rfl rfl rfl (by kernel_rfl) (by kernel_rfl) ⟨[0, 1, 2, 3, 4, 5], by decide, rfl⟩ (qt_rd (rd_load Try.underlying25 rfl rfl (by exact ld_blk 2 rfl rfl))) ?_
    refine ga_first 4 (bm 25 31) rfl rfl rfl rfl (by kernel_rfl) (by kernel_rfl) ⟨[0, 1, 2, 3, 4, 5], by decide, rfl⟩ (qt_rd (rd_eqlNilSl eg_25 Try.underlying25 rfl rfl)) ?_
    refine ga_first 5 (bm 25 63) rfl rfl rfl rfl (by kernel_rfl) (by kernel_rfl) ⟨[0, 1, 2, 3, 4, 5], by decide, rfl⟩ (qt_rd (rd_move rfl)) ?_
    refine ga_firstY 6 (bm 25 127) rfl rfl rfl rfl rfl rfl (by kernel_rfl) (by kernel_rfl) ⟨[0, 1, 2, 3, 4, 5], by decide, rfl⟩ (qt_rd (rd_load Try.underlying2 rfl rfl (by exact ld_blk 0 rfl rfl))) ?_
    refine ga_firstY 7 (bm 25 255) rfl rfl rfl rfl rfl rfl (by kernel_rfl) (by kernel_rfl) ⟨[0, 1, 2, 3, 4, 5], by decide, rfl⟩ (qt_rd (rd_load Try.underlying73 rfl rfl (ld_sl (off := 0) hcp rfl))) ?_
    refine ga_firstY 8 (bm 25 511) rfl rfl rfl rfl rfl rfl (by kernel_rfl) (by kernel_rfl) ⟨[0, 1, 2, 3, 4, 5], by decide, rfl⟩ (qt_rd (rd_nilCheck rfl)) ?_
    refine ga_firstY 9 (bm 25 1023) rfl rfl rfl rfl rfl rfl (by kernel_rfl) (by kernel_rfl) ⟨[0, 1, 2, 3, 4, 5], by decide, rfl⟩ (qt_rd (rd_fieldAddr rfl (fa_76_5 _))) ?_
    refine ga_firstY 10 (bm 25 2047) rfl rfl rfl rfl rfl rfl (by kernel_rfl) (by kernel_rfl) ⟨[0, 1, 2, 3, 4, 5], by decide, rfl⟩ (qt_rd (rd_load Try.underlying2 rfl rfl (by exact ld_blk 2 rfl rfl))) ?_
    refine ga_firstY 11 (bm 25 4095) rfl rfl rfl rfl rfl rfl (by kernel_rfl) (by kernel_rfl) ⟨[0, 1, 2, 3, 4, 5], by decide, rfl⟩ (qt_rd (rd_lss rfl rfl)) (gk_dec (fun h40 => ?_) (fun h40 => ?_))
    · refine ga_first 12 (bm 25 8191) rfl rfl rfl rfl (by kernel_rfl) (by kernel_rfl) ⟨[0, 1, 2, 3, 4, 5], by decide, rfl⟩ (qt_rd (rd_pick_f rfl rfl)) ?_
      refine ga_first 13 (bm 25 16383) rfl rfl rfl rfl (by kernel_rfl) (by kernel_rfl) ⟨[0, 1, 2, 3, 4, 5], by decide, rfl⟩ (qt_rd (rd_move rfl)) ?_
      refine ga_firstN 14 (bm 25 32767) rfl rfl rfl rfl rfl rfl (by kernel_rfl) (by kernel_rfl) ⟨[0, 1, 2, 3, 4, 5], by decide, rfl⟩ ?_
      refine ga_firstN 15 (bm 25 65535) rfl rfl rfl rfl rfl rfl (by kernel_rfl) (by kernel_rfl) ⟨[0, 1, 2, 3, 4, 5], by decide, rfl⟩ ?_
      refine ga_firstN 16 (bm 25 131071) rfl rfl rfl rfl rfl rfl (by kernel_rfl) (by kernel_rfl) ⟨[0, 1, 2, 3, 4, 5], by decide, rfl⟩ ?_
      refine ga_firstN 17 (bm 25 262143) rfl rfl rfl rfl rfl rfl (by kernel_rfl) (by kernel_rfl) ⟨[0, 1, 2, 3, 4, 5], by decide, rfl⟩ ?_
      refine ga_firstN 18 (bm 25 524287) rfl rfl rfl rfl rfl rfl (by kernel_rfl) (by kernel_rfl) ⟨[0, 1, 2, 3, 4, 5], by decide, rfl⟩ ?_
      refine ga_firstN 19 (bm 25 1048575) rfl rfl rfl rfl rfl rfl (by kernel_rfl) (by kernel_rfl) ⟨[0, 1, 2, 3, 4, 5], by decide, rfl⟩ ?_
      refine ga_firstN 20 (bm 25 2097151) rfl rfl rfl rfl rfl rfl (by kernel_rfl) (by kernel_rfl) ⟨[0, 1, 2, 3, 4, 5], by decide, rfl⟩ ?_
      refine ga_firstN 21 (bm 25 4194303) rfl rfl rfl rfl rfl rfl (by kernel_rfl) (by kernel_rfl) ⟨[0, 1, 2, 3, 4, 5], by decide, rfl⟩ ?_
      refine ga_firstN 22 (bm 25 8388607) rfl rfl rfl rfl rfl rfl (by kernel_rfl) (by kernel_rfl) ⟨[0, 1, 2, 3, 4, 5], by decide, rfl⟩ ?_
      refine ga_firstN 23 (bm 25 16777215) rfl rfl rfl rfl rfl rfl (by kernel_rfl) (by kernel_rfl) ⟨[0, 1, 2, 3, 4, 5], by decide, rfl⟩ ?_
      refine ga_first 24 (bm 25 33554431) rfl rfl rfl rfl (by kernel_rfl) (by kernel_rfl) ⟨[0, 1, 2, 3, 4, 5], by decide, rfl⟩ (qt_rd (rd_pick_t rfl rfl)) ?_
      refine ga_end (by kernel_rfl) (.inr ⟨[0, 1, 2, 3, 4, 5], by decide, rfl⟩) ?_
      refine gx_then <| gc_cond_t rfl <| gc_drawP [0, 1, 3, 4, 5] false 11 rfl <| ga_first 0 (bm 14 1) rfl rfl rfl rfl (by kernel_rfl) (by kernel_rfl) ⟨[0, 1, 3, 4, 5], by decide, rfl⟩ (qt_rd (rd_load Try.underlying73 rfl rfl (ld_sl (off := 0) hcp rfl))) ?_
      refine ga_first 1 (bm 14 3) rfl rfl rfl rfl (by kernel_rfl) (by kernel_rfl) ⟨[0, 1, 3, 4, 5], by decide, rfl⟩ (qt_rd (rd_load Try.underlying73 rfl rfl (ld_sl (off := 0) hcp rfl))) ?_
      refine ga_first 2 (bm 14 7) rfl rfl rfl rfl (by kernel_rfl) (by kernel_rfl) ⟨[0, 1, 3, 4, 5], by decide, rfl⟩ (qt_rd (rd_load Try.underlying73 rfl rfl (ld_sl (off := 0) hcp rfl))) ?_
      refine ga_first 3 (bm 14 15) rfl rfl rfl rfl (by kernel_rfl) (by kernel_rfl) ⟨[0, 1, 3, 4, 5], by decide, rfl⟩ (qt_rd (rd_nilCheck rfl)) ?_
      refine ga_first 4 (bm 14 31) rfl rfl rfl rfl (by kernel_rfl) (by kernel_rfl) ⟨[0, 1, 3, 4, 5], by decide, rfl⟩ (qt_rd (rd_fieldAddr rfl (fa_76_2 _))) ?_
      refine ga_first 7 (bm 14 159) rfl rfl rfl rfl (by kernel_rfl) (by kernel_rfl) ⟨[0, 1, 3, 4, 5], by decide, rfl⟩ (qt_rd (rd_load Try.underlying2 rfl rfl (by exact ld_blk 0 rfl rfl))) ?_
      refine ga_only 5 (bm 14 191) rfl rfl (by kernel_rfl) (by kernel_rfl) (.inr ⟨[0, 1, 3, 4, 5], by decide, rfl⟩) (op_rd rfl (rd_load Try.underlying25 rfl rfl (by exact ld_blk 2 rfl rfl)) ?_)
      refine ga_only 6 (bm 14 255) rfl rfl (by kernel_rfl) (by kernel_rfl) (.inr ⟨[0, 1, 3, 4, 5], by decide, rfl⟩) (op_call rfl (vf := []) (vc := []) rfl rfl Try.call58 (fun w1 ho => by
        have h9 := Clone_ok qa l.length p.at_ (by omega) w1 (by rw [hla]; exact ho.rowSl 3 rfl)
        rw [hla] at h9
        exact h9) ?_)
      rintro _ _ ⟨r60, c60, rfl, hsome, rfl⟩
      refine ga_first 8 (bm 14 511) rfl rfl rfl rfl (by kernel_rfl) (by kernel_rfl) ⟨[1, 2, 4, 5, 6], by decide, rfl⟩ (qt_rd (rd_nilCheck rfl)) ?_
      refine ga_first 9 (bm 14 1023) rfl rfl rfl rfl (by kernel_rfl) (by kernel_rfl) ⟨[1, 2, 4, 5, 6], by decide, rfl⟩ (qt_rd (rd_fieldAddr rfl (fa_76_4 _))) ?_
      refine ga_only 10 (bm 14 2047) rfl rfl (by kernel_rfl) (by kernel_rfl) (.inr ⟨[1, 2, 4, 5, 6], by decide, rfl⟩) (op_store 3 ty_25 rfl rfl rfl rfl rfl (by rfl) (by rfl) ?_)
      refine ga_only 11 (bm 14 4095) rfl rfl (by kernel_rfl) (by kernel_rfl) (.inr ⟨[1, 2, 4, 5, 6], by decide, rfl⟩) (op_rd rfl (rd_nilCheck rfl) ?_)
      refine ga_only 12 (bm 14 8191) rfl rfl (by kernel_rfl) (by kernel_rfl) (.inl (by kernel_rfl)) (op_rd rfl (rd_fieldAddr rfl (fa_76_5 _)) ?_)
      refine ga_only 13 (bm 14 16383) rfl rfl (by kernel_rfl) (by kernel_rfl) (.inl (by kernel_rfl)) (op_store 3 ty_2 rfl rfl rfl rfl rfl (by rfl) (by rfl) ?_)
      refine ga_end (by kernel_rfl) (.inl (by kernel_rfl)) ?_
      refine gx_then <| gc_ret <| gx_then_ret ?_
      have hen := hp.end
      simp only [lsO] at *
      have hbt : bet l g p.at_ = true := by
        unfold bet
        rw [hen]
        rw [decide_eq_true (show soP l p < endF l g by omega)]; rfl
      have hu : (leaves shop l 0 p).foldl (upd l) (some g) = some p.at_ := by show (if bet l g p.at_ = true then some p.at_ else some g) = _; rw [hbt]; rfl
      rw [hu]
      refine gx_ret0 (.inl rfl) Try.results56 [3, 4, 5, 0] (by decide) ?_
      exact ⟨rfl, r60, c60, ⟨fun h => hsome (by omega), hla, bd_of (g := p.at_) hpb⟩, by simp only [plH, lsO, srR, bl, Option.getD_some, hen, hla]; rfl⟩
    refine ga_first 12 (bm 25 8191) rfl rfl rfl rfl (by kernel_rfl) (by kernel_rfl) ⟨[0, 1, 2, 3, 4, 5], by decide, rfl⟩ (qt_rd (rd_pick_f rfl rfl)) ?_
    refine ga_first 13 (bm 25 16383) rfl rfl rfl rfl (by kernel_rfl) (by kernel_rfl) ⟨[0, 1, 2, 3, 4, 5], by decide, rfl⟩ (qt_rd (rd_move rfl)) ?_
    refine ga_firstY 14 (bm 25 32767) rfl rfl rfl rfl rfl rfl (by kernel_rfl) (by kernel_rfl) ⟨[0, 1, 2, 3, 4, 5], by decide, rfl⟩ (qt_rd (rd_load Try.underlying73 rfl rfl (ld_sl (off := 0) hcp rfl))) ?_
    refine ga_firstY 15 (bm 25 65535) rfl rfl rfl rfl rfl rfl (by kernel_rfl) (by kernel_rfl) ⟨[0, 1, 2, 3, 4, 5], by decide, rfl⟩ (qt_rd (rd_nilCheck rfl)) ?_
    refine ga_firstY 16 (bm 25 131071) rfl rfl rfl rfl rfl rfl (by kernel_rfl) (by kernel_rfl) ⟨[0, 1, 2, 3, 4, 5], by decide, rfl⟩ (qt_rd (rd_fieldAddr rfl (fa_76_2 _))) ?_
    refine ga_firstY 17 (bm 25 262143) rfl rfl rfl rfl rfl rfl (by kernel_rfl) (by kernel_rfl) ⟨[0, 1, 2, 3, 4, 5], by decide, rfl⟩ (qt_rd (rd_load Try.underlying25 rfl rfl (by exact ld_blk 2 rfl rfl))) ?_
    refine ga_firstY 18 (bm 25 524287) rfl rfl rfl rfl rfl rfl (by kernel_rfl) (by kernel_rfl) ⟨[0, 1, 2, 3, 4, 5], by decide, rfl⟩ (qt_rd (rd_load Try.underlying73 rfl rfl (ld_sl (off := 0) hcp rfl))) ?_
    refine ga_firstY 19 (bm 25 1048575) rfl rfl rfl rfl rfl rfl (by kernel_rfl) (by kernel_rfl) ⟨[0, 1, 2, 3, 4, 5], by decide, rfl⟩ (qt_rd (rd_nilCheck rfl)) ?_
    refine ga_firstY 20 (bm 25 2097151) rfl rfl rfl rfl rfl rfl (by kernel_rfl) (by kernel_rfl) ⟨[0, 1, 2, 3, 4, 5], by decide, rfl⟩ (qt_rd (rd_fieldAddr rfl (fa_76_4 _))) ?_
    refine ga_firstY 21 (bm 25 4194303) rfl rfl rfl rfl rfl rfl (by kernel_rfl) (by kernel_rfl) ⟨[0, 1, 2, 3, 4, 5], by decide, rfl⟩ (qt_rd (rd_load Try.underlying25 rfl rfl (by exact ld_blk 2 rfl rfl))) ?_
    refine ga_onlyY 22 (bm 25 8388607) rfl rfl rfl rfl (by kernel_rfl) (by kernel_rfl) (.inr ⟨[0, 1, 2, 3, 4, 5], by decide, rfl⟩) (op_call rfl (vf := []) (vc := []) rfl rfl Try.call57 (fun w1 ho => by
      have h9 := Compare_ok (rowA (some qa)) l.length (rowA (some k)) cb (castL p.at_) (castL g) (by rw [castL_len]; omega) (by rw [castL_len]; omega) (by rw [castL_len, castL_len]; omega) w1 (cast_sl (by rw [hla]; exact ho.rowSl 3 rfl)) (cast_sl (ho.rowSl 5 rfl))
      rw [castL_len, castL_len, lex_cast, hla] at h9
      exact h9) ?_)
    rintro _ _ ⟨r51, rfl, rfl, hr51⟩
    refine ga_firstY 23 (bm 25 16777215) rfl rfl rfl rfl rfl rfl (by kernel_rfl) (by kernel_rfl) ⟨[0, 1, 2, 3, 4, 5], by decide, rfl⟩ (qt_rd (rd_lss rfl rfl)) (gk_dec (fun h52 => ?_) (fun h52 => ?_))
    · refine ga_first 24 (bm 25 33554431) rfl rfl rfl rfl (by kernel_rfl) (by kernel_rfl) ⟨[0, 1, 2, 3, 4, 5], by decide, rfl⟩ (qt_rd (rd_pick_f rfl rfl)) ?_
      refine ga_end (by kernel_rfl) (.inr ⟨[0, 1, 2, 3, 4, 5], by decide, rfl⟩) ?_
      refine gx_then <| gc_cond_t rfl <| gc_drawP [0, 1, 3, 4, 5] false 11 rfl <| ga_first 0 (bm 14 1) rfl rfl rfl rfl (by kernel_rfl) (by kernel_rfl) ⟨[0, 1, 3, 4, 5], by decide, rfl⟩ (qt_rd (rd_load Try.underlying73 rfl rfl (ld_sl (off := 0) hcp rfl))) ?_
      refine ga_first 1 (bm 14 3) rfl rfl rfl rfl (by kernel_rfl) (by kernel_rfl) ⟨[0, 1, 3, 4, 5], by decide, rfl⟩ (qt_rd (rd_load Try.underlying73 rfl rfl (ld_sl (off := 0) hcp rfl))) ?_
      refine ga_first 2 (bm 14 7) rfl rfl rfl rfl (by kernel_rfl) (by kernel_rfl) ⟨[0, 1, 3, 4, 5], by decide, rfl⟩ (qt_rd (rd_load Try.underlying73 rfl rfl (ld_sl (off := 0) hcp rfl))) ?_
      refine ga_first 3 (bm 14 15) rfl rfl rfl rfl (by kernel_rfl) (by kernel_rfl) ⟨[0, 1, 3, 4, 5], by decide, rfl⟩ (qt_rd (rd_nilCheck rfl)) ?_
      refine ga_first 4 (bm 14 31) rfl rfl rfl rfl (by kernel_rfl) (by kernel_rfl) ⟨[0, 1, 3, 4, 5], by decide, rfl⟩ (qt_rd (rd_fieldAddr rfl (fa_76_2 _))) ?_
      refine ga_first 7 (bm 14 159) rfl rfl rfl rfl (by kernel_rfl) (by kernel_rfl) ⟨[0, 1, 3, 4, 5], by decide, rfl⟩ (qt_rd (rd_load Try.underlying2 rfl rfl (by exact ld_blk 0 rfl rfl))) ?_
      refine ga_only 5 (bm 14 191) rfl rfl (by kernel_rfl) (by kernel_rfl) (.inr ⟨[0, 1, 3, 4, 5], by decide, rfl⟩) (op_rd rfl (rd_load Try.underlying25 rfl rfl (by exact ld_blk 2 rfl rfl)) ?_)
      refine ga_only 6 (bm 14 255) rfl rfl (by kernel_rfl) (by kernel_rfl) (.inr ⟨[0, 1, 3, 4, 5], by decide, rfl⟩) (op_call rfl (vf := []) (vc := []) rfl rfl Try.call58 (fun w1 ho => by
        have h9 := Clone_ok qa l.length p.at_ (by omega) w1 (by rw [hla]; exact ho.rowSl 3 rfl)
        rw [hla] at h9
        exact h9) ?_)
      rintro _ _ ⟨r60, c60, rfl, hsome, rfl⟩
      refine ga_first 8 (bm 14 511) rfl rfl rfl rfl (by kernel_rfl) (by kernel_rfl) ⟨[1, 2, 4, 5, 6], by decide, rfl⟩ (qt_rd (rd_nilCheck rfl)) ?_
      refine ga_first 9 (bm 14 1023) rfl rfl rfl rfl (by kernel_rfl) (by kernel_rfl) ⟨[1, 2, 4, 5, 6], by decide, rfl⟩ (qt_rd (rd_fieldAddr rfl (fa_76_4 _))) ?_
      refine ga_only 10 (bm 14 2047) rfl rfl (by kernel_rfl) (by kernel_rfl) (.inr ⟨[1, 2, 4, 5, 6], by decide, rfl⟩) (op_store 3 ty_25 rfl rfl rfl rfl rfl (by rfl) (by rfl) ?_)
      refine ga_only 11 (bm 14 4095) rfl rfl (by kernel_rfl) (by kernel_rfl) (.inr ⟨[1, 2, 4, 5, 6], by decide, rfl⟩) (op_rd rfl (rd_nilCheck rfl) ?_)
      refine ga_only 12 (bm 14 8191) rfl rfl (by kernel_rfl) (by kernel_rfl) (.inl (by kernel_rfl)) (op_rd rfl (rd_fieldAddr rfl (fa_76_5 _)) ?_)
      refine ga_only 13 (bm 14 16383) rfl rfl (by kernel_rfl) (by kernel_rfl) (.inl (by kernel_rfl)) (op_store 3 ty_2 rfl rfl rfl rfl rfl (by rfl) (by rfl) ?_)
      refine ga_end (by kernel_rfl) (.inl (by kernel_rfl)) ?_
      refine gx_then <| gc_ret <| gx_then_ret ?_
      have hen := hp.end
      simp only [lsO] at *
      have hbt : bet l g p.at_ = true := by
        unfold bet
        rw [hen]
        rw [show soP l p = endF l g by omega, (hr51.1 (by omega) : lexB p.at_ g = true)]; simp
      have hu : (leaves shop l 0 p).foldl (upd l) (some g) = some p.at_ := by show (if bet l g p.at_ = true then some p.at_ else some g) = _; rw [hbt]; rfl
      rw [hu]
      refine gx_ret0 (.inl rfl) Try.results56 [3, 4, 5, 0] (by decide) ?_
      exact ⟨rfl, r60, c60, ⟨fun h => hsome (by omega), hla, bd_of (g := p.at_) hpb⟩, by simp only [plH, lsO, srR, bl, Option.getD_some, hen, hla]; rfl⟩
    refine ga_first 24 (bm 25 33554431) rfl rfl rfl rfl (by kernel_rfl) (by kernel_rfl) ⟨[0, 1, 2, 3, 4, 5], by decide, rfl⟩ (qt_rd (rd_pick_f rfl rfl)) ?_
    refine ga_end (by kernel_rfl) (.inr ⟨[0, 1, 2, 3, 4, 5], by decide, rfl⟩) ?_
    refine gx_then <| gc_cond_f rfl <| gc_skip <| gx_then <| gc_ret <| gx_then_ret ?_
    have hen := hp.end
    simp only [lsO] at *
    have hbt : bet l g p.at_ = false := by
      unfold bet
      rw [hen]
      rw [decide_eq_false (by omega)]
      have h9 : lexB p.at_ g = false := by
        cases h8 : lexB p.at_ g with
        | false => rfl
        | true => have := hr51.2 h8; omega
      rw [h9, Bool.and_false]; rfl
    have hu : (leaves shop l 0 p).foldl (upd l) (some g) = some g := by show (if bet l g p.at_ = true then some p.at_ else some g) = _; rw [hbt]; rfl
    rw [hu]
    refine gx_ret0 (.inl rfl) Try.results56 [2, 3, 4, 5] (by decide) ?_
    exact ⟨rfl, some k, cb, ⟨fun _ => rfl, hgl, hgb⟩, rfl⟩
  exfalso; omega
set_option maxRecDepth 100000 in
set_option maxHeartbeats 1000000 in
theorem srchS_ok (a : Option Addr) (c : Nat) (l : List Jb) (hg : GoodJ l) (h7 : l.length ≤ 7) (sa : Option Addr) (sc : Nat) (shop : List Int) (hsl : shop.length ≤ 6) (hsp : ∀ s ∈ shop, 1 ≤ s) (hbn : ∀ x ∈ l, x.bench < shop.length) (bp qa qb pc fc : Nat) (r : Nat) (ih : ∀ (p : Plc) (hp : PlOk l (r) p) (many : Nat) (hm : many + (r) = l.length) (b : Option (List Nat)) (rb : Option Nat) (cb : Nat) (hb0 : b = none ∨ l.length ≠ 0) (hB0 : BestOk b rb cb l.length) (w0 : World) (hown : Own w0 ([plH bp sa shop.length sc a l c qa qb (b) rb cb, atH qa l p, isH qb l p, srR (b) rb cb].filterMap HL.block) w0 [plH bp sa shop.length sc a l c qa qb (b) rb cb, atH qa l p, isH qb l p, srR (b) rb cb]) (hJ : JnIn a l w0 ([plH bp sa shop.length sc a l c qa qb (b) rb cb, atH qa l p, isH qb l p, srR (b) rb cb].filterMap HL.block)) (hS : OldSl w0 ([plH bp sa shop.length sc a l c qa qb (b) rb cb, atH qa l p, isH qb l p, srR (b) rb cb].filterMap HL.block) sa shop.length 1 (shop.map intV)) (hcp : OldSl w0 ([plH bp sa shop.length sc a l c qa qb (b) rb cb, atH qa l p, isH qb l p, srR (b) rb cb].filterMap HL.block) (some ⟨pc, 0, none⟩) 1 1 [.pointer (some ⟨bp, 0, none⟩)]) (hcf : OldSl w0 ([plH bp sa shop.length sc a l c qa qb (b) rb cb, atH qa l p, isH qb l p, srR (b) rb cb].filterMap HL.block) (some ⟨fc, 0, none⟩) 1 1 [.func (.func 56) #[] #[.pointer (some ⟨pc, 0, none⟩), .pointer (some ⟨fc, 0, none⟩)]]), Sp Try.prog 56 [natV many, natV (soP l p), .pointer (some ⟨pc, 0, none⟩), .pointer (some ⟨fc, 0, none⟩)] w0 ([plH bp sa shop.length sc a l c qa qb (b) rb cb, atH qa l p, isH qb l p, srR (b) rb cb].filterMap HL.block) (fun v L => v = .tuple #[] ∧ ∃ rb' cb', BestOk ((leaves shop l (r) p).foldl (upd l) b) rb' cb' l.length ∧ L = [plH bp sa shop.length sc a l c qa qb ((leaves shop l (r) p).foldl (upd l) b) rb' cb', atH qa l p, isH qb l p, srR ((leaves shop l (r) p).foldl (upd l) b) rb' cb'])) (p : Plc) (hp : PlOk l (r + 1) p) (many : Nat) (hm : many + (r + 1) = l.length) (b : Option (List Nat)) (rb : Option Nat) (cb : Nat) (hb0 : b = none ∨ l.length ≠ 0) (hB0 : BestOk b rb cb l.length) (w0 : World) (hown : Own w0 ([plH bp sa shop.length sc a l c qa qb (b) rb cb, atH qa l p, isH qb l p, srR (b) rb cb].filterMap HL.block) w0 [plH bp sa shop.length sc a l c qa qb (b) rb cb, atH qa l p, isH qb l p, srR (b) rb cb]) (hJ : JnIn a l w0 ([plH bp sa shop.length sc a l c qa qb (b) rb cb, atH qa l p, isH qb l p, srR (b) rb cb].filterMap HL.block)) (hS : OldSl w0 ([plH bp sa shop.length sc a l c qa qb (b) rb cb, atH qa l p, isH qb l p, srR (b) rb cb].filterMap HL.block) sa shop.length 1 (shop.map intV)) (hcp : OldSl w0 ([plH bp sa shop.length sc a l c qa qb (b) rb cb, atH qa l p, isH qb l p, srR (b) rb cb].filterMap HL.block) (some ⟨pc, 0, none⟩) 1 1 [.pointer (some ⟨bp, 0, none⟩)]) (hcf : OldSl w0 ([plH bp sa shop.length sc a l c qa qb (b) rb cb, atH qa l p, isH qb l p, srR (b) rb cb].filterMap HL.block) (some ⟨fc, 0, none⟩) 1 1 [.func (.func 56) #[] #[.pointer (some ⟨pc, 0, none⟩), .pointer (some ⟨fc, 0, none⟩)]]) : Sp Try.prog 56 [natV many, natV (soP l p), .pointer (some ⟨pc, 0, none⟩), .pointer (some ⟨fc, 0, none⟩)] w0 ([plH bp sa shop.length sc a l c qa qb (b) rb cb, atH qa l p, isH qb l p, srR (b) rb cb].filterMap HL.block) (fun v L => v = .tuple #[] ∧ ∃ rb' cb', BestOk ((leaves shop l (r + 1) p).foldl (upd l) b) rb' cb' l.length ∧ L = [plH bp sa shop.length sc a l c qa qb ((leaves shop l (r + 1) p).foldl (upd l) b) rb' cb', atH qa l p, isH qb l p, srR ((leaves shop l (r + 1) p).foldl (upd l) b) rb' cb']) := by
  have hj := hg.ok
  have hla := hp.la
  have hli := hp.li
  have hpb := atN_bd hp h7
  refine spec_enterM Try.func56 rfl Try.ntmps56 rfl hown ?_
  simp only [argEnv]
  refine rc_seq <| rc_region <| rl_op (by nofun) (op_box rfl rfl rfl (fun b4 => ?_))
  refine rl_op (by nofun) (op_box rfl rfl rfl (fun b5 => ?_))
  refine rl_nil <| gx_then <| rc_seq <| rc_seq ?_
  rcases best_dec (shop := shop) hj hp hB0 hb0 with hv13 | ⟨hv13, hs20⟩
  · refine rc_drawP [0, 1, 2, 3, 4, 5] true 12 rfl rfl <| ga_first 0 (bm 13 1) rfl rfl rfl rfl (by kernel_rfl) (by kernel_rfl) ⟨[0, 1, 2, 3, 4, 5], by decide, rfl⟩ (qt_rd (rd_load Try.underlying73 rfl rfl (ld_sl (off := 0) hcp rfl))) ?_
    refine ga_first 1 (bm 13 3) rfl rfl rfl rfl (by kernel_rfl) (by kernel_rfl) ⟨[0, 1, 2, 3, 4, 5], by decide, rfl⟩ (qt_rd (rd_nilCheck rfl)) ?_
    refine ga_first 2 (bm 13 7) rfl rfl rfl rfl (by kernel_rfl) (by kernel_rfl) ⟨[0, 1, 2, 3, 4, 5], by decide, rfl⟩ (qt_rd (rd_fieldAddr rfl (fa_76_4 _))) ?_
    refine ga_first 3 (bm 13 15) rfl rfl rfl rfl (by kernel_rfl) (by kernel_rfl) ⟨[0, 1, 2, 3, 4, 5], by decide, rfl⟩ (qt_rd (rd_load Try.underlying25 rfl rfl (by exact ld_blk 2 rfl rfl))) ?_
    refine ga_first 4 (bm 13 31) rfl rfl rfl rfl (by kernel_rfl) (by kernel_rfl) ⟨[0, 1, 2, 3, 4, 5], by decide, rfl⟩ (qt_rd (rd_neqNilSl eg_25 Try.underlying25 rfl rfl)) ?_
    rw [hv13]
    refine ga_first 5 (bm 13 63) rfl rfl rfl rfl (by kernel_rfl) (by kernel_rfl) ⟨[0, 1, 2, 3, 4, 5], by decide, rfl⟩ (qt_rd (rd_move rfl)) ?_
    refine ga_firstN 6 (bm 13 127) rfl rfl rfl rfl rfl rfl (by kernel_rfl) (by kernel_rfl) ⟨[0, 1, 2, 3, 4, 5], by decide, rfl⟩ ?_
    refine ga_firstN 7 (bm 13 255) rfl rfl rfl rfl rfl rfl (by kernel_rfl) (by kernel_rfl) ⟨[0, 1, 2, 3, 4, 5], by decide, rfl⟩ ?_
    refine ga_firstN 8 (bm 13 511) rfl rfl rfl rfl rfl rfl (by kernel_rfl) (by kernel_rfl) ⟨[0, 1, 2, 3, 4, 5], by decide, rfl⟩ ?_
    refine ga_firstN 9 (bm 13 1023) rfl rfl rfl rfl rfl rfl (by kernel_rfl) (by kernel_rfl) ⟨[0, 1, 2, 3, 4, 5], by decide, rfl⟩ ?_
    refine ga_firstN 10 (bm 13 2047) rfl rfl rfl rfl rfl rfl (by kernel_rfl) (by kernel_rfl) ⟨[0, 1, 2, 3, 4, 5], by decide, rfl⟩ ?_
    refine ga_firstN 11 (bm 13 4095) rfl rfl rfl rfl rfl rfl (by kernel_rfl) (by kernel_rfl) ⟨[0, 1, 2, 3, 4, 5], by decide, rfl⟩ ?_
    refine ga_first 12 (bm 13 8191) rfl rfl rfl rfl (by kernel_rfl) (by kernel_rfl) ⟨[0, 1, 2, 3, 4, 5], by decide, rfl⟩ (qt_rd (rd_pick_f rfl rfl)) ?_
    refine ga_end (by kernel_rfl) (.inr ⟨[0, 1, 2, 3, 4, 5], by decide, rfl⟩) ?_
    refine gx_then <| rc_cond_f rfl <| rc_skip <| gx_then <| rc_seq <| rc_seq <| rc_drawP [0, 1, 2, 3, 4, 5] true 6 rfl rfl <| ga_first 0 (bm 7 1) rfl rfl rfl rfl (by kernel_rfl) (by kernel_rfl) ⟨[0, 1, 2, 3, 4, 5], by decide, rfl⟩ (qt_rd (rd_load Try.underlying3 rfl rfl (by exact ld_blk 1 rfl rfl))) ?_
    refine ga_first 1 (bm 7 3) rfl rfl rfl rfl (by kernel_rfl) (by kernel_rfl) ⟨[0, 1, 2, 3, 4, 5], by decide, rfl⟩ (qt_rd (rd_load Try.underlying73 rfl rfl (ld_sl (off := 0) hcp rfl))) ?_
    refine ga_first 2 (bm 7 7) rfl rfl rfl rfl (by kernel_rfl) (by kernel_rfl) ⟨[0, 1, 2, 3, 4, 5], by decide, rfl⟩ (qt_rd (rd_nilCheck rfl)) ?_
    refine ga_first 3 (bm 7 15) rfl rfl rfl rfl (by kernel_rfl) (by kernel_rfl) ⟨[0, 1, 2, 3, 4, 5], by decide, rfl⟩ (qt_rd (rd_fieldAddr rfl (fa_76_1 _))) ?_
    refine ga_first 4 (bm 7 31) rfl rfl rfl rfl (by kernel_rfl) (by kernel_rfl) ⟨[0, 1, 2, 3, 4, 5], by decide, rfl⟩ (qt_rd (rd_load Try.underlying22 rfl rfl (by exact ld_blk 2 rfl rfl))) ?_
    refine ga_first 5 (bm 7 63) rfl rfl rfl rfl (by kernel_rfl) (by kernel_rfl) ⟨[0, 1, 2, 3, 4, 5], by decide, rfl⟩ (qt_rd (rd_lenSlice Try.underlying22 rfl)) ?_
    refine ga_first 6 (bm 7 127) rfl rfl rfl rfl (by kernel_rfl) (by kernel_rfl) ⟨[0, 1, 2, 3, 4, 5], by decide, rfl⟩ (qt_rd (rd_eql rfl rfl)) (gk_dec (fun h28 => ?_) (fun h28 => ?_))
    · exfalso; omega
    refine ga_end (by kernel_rfl) (.inr ⟨[0, 1, 2, 3, 4, 5], by decide, rfl⟩) ?_
    refine gx_then <| rc_cond_f rfl <| rc_skip <| gx_then <| rc_seq <| rc_region <| rl_op (by nofun) (op_rd rfl (rd_load Try.underlying73 rfl rfl (ld_sl (off := 0) hcp rfl)) ?_)
    refine rl_op (by nofun) (op_rd rfl (rd_nilCheck rfl) ?_)
    refine rl_op (by nofun) (op_rd rfl (rd_fieldAddr rfl (fa_76_1 _)) ?_)
    refine rl_op (by nofun) (op_rd rfl (rd_load Try.underlying22 rfl rfl (by exact ld_blk 2 rfl rfl)) ?_)
    refine rl_op (by nofun) (op_rd rfl (rd_lenSlice Try.underlying22 rfl) ?_)
    refine rl_op (by nofun) (op_rd rfl (rd_move rfl) ?_)
    refine rl_nil <| gx_then <| rc_block <| rc_loopM (ι := Nat × List Nat × Option Nat × Nat) [(2, _), (3, _), (4, _), (5, _), (69, _), (70, _)] [_, _, _, _] (fun q => q.1 ≤ l.length ∧ BestOk (accQ shop l r p b (q.1)) q.2.2.1 q.2.2.2 l.length) (fun q => q.2.1.map Go.Gv.mark) (fun q Fr0 => ((71, natV q.1) :: Fr0)) (fun q Fr0 => (plH bp sa shop.length sc a l c qa qb (accQ shop l r p b (q.1)) q.2.2.1 q.2.2.2 :: srR (accQ shop l r p b (q.1)) q.2.2.1 q.2.2.2 :: (Fr0 ++ (q.2.1.map markH)))) (fun q => l.length - q.1) (0, [], rb, cb) (⟨Nat.zero_le _, hB0⟩) rfl ⟨rfl, rfl, rfl, rfl, rfl, rfl, rfl, trivial⟩ ⟨[2, 5, 0, 1, 3, 4], by decide, rfl⟩ ?_
    rintro ⟨k, Ds, rb1, cb1⟩ ⟨hk, hB1⟩
    simp only at hk hB1 ⊢
    refine rc_seq <| rc_region <| rl_op (by nofun) (op_rd rfl (rd_lss rfl rfl) (gk_dec (fun h72 => ?_) (fun h72 => ?_)))
    · have hkl : k < l.length := by omega
      obtain ⟨x, hx⟩ := get_some hkl
      have hxl := hj.lags x (List.mem_of_getElem? hx)
      have hxh := job_le hj hx
      refine rl_nil <| gx_then <| rc_seq <| rc_cond_t rfl <| rc_skip <| gx_then <| rc_seq <| rc_block <| rc_seq <| rc_region <| rl_op (by nofun) (op_rd rfl (rd_move rfl) ?_)
      refine rl_op (by nofun) (op_rd rfl (rd_indexOld hJ.t Try.underlying22 ty_48 rfl rfl (by omega) (by omega)) ?_)
      refine rl_op (by nofun) (op_rd rfl (rd_loadAgg Try.underlying48 rfl ty_48 rfl (cs_slN hJ.t (flat_drop_get Jb.cells 4 (fun _ => rfl) hx)) rfl) ?_)
      refine rl_op (by nofun) (op_alloc ty_3 rfl rfl (fun b6 => ?_))
      refine rl_op (by nofun) (op_alloc ty_48 rfl rfl (fun b7 => ?_))
      refine rl_op (by nofun) (op_store 1 ty_3 rfl rfl rfl rfl rfl (by rfl) (by rfl) ?_)
      refine rl_op (by nofun) (op_storeAgg 0 ty_48 rfl rfl rfl rfl rfl rfl (by rfl) ?_)
      refine rl_nil <| gx_then <| rc_seq <| rc_seq <| rc_drawP [0, 1, 2, 3, 4, 5, 6, 7] true 12 rfl rfl <| ga_first 0 (bm 13 1) rfl rfl rfl rfl (by kernel_rfl) (by kernel_rfl) ⟨[0, 1, 2, 3, 4, 5, 6, 7], by decide, rfl⟩ (qt_rd (rd_load Try.underlying73 rfl rfl (ld_sl (off := 0) hcp rfl))) ?_
      refine ga_first 1 (bm 13 3) rfl rfl rfl rfl (by kernel_rfl) (by kernel_rfl) ⟨[0, 1, 2, 3, 4, 5, 6, 7], by decide, rfl⟩ (qt_rd (rd_nilCheck rfl)) ?_
      refine ga_first 2 (bm 13 7) rfl rfl rfl rfl (by kernel_rfl) (by kernel_rfl) ⟨[0, 1, 2, 3, 4, 5, 6, 7], by decide, rfl⟩ (qt_rd (rd_fieldAddr rfl (fa_76_3 _))) ?_
      refine ga_first 3 (bm 13 15) rfl rfl rfl rfl (by kernel_rfl) (by kernel_rfl) ⟨[0, 1, 2, 3, 4, 5, 6, 7], by decide, rfl⟩ (qt_rd (rd_load Try.underlying74 rfl rfl (by exact ld_blk 2 rfl rfl))) ?_
      refine ga_first 4 (bm 13 31) rfl rfl rfl rfl (by kernel_rfl) (by kernel_rfl) ⟨[0, 1, 2, 3, 4, 5, 6, 7], by decide, rfl⟩ (qt_rd (rd_load Try.underlying3 rfl rfl (by exact ld_blk 1 rfl rfl))) ?_
      refine ga_first 5 (bm 13 63) rfl rfl rfl rfl (by kernel_rfl) (by kernel_rfl) ⟨[0, 1, 2, 3, 4, 5, 6, 7], by decide, rfl⟩ (qt_rd (rd_indexRow1 7 rfl Try.underlying74 ty_4 rfl rfl (by omega) (by omega))) ?_
      refine ga_first 6 (bm 13 127) rfl rfl rfl rfl (by kernel_rfl) (by kernel_rfl) ⟨[0, 1, 2, 3, 4, 5, 6, 7], by decide, rfl⟩ (qt_rd (rd_load Try.underlying4 rfl rfl (ld_row 7 rfl (get_plQ (k := k) (by omega))))) ?_
      refine gk_bool (fun h82 => ?_) (fun h82 => ?_)
      · have hrd : readyB l p k = false := by rw [ready_any hx, h82]; rfl
        refine ga_first 7 (bm 13 255) rfl rfl rfl rfl (by kernel_rfl) (by kernel_rfl) ⟨[0, 1, 2, 3, 4, 5, 6, 7], by decide, rfl⟩ (qt_rd (rd_move rfl)) ?_
        refine ga_firstN 8 (bm 13 511) rfl rfl rfl rfl rfl rfl (by kernel_rfl) (by kernel_rfl) ⟨[0, 1, 2, 3, 4, 5, 6, 7], by decide, rfl⟩ ?_
        refine ga_firstN 9 (bm 13 1023) rfl rfl rfl rfl rfl rfl (by kernel_rfl) (by kernel_rfl) ⟨[0, 1, 2, 3, 4, 5, 6, 7], by decide, rfl⟩ ?_
        refine ga_firstN 10 (bm 13 2047) rfl rfl rfl rfl rfl rfl (by kernel_rfl) (by kernel_rfl) ⟨[0, 1, 2, 3, 4, 5, 6, 7], by decide, rfl⟩ ?_
        refine ga_firstN 11 (bm 13 4095) rfl rfl rfl rfl rfl rfl (by kernel_rfl) (by kernel_rfl) ⟨[0, 1, 2, 3, 4, 5, 6, 7], by decide, rfl⟩ ?_
        refine ga_first 12 (bm 13 8191) rfl rfl rfl rfl (by kernel_rfl) (by kernel_rfl) ⟨[0, 1, 2, 3, 4, 5, 6, 7], by decide, rfl⟩ (qt_rd (rd_pick_t rfl rfl)) ?_
        refine ga_end (by kernel_rfl) (.inr ⟨[0, 1, 2, 3, 4, 5, 6, 7], by decide, rfl⟩) ?_
        refine gx_then <| rc_cond_t rfl <| rc_exit <| gx_then_exit <| gx_block_exit <| gx_then <| rc_region <| rl_op (by nofun) (op_rd rfl (by exact rd_addN (b := 1) rfl rfl (by omega)) ?_)
        refine rl_op (by nofun) (op_rd rfl (rd_move rfl) ?_)
        refine rl_nil <| gx_then ?_
        rw [← accQ_no hrd]
        exact gx_cutM ((k + 1, Ds, rb1, cb1)) ⟨⟨by simp only; omega, by simp only; rw [accQ_no hrd]; exact hB1⟩, by simp only; omega⟩ rfl ⟨rfl, rfl, rfl, rfl, rfl, rfl, rfl, trivial⟩ (sub_tail (A := [_, _, _, _, _, _]) (B := [_, _, _, _, _, _, _, _]) (T := (Ds.map markH)) [2, 3, 4, 5, 6, 7] 8 (by decide) (by decide) rfl rfl)
      refine ga_first 7 (bm 13 255) rfl rfl rfl rfl (by kernel_rfl) (by kernel_rfl) ⟨[0, 1, 2, 3, 4, 5, 6, 7], by decide, rfl⟩ (qt_rd (rd_move rfl)) ?_
      refine ga_firstY 8 (bm 13 511) rfl rfl rfl rfl rfl rfl (by kernel_rfl) (by kernel_rfl) ⟨[0, 1, 2, 3, 4, 5, 6, 7], by decide, rfl⟩ (qt_rd (rd_fieldAddr rfl (fa_48_3 _))) ?_
      refine ga_firstY 9 (bm 13 1023) rfl rfl rfl rfl rfl rfl (by kernel_rfl) (by kernel_rfl) ⟨[0, 1, 2, 3, 4, 5, 6, 7], by decide, rfl⟩ (qt_rd (rd_load Try.underlying46 rfl rfl (by exact ld_blk 0 rfl rfl))) ?_
      refine ga_firstY 10 (bm 13 2047) rfl rfl rfl rfl rfl rfl (by kernel_rfl) (by kernel_rfl) ⟨[0, 1, 2, 3, 4, 5, 6, 7], by decide, rfl⟩ (qt_rd (rd_makeFunc (fs := []) (cs := [.tmp 2]) rfl rfl)) ?_
      refine ga_firstY 11 (bm 13 4095) rfl rfl rfl rfl rfl rfl (by kernel_rfl) (by kernel_rfl) ⟨[0, 1, 2, 3, 4, 5, 6, 7], by decide, rfl⟩ (qt_call (vf := []) (vc := []) rfl rfl Try.call59 (fun w1 ho => containsUnpl_ok x.aa x.ac x.after hxl p (fun y hy => by
        obtain ⟨m9, hm9⟩ := List.mem_iff_getElem?.1 hy
        have := (lag_lt hj hx hm9).1
        omega) pc bp _ _ _ _ _ (some qb) l.length w1 ((hJ.r x (List.mem_of_getElem? hx)).at ho) (hcp.at ho) (by rw [hli]; exact blkMem ho 6 rfl (List.mem_of_getElem? (i := 2) rfl)) (by rw [hli]; exact ho.rowSl 7 rfl)) (by rintro _ _ ⟨h, _⟩; exact h)) ?_
      refine gk_bool (fun h87 => ?_) (fun h87 => ?_)
      · have hrd : readyB l p k = false := by rw [ready_any hx, h82, h87]; rfl
        refine ga_first 12 (bm 13 8191) rfl rfl rfl rfl (by kernel_rfl) (by kernel_rfl) ⟨[0, 1, 2, 3, 4, 5, 6, 7], by decide, rfl⟩ (qt_rd (rd_pick_f rfl rfl)) ?_
        refine ga_end (by kernel_rfl) (.inr ⟨[0, 1, 2, 3, 4, 5, 6, 7], by decide, rfl⟩) ?_
        refine gx_then <| rc_cond_t rfl <| rc_exit <| gx_then_exit <| gx_block_exit <| gx_then <| rc_region <| rl_op (by nofun) (op_rd rfl (by exact rd_addN (b := 1) rfl rfl (by omega)) ?_)
        refine rl_op (by nofun) (op_rd rfl (rd_move rfl) ?_)
        refine rl_nil <| gx_then ?_
        rw [← accQ_no hrd]
        exact gx_cutM ((k + 1, Ds, rb1, cb1)) ⟨⟨by simp only; omega, by simp only; rw [accQ_no hrd]; exact hB1⟩, by simp only; omega⟩ rfl ⟨rfl, rfl, rfl, rfl, rfl, rfl, rfl, trivial⟩ (sub_tail (A := [_, _, _, _, _, _]) (B := [_, _, _, _, _, _, _, _]) (T := (Ds.map markH)) [2, 3, 4, 5, 6, 7] 8 (by decide) (by decide) rfl rfl)
      have hrd : readyB l p k = true := by rw [ready_any hx, h82, h87]; rfl
      have hfr0 := frees_first (place_some (shop := shop) (p := p) (sb_pos hsp hx (hbn x (List.mem_of_getElem? hx))) (fun j hj9 => (hj.hrs j hj9).1))
      have hpf := place_so (shop := shop) hj hkl (ready_of hrd).2
      have hsb := hp.bd
      refine ga_first 12 (bm 13 8191) rfl rfl rfl rfl (by kernel_rfl) (by kernel_rfl) ⟨[0, 1, 2, 3, 4, 5, 6, 7], by decide, rfl⟩ (qt_rd (rd_pick_f rfl rfl)) ?_
      refine ga_end (by kernel_rfl) (.inr ⟨[0, 1, 2, 3, 4, 5, 6, 7], by decide, rfl⟩) ?_
      refine gx_then <| rc_cond_f rfl <| rc_skip <| gx_then <| rc_seq <| rc_region <| rl_op (by nofun) (op_rd rfl (rd_load Try.underlying73 rfl rfl (ld_sl (off := 0) hcp rfl)) ?_)
      refine rl_op (by nofun) (op_rd rfl (rd_load Try.underlying3 rfl rfl (by exact ld_blk 1 rfl rfl)) ?_)
      refine rl_op (by nofun) (op_call rfl (vf := []) (vc := []) rfl rfl Try.call61 (fun w1 ho => hours_ok bp k w1) ?_)
      rintro _ _ ⟨pcb, icb, rfl, rfl⟩
      refine rl_nil <| gx_then <| rc_block <| gk_env [(2, _), (3, _), (4, _), (5, _), (6, _), (7, _), (69, _), (70, _), (71, _), (72, _), (73, _), (74, _), (75, _), (76, _), (77, _), (78, _), (79, _), (80, _), (81, _), (82, _), (83, _), (84, _), (85, _), (86, _), (87, _), (88, _), (89, _), (90, _), (91, _)] ⟨rfl, rfl, rfl, rfl, rfl, rfl, rfl, rfl, rfl, rfl, rfl, rfl, rfl, rfl, rfl, rfl, rfl, rfl, rfl, rfl, rfl, rfl, rfl, rfl, rfl, rfl, rfl, rfl, rfl, trivial⟩ ?_
      refine rc_rangeF (β := Unit) (N := (freesL shop l p k).length) (xs := fun i => natV ((freesL shop l p k).getD i 0)) (gf := 72) (caps := [.pointer (some ⟨pcb, 0, none⟩), .pointer (some ⟨icb, 0, none⟩)]) (fun i _ => [(8, natV ((freesL shop l p k).getD i 0))]) (fun i _ => []) rfl Try.call72 rfl (fun i L => i = 0 ∧ L = [.blk icb [natV k] 3, .blk pcb [.pointer (some ⟨bp, 0, none⟩)] 73, .blk b7 [.string x.name, natV x.bench, natV x.hours, .slice x.aa x.after.length x.ac] 48, .blk b6 [natV k] 3, plH bp sa shop.length sc a l c qa qb (accQ shop l r p b (k)) rb1 cb1, srR (accQ shop l r p b (k)) rb1 cb1, .blk b5 [natV (soP l p)] 2, .blk b4 [natV many] 3, atH qa l p, isH qb l p] ++ Ds.map markH) (fun cd i L => cd = .exit 2 ∧ i = 0 ∧ ∃ rb2 cb2, BestOk (accQ shop l r p b (k + 1)) rb2 cb2 l.length ∧ L = [.blk icb [natV k] 3, .blk pcb [.pointer (some ⟨bp, 0, none⟩)] 73, .blk b7 [.string x.name, natV x.bench, natV x.hours, .slice x.aa x.after.length x.ac] 48, .blk b6 [natV k] 3, plH bp sa shop.length sc a l c qa qb (accQ shop l r p b (k + 1)) rb2 cb2, srR (accQ shop l r p b (k + 1)) rb2 cb2, .blk b5 [natV (soP l p)] 2, .blk b4 [natV many] 3, atH qa l p, isH qb l p] ++ Ds.map markH) (GH sa shop.length sc a l.length c p (some qa) (some qb) l.length l.length bp pcb icb k) (fun i L hd h => by
        unfold GH
        rw [hla, hli]
        rcases h with ⟨_, rfl⟩ | ⟨_, _, _, rb2, cb2, _, rfl⟩
        · exact ⟨_, _, (List.mem_append_right _ (List.mem_append_left _ (List.mem_cons_of_mem _ (List.mem_cons_of_mem _ (List.mem_cons_of_mem _ (List.mem_cons_of_mem _ List.mem_cons_self)))))), (List.mem_append_right _ (List.mem_append_left _ (List.mem_cons_of_mem _ (List.mem_cons_of_mem _ (List.mem_cons_of_mem _ (List.mem_cons_of_mem _ (List.mem_cons_of_mem _ (List.mem_cons_of_mem _ (List.mem_cons_of_mem _ (List.mem_cons_of_mem _ List.mem_cons_self)))))))))), (List.mem_append_right _ (List.mem_append_left _ (List.mem_cons_of_mem _ (List.mem_cons_of_mem _ (List.mem_cons_of_mem _ (List.mem_cons_of_mem _ (List.mem_cons_of_mem _ (List.mem_cons_of_mem _ (List.mem_cons_of_mem _ (List.mem_cons_of_mem _ (List.mem_cons_of_mem _ List.mem_cons_self))))))))))), (List.mem_append_right _ (List.mem_append_left _ (List.mem_cons_of_mem _ List.mem_cons_self))), (List.mem_append_right _ (List.mem_append_left _ List.mem_cons_self))⟩
        · exact ⟨_, _, (List.mem_append_right _ (List.mem_append_left _ (List.mem_cons_of_mem _ (List.mem_cons_of_mem _ (List.mem_cons_of_mem _ (List.mem_cons_of_mem _ List.mem_cons_self)))))), (List.mem_append_right _ (List.mem_append_left _ (List.mem_cons_of_mem _ (List.mem_cons_of_mem _ (List.mem_cons_of_mem _ (List.mem_cons_of_mem _ (List.mem_cons_of_mem _ (List.mem_cons_of_mem _ (List.mem_cons_of_mem _ (List.mem_cons_of_mem _ List.mem_cons_self)))))))))), (List.mem_append_right _ (List.mem_append_left _ (List.mem_cons_of_mem _ (List.mem_cons_of_mem _ (List.mem_cons_of_mem _ (List.mem_cons_of_mem _ (List.mem_cons_of_mem _ (List.mem_cons_of_mem _ (List.mem_cons_of_mem _ (List.mem_cons_of_mem _ (List.mem_cons_of_mem _ List.mem_cons_self))))))))))), (List.mem_append_right _ (List.mem_append_left _ (List.mem_cons_of_mem _ List.mem_cons_self))), (List.mem_append_right _ (List.mem_append_left _ List.mem_cons_self))⟩) (⟨rfl, rfl⟩) (fun lb J Jx hG w1 L hY hJ9 hO => hoursIt_ok a c l hj sa sc shop hsl p hla hli hpb k x hx (hbn x (List.mem_of_getElem? hx)) h7 (some qa) (some qb) l.length l.length bp pcb icb lb J Jx hG w1 L hY hJ9 hO.self (JnIn.allOut hJ hO) (hS.allOut hO (by decide))) ?_ ?_ ?_ ?_
      · intro i lb w1 S1 L1 K1 Q1 hk1
        refine rc_region <| rl_op (by nofun) (op_rd rfl (rd_assign rfl) ?_)
        refine rl_nil <| gx_then ?_
        exact gk_env _ (by exact ⟨rfl, rfl, rfl, rfl, rfl, rfl, rfl, rfl, rfl, rfl, rfl, rfl, rfl, rfl, rfl, rfl, rfl, rfl, rfl, rfl, rfl, rfl, rfl, rfl, rfl, rfl, rfl, rfl, rfl, rfl, trivial⟩) (hk1 ())
      · intro i hi L hI lb D rec w1 S1 _ rec9 hO9 hS9
        obtain ⟨rfl, rfl⟩ := hI
        rw [hfr0.2]
        have hJ1 := JnIn.allOut hJ hO9
        have hS1 := hS.allOut hO9 (by decide)
        have hcp1 := hcp.allOut hO9 (by decide)
        have hcf1 := hcf.allOut hO9 (by decide)
        rw [← hS9] at hJ1 hS1 hcp1 hcf1
        refine rc_block <| rc_seq <| rc_drawP [0, 1, 2, 3, 4, 5, 6, 7, 8, 9] false 14 rfl rfl <| ga_first 0 (bm 15 1) rfl rfl rfl rfl (by kernel_rfl) (by kernel_rfl) ⟨[0, 1, 2, 3, 4, 5, 6, 7, 8, 9], by decide, rfl⟩ (qt_rd (rd_load Try.underlying73 rfl rfl (ld_sl (off := 0) hcp1 rfl))) ?_
        refine ga_first 1 (bm 15 3) rfl rfl rfl rfl (by kernel_rfl) (by kernel_rfl) ⟨[0, 1, 2, 3, 4, 5, 6, 7, 8, 9], by decide, rfl⟩ (qt_rd (rd_nilCheck rfl)) ?_
        refine ga_first 2 (bm 15 7) rfl rfl rfl rfl (by kernel_rfl) (by kernel_rfl) ⟨[0, 1, 2, 3, 4, 5, 6, 7, 8, 9], by decide, rfl⟩ (qt_rd (rd_fieldAddr rfl (fa_76_2 _))) ?_
        refine ga_first 3 (bm 15 15) rfl rfl rfl rfl (by kernel_rfl) (by kernel_rfl) ⟨[0, 1, 2, 3, 4, 5, 6, 7, 8, 9], by decide, rfl⟩ (qt_rd (rd_load Try.underlying25 rfl rfl (by exact ld_blk 6 rfl rfl))) ?_
        refine ga_first 4 (bm 15 31) rfl rfl rfl rfl (by kernel_rfl) (by kernel_rfl) ⟨[0, 1, 2, 3, 4, 5, 6, 7, 8, 9], by decide, rfl⟩ (qt_rd (rd_load Try.underlying3 rfl rfl (by exact ld_blk 5 rfl rfl))) ?_
        refine ga_first 5 (bm 15 63) rfl rfl rfl rfl (by kernel_rfl) (by kernel_rfl) ⟨[0, 1, 2, 3, 4, 5, 6, 7, 8, 9], by decide, rfl⟩ (qt_rd (rd_load Try.underlying73 rfl rfl (ld_sl (off := 0) hcp1 rfl))) ?_
        refine ga_first 6 (bm 15 127) rfl rfl rfl rfl (by kernel_rfl) (by kernel_rfl) ⟨[0, 1, 2, 3, 4, 5, 6, 7, 8, 9], by decide, rfl⟩ (qt_rd (rd_nilCheck rfl)) ?_
        refine ga_first 7 (bm 15 255) rfl rfl rfl rfl (by kernel_rfl) (by kernel_rfl) ⟨[0, 1, 2, 3, 4, 5, 6, 7, 8, 9], by decide, rfl⟩ (qt_rd (rd_fieldAddr rfl (fa_76_3 _))) ?_
        refine ga_first 8 (bm 15 511) rfl rfl rfl rfl (by kernel_rfl) (by kernel_rfl) ⟨[0, 1, 2, 3, 4, 5, 6, 7, 8, 9], by decide, rfl⟩ (qt_rd (rd_load Try.underlying74 rfl rfl (by exact ld_blk 6 rfl rfl))) ?_
        refine ga_first 9 (bm 15 1023) rfl rfl rfl rfl (by kernel_rfl) (by kernel_rfl) ⟨[0, 1, 2, 3, 4, 5, 6, 7, 8, 9], by decide, rfl⟩ (qt_rd (rd_load Try.underlying3 rfl rfl (by exact ld_blk 5 rfl rfl))) ?_
        refine ga_first 10 (bm 15 2047) rfl rfl rfl rfl (by kernel_rfl) (by kernel_rfl) ⟨[0, 1, 2, 3, 4, 5, 6, 7, 8, 9], by decide, rfl⟩ (qt_rd (rd_move rfl)) ?_
        refine ga_first 11 (bm 15 4095) rfl rfl rfl rfl (by kernel_rfl) (by kernel_rfl) ⟨[0, 1, 2, 3, 4, 5, 6, 7, 8, 9], by decide, rfl⟩ (qt_rd (rd_indexR1 Try.underlying25 ty_2 rfl rfl (by omega) (by omega))) ?_
        refine ga_only 12 (bm 15 8191) rfl rfl (by kernel_rfl) (by kernel_rfl) (.inr ⟨[0, 1, 2, 3, 4, 5, 6, 7, 8, 9], by decide, rfl⟩) (op_storeRowE 10 ty_2 rfl rfl rfl rfl (by rw [List.length_map]; show k < _; omega) (show (p.at_.map natV).set k (natV (placeF shop l p k)) = (nextP shop l p k).at_.map natV from set_natL p.at_ k _) (by rfl) ?_)
        refine ga_first 13 (bm 15 16383) rfl rfl rfl rfl (by kernel_rfl) (by kernel_rfl) ⟨[0, 1, 2, 3, 4, 5, 6, 7, 8, 9], by decide, rfl⟩ (qt_rd (rd_indexR1 Try.underlying74 ty_4 rfl rfl (by omega) (by omega))) ?_
        refine ga_only 14 (bm 15 32767) rfl rfl (by kernel_rfl) (by kernel_rfl) (.inr ⟨[0, 1, 2, 3, 4, 5, 6, 7, 8, 9], by decide, rfl⟩) (op_storeRowE 11 ty_4 rfl rfl rfl rfl (by rw [List.length_map]; show k < _; omega) (show (p.is.map boolV).set k (.bool true) = (nextP shop l p k).is.map boolV from set_bool p.is k true) (by rfl) ?_)
        refine ga_end (by kernel_rfl) (.inl (by kernel_rfl)) ?_
        refine gx_then <| rc_seq <| rc_region <| rl_op (by nofun) (op_rd rfl (rd_load Try.underlying89 rfl rfl (ld_sl (off := 0) hcf1 rfl)) ?_)
        refine rl_op (by nofun) (op_rd rfl (rd_load Try.underlying3 rfl rfl (by exact ld_blk 9 rfl rfl)) ?_)
        refine rl_op (by nofun) (op_rd rfl (by exact rd_addN (b := 1) rfl rfl (by omega)) ?_)
        refine rl_op (by nofun) (op_rd rfl (rd_load Try.underlying2 rfl rfl (by exact ld_blk 8 rfl rfl)) ?_)
        refine rl_op (by nofun) (op_rd rfl (rd_move rfl) ?_)
        refine rl_op (by nofun) (op_rd rfl (rd_fieldAddr rfl (fa_48_2 _)) ?_)
        refine rl_op (by nofun) (op_rd rfl (rd_load Try.underlying2 rfl rfl (by exact ld_blk 4 rfl rfl)) ?_)
        refine rl_op (by nofun) (op_rd rfl (by exact rd_addN rfl rfl (by omega)) ?_)
        refine rl_op (by nofun) (op_rd rfl (rd_max2 rfl rfl) ?_)
        rw [so_next hla hli hx h82]
        refine rl_op (by nofun) (op_callMT [_, _, _, _, _, _, _, _, _, _, _, _] (Ds.map markH) [6, 10, 11, 7] [0, 1, 2, 3, 4, 5, 8, 9] 12 rfl rfl rfl (vf := []) (vc := [.pointer (some ⟨pc, 0, none⟩), .pointer (some ⟨fc, 0, none⟩)]) rfl rfl Try.call56 (by decide) (by decide) rfl (fun w how hc => by
          have h9 := ih (nextP shop l p k) (hp.next hj hkl hrd) (many + 1) (by omega) (accQ shop l r p b (k)) rb1 cb1 (.inr (by omega)) hB1 w hc (JnIn.outT (B := [_, _, _, _, _, _, _, _, _, _, _, _]) (T := (Ds.map markH)) hJ1 how [6, 10, 11, 7]) (slOutT (B := [_, _, _, _, _, _, _, _, _, _, _, _]) (T := (Ds.map markH)) how hS1 (by decide) [6, 10, 11, 7]) (slOutT (B := [_, _, _, _, _, _, _, _, _, _, _, _]) (T := (Ds.map markH)) how hcp1 (by decide) [6, 10, 11, 7]) (slOutT (B := [_, _, _, _, _, _, _, _, _, _, _, _]) (T := (Ds.map markH)) how hcf1 (by decide) [6, 10, 11, 7])
          rw [accQ_yes hrd] at h9
          exact h9) ?_)
        rintro _ _ ⟨rfl, rb2, cb2, hB2, rfl⟩
        refine rl_nil <| gx_then <| rc_seq <| rc_drawP [0, 3, 4, 5, 6, 7, 8, 9, 10, 11] false 13 rfl rfl <| ga_first 0 (bm 14 1) rfl rfl rfl rfl (by kernel_rfl) (by kernel_rfl) ⟨[0, 3, 4, 5, 6, 7, 8, 9, 10, 11], by decide, rfl⟩ (qt_rd (rd_load Try.underlying73 rfl rfl (ld_sl (off := 0) hcp1 rfl))) ?_
        refine ga_first 1 (bm 14 3) rfl rfl rfl rfl (by kernel_rfl) (by kernel_rfl) ⟨[0, 3, 4, 5, 6, 7, 8, 9, 10, 11], by decide, rfl⟩ (qt_rd (rd_nilCheck rfl)) ?_
        refine ga_first 2 (bm 14 7) rfl rfl rfl rfl (by kernel_rfl) (by kernel_rfl) ⟨[0, 3, 4, 5, 6, 7, 8, 9, 10, 11], by decide, rfl⟩ (qt_rd (rd_fieldAddr rfl (fa_76_2 _))) ?_
        refine ga_first 3 (bm 14 15) rfl rfl rfl rfl (by kernel_rfl) (by kernel_rfl) ⟨[0, 3, 4, 5, 6, 7, 8, 9, 10, 11], by decide, rfl⟩ (qt_rd (rd_load Try.underlying25 rfl rfl (by exact ld_blk 0 rfl rfl))) ?_
        refine ga_first 4 (bm 14 31) rfl rfl rfl rfl (by kernel_rfl) (by kernel_rfl) ⟨[0, 3, 4, 5, 6, 7, 8, 9, 10, 11], by decide, rfl⟩ (qt_rd (rd_load Try.underlying3 rfl rfl (by exact ld_blk 7 rfl rfl))) ?_
        refine ga_first 5 (bm 14 63) rfl rfl rfl rfl (by kernel_rfl) (by kernel_rfl) ⟨[0, 3, 4, 5, 6, 7, 8, 9, 10, 11], by decide, rfl⟩ (qt_rd (rd_load Try.underlying73 rfl rfl (ld_sl (off := 0) hcp1 rfl))) ?_
        refine ga_first 6 (bm 14 127) rfl rfl rfl rfl (by kernel_rfl) (by kernel_rfl) ⟨[0, 3, 4, 5, 6, 7, 8, 9, 10, 11], by decide, rfl⟩ (qt_rd (rd_nilCheck rfl)) ?_
        refine ga_first 7 (bm 14 255) rfl rfl rfl rfl (by kernel_rfl) (by kernel_rfl) ⟨[0, 3, 4, 5, 6, 7, 8, 9, 10, 11], by decide, rfl⟩ (qt_rd (rd_fieldAddr rfl (fa_76_3 _))) ?_
        refine ga_first 8 (bm 14 511) rfl rfl rfl rfl (by kernel_rfl) (by kernel_rfl) ⟨[0, 3, 4, 5, 6, 7, 8, 9, 10, 11], by decide, rfl⟩ (qt_rd (rd_load Try.underlying74 rfl rfl (by exact ld_blk 0 rfl rfl))) ?_
        refine ga_first 9 (bm 14 1023) rfl rfl rfl rfl (by kernel_rfl) (by kernel_rfl) ⟨[0, 3, 4, 5, 6, 7, 8, 9, 10, 11], by decide, rfl⟩ (qt_rd (rd_load Try.underlying3 rfl rfl (by exact ld_blk 7 rfl rfl))) ?_
        refine ga_first 10 (bm 14 2047) rfl rfl rfl rfl (by kernel_rfl) (by kernel_rfl) ⟨[0, 3, 4, 5, 6, 7, 8, 9, 10, 11], by decide, rfl⟩ (qt_rd (rd_indexR1 Try.underlying25 ty_2 rfl rfl (by omega) (by omega))) ?_
        refine ga_only 11 (bm 14 4095) rfl rfl (by kernel_rfl) (by kernel_rfl) (.inr ⟨[0, 3, 4, 5, 6, 7, 8, 9, 10, 11], by decide, rfl⟩) (op_storeRowE 1 ty_2 rfl rfl rfl rfl (by rw [List.length_map]; show k < _; (unfold nextP pput; rw [List.length_set]; omega)) (show ((nextP shop l p k).at_.map natV).set k (natV 0) = p.at_.map natV from (set_natL _ k 0).trans (congrArg (List.map natV) (set_back (by omega) (hp.zero k h82)))) (by rfl) ?_)
        refine ga_first 12 (bm 14 8191) rfl rfl rfl rfl (by kernel_rfl) (by kernel_rfl) ⟨[0, 3, 4, 5, 6, 7, 8, 9, 10, 11], by decide, rfl⟩ (qt_rd (rd_indexR1 Try.underlying74 ty_4 rfl rfl (by omega) (by omega))) ?_
        refine ga_only 13 (bm 14 16383) rfl rfl (by kernel_rfl) (by kernel_rfl) (.inr ⟨[0, 3, 4, 5, 6, 7, 8, 9, 10, 11], by decide, rfl⟩) (op_storeRowE 2 ty_4 rfl rfl rfl rfl (by rw [List.length_map]; show k < _; (unfold nextP pput; rw [List.length_set]; omega)) (show ((nextP shop l p k).is.map boolV).set k (.bool false) = p.is.map boolV from (set_bool _ k false).trans (congrArg (List.map boolV) (set_backB (by omega) h82))) (by rfl) ?_)
        refine ga_end (by kernel_rfl) (.inl (by kernel_rfl)) ?_
        refine gx_then <| rc_exit <| gx_block_pass rfl ?_
        exact rp_exit _ (⟨rfl, rfl, rb2, cb2, hB2, rfl⟩) (sub_tail (A := [_, _, _, _, _, _, _, _, _, _, _, _]) (B := [_, _, _, _, _, _, _, _, _, _, _, _]) (T := (Ds.map markH)) [4, 5, 6, 7, 8, 9, 0, 3, 10, 11, 1, 2] 12 (by decide) (by decide) rfl rfl)
      · intro D L hI
        exfalso; have := hI.1; omega
      · intro D c i L hi hI
        obtain ⟨rfl, rfl, rb2, cb2, hB2, rfl⟩ := hI
        refine gk_front [_, _, _, _, _, _, _, _, _, _, _] [_, _, _, _, _, _, _, _, _, _] (Ds.map markH) [1, 2, 3, 4, 5, 6, 7, 8, 9, 10] 0 11 rfl (x := markH D) rfl rfl (by decide) (by decide) ?_
        refine rc_exit <| gx_block_exit <| gx_block <| gx_then <| rc_region <| rl_op (by nofun) (op_rd rfl (by exact rd_addN (b := 1) rfl rfl (by omega)) ?_)
        refine rl_op (by nofun) (op_rd rfl (rd_move rfl) ?_)
        refine rl_nil <| gx_then ?_
        exact gx_cutM ((k + 1, D :: Ds, rb2, cb2)) ⟨⟨by simp only; omega, hB2⟩, by simp only; omega⟩ rfl ⟨rfl, rfl, rfl, rfl, rfl, rfl, rfl, trivial⟩ (sub_tail (A := [_, _, _, _, _, _]) (B := [_, _, _, _, _, _, _, _, _, _]) (T := ((D :: Ds).map markH)) [4, 5, 6, 7, 8, 9] 10 (by decide) (by decide) rfl rfl)
    refine rl_nil <| gx_then <| rc_seq <| rc_cond_f rfl <| rc_exit <| gx_then_exit <| gx_then_exit <| gx_block_exit ?_
    have hk9 : k = l.length := by omega
    subst hk9
    refine gk_sub (sub_tail (A := [_, _, _, _]) (B := [_, _, _, _, _, _]) (T := (Ds.map markH)) [0, 4, 5, 1] 6 (by decide) (by decide) rfl rfl) ?_
    refine gk_sub (sub_rot [_, _, _, _] (Ds.map markH)) <| gx_retM0 Ds (.inr rfl) Try.results56 (Sub.refl' _) ?_
    exact ⟨rfl, rb1, cb1, hB1, rfl⟩
  refine rc_drawP [0, 1, 2, 3, 4, 5] true 12 rfl rfl <| ga_first 0 (bm 13 1) rfl rfl rfl rfl (by kernel_rfl) (by kernel_rfl) ⟨[0, 1, 2, 3, 4, 5], by decide, rfl⟩ (qt_rd (rd_load Try.underlying73 rfl rfl (ld_sl (off := 0) hcp rfl))) ?_
  refine ga_first 1 (bm 13 3) rfl rfl rfl rfl (by kernel_rfl) (by kernel_rfl) ⟨[0, 1, 2, 3, 4, 5], by decide, rfl⟩ (qt_rd (rd_nilCheck rfl)) ?_
  refine ga_first 2 (bm 13 7) rfl rfl rfl rfl (by kernel_rfl) (by kernel_rfl) ⟨[0, 1, 2, 3, 4, 5], by decide, rfl⟩ (qt_rd (rd_fieldAddr rfl (fa_76_4 _))) ?_
  refine ga_first 3 (bm 13 15) rfl rfl rfl rfl (by kernel_rfl) (by kernel_rfl) ⟨[0, 1, 2, 3, 4, 5], by decide, rfl⟩ (qt_rd (rd_load Try.underlying25 rfl rfl (by exact ld_blk 2 rfl rfl))) ?_
  refine ga_first 4 (bm 13 31) rfl rfl rfl rfl (by kernel_rfl) (by kernel_rfl) ⟨[0, 1, 2, 3, 4, 5], by decide, rfl⟩ (qt_rd (rd_neqNilSl eg_25 Try.underlying25 rfl rfl)) ?_
  rw [hv13]
  refine ga_first 5 (bm 13 63) rfl rfl rfl rfl (by kernel_rfl) (by kernel_rfl) ⟨[0, 1, 2, 3, 4, 5], by decide, rfl⟩ (qt_rd (rd_move rfl)) ?_
  refine ga_firstY 6 (bm 13 127) rfl rfl rfl rfl rfl rfl (by kernel_rfl) (by kernel_rfl) ⟨[0, 1, 2, 3, 4, 5], by decide, rfl⟩ (qt_rd (rd_load Try.underlying2 rfl rfl (by exact ld_blk 0 rfl rfl))) ?_
  refine ga_firstY 7 (bm 13 255) rfl rfl rfl rfl rfl rfl (by kernel_rfl) (by kernel_rfl) ⟨[0, 1, 2, 3, 4, 5], by decide, rfl⟩ (qt_rd (rd_load Try.underlying73 rfl rfl (ld_sl (off := 0) hcp rfl))) ?_
  refine ga_firstY 8 (bm 13 511) rfl rfl rfl rfl rfl rfl (by kernel_rfl) (by kernel_rfl) ⟨[0, 1, 2, 3, 4, 5], by decide, rfl⟩ (qt_rd (rd_nilCheck rfl)) ?_
  refine ga_firstY 9 (bm 13 1023) rfl rfl rfl rfl rfl rfl (by kernel_rfl) (by kernel_rfl) ⟨[0, 1, 2, 3, 4, 5], by decide, rfl⟩ (qt_rd (rd_fieldAddr rfl (fa_76_5 _))) ?_
  refine ga_firstY 10 (bm 13 2047) rfl rfl rfl rfl rfl rfl (by kernel_rfl) (by kernel_rfl) ⟨[0, 1, 2, 3, 4, 5], by decide, rfl⟩ (qt_rd (rd_load Try.underlying2 rfl rfl (by exact ld_blk 2 rfl rfl))) ?_
  refine ga_firstY 11 (bm 13 4095) rfl rfl rfl rfl rfl rfl (by kernel_rfl) (by kernel_rfl) ⟨[0, 1, 2, 3, 4, 5], by decide, rfl⟩ (qt_rd (rd_gtr rfl rfl)) (gk_dec (fun h20 => ?_) (fun h20 => ?_))
  · refine ga_first 12 (bm 13 8191) rfl rfl rfl rfl (by kernel_rfl) (by kernel_rfl) ⟨[0, 1, 2, 3, 4, 5], by decide, rfl⟩ (qt_rd (rd_pick_t rfl rfl)) ?_
    refine ga_end (by kernel_rfl) (.inr ⟨[0, 1, 2, 3, 4, 5], by decide, rfl⟩) ?_
    refine gx_then <| rc_cond_t rfl <| rc_ret <| gx_then_ret <| gx_retM0 [] (.inl rfl) Try.results56 ⟨[2, 3, 4, 5], by decide, rfl⟩ ?_
    rw [hs20 (by omega)]
    exact ⟨rfl, rb, cb, hB0, rfl⟩
  refine ga_first 12 (bm 13 8191) rfl rfl rfl rfl (by kernel_rfl) (by kernel_rfl) ⟨[0, 1, 2, 3, 4, 5], by decide, rfl⟩ (qt_rd (rd_pick_t rfl rfl)) ?_
  refine ga_end (by kernel_rfl) (.inr ⟨[0, 1, 2, 3, 4, 5], by decide, rfl⟩) ?_
  refine gx_then <| rc_cond_f rfl <| rc_skip <| gx_then <| rc_seq <| rc_seq <| rc_drawP [0, 1, 2, 3, 4, 5] true 6 rfl rfl <| ga_first 0 (bm 7 1) rfl rfl rfl rfl (by kernel_rfl) (by kernel_rfl) ⟨[0, 1, 2, 3, 4, 5], by decide, rfl⟩ (qt_rd (rd_load Try.underlying3 rfl rfl (by exact ld_blk 1 rfl rfl))) ?_
  refine ga_first 1 (bm 7 3) rfl rfl rfl rfl (by kernel_rfl) (by kernel_rfl) ⟨[0, 1, 2, 3, 4, 5], by decide, rfl⟩ (qt_rd (rd_load Try.underlying73 rfl rfl (ld_sl (off := 0) hcp rfl))) ?_
  refine ga_first 2 (bm 7 7) rfl rfl rfl rfl (by kernel_rfl) (by kernel_rfl) ⟨[0, 1, 2, 3, 4, 5], by decide, rfl⟩ (qt_rd (rd_nilCheck rfl)) ?_
  refine ga_first 3 (bm 7 15) rfl rfl rfl rfl (by kernel_rfl) (by kernel_rfl) ⟨[0, 1, 2, 3, 4, 5], by decide, rfl⟩ (qt_rd (rd_fieldAddr rfl (fa_76_1 _))) ?_
  refine ga_first 4 (bm 7 31) rfl rfl rfl rfl (by kernel_rfl) (by kernel_rfl) ⟨[0, 1, 2, 3, 4, 5], by decide, rfl⟩ (qt_rd (rd_load Try.underlying22 rfl rfl (by exact ld_blk 2 rfl rfl))) ?_
  refine ga_first 5 (bm 7 63) rfl rfl rfl rfl (by kernel_rfl) (by kernel_rfl) ⟨[0, 1, 2, 3, 4, 5], by decide, rfl⟩ (qt_rd (rd_lenSlice Try.underlying22 rfl)) ?_
  refine ga_first 6 (bm 7 127) rfl rfl rfl rfl (by kernel_rfl) (by kernel_rfl) ⟨[0, 1, 2, 3, 4, 5], by decide, rfl⟩ (qt_rd (rd_eql rfl rfl)) (gk_dec (fun h28 => ?_) (fun h28 => ?_))
  · exfalso; omega
  refine ga_end (by kernel_rfl) (.inr ⟨[0, 1, 2, 3, 4, 5], by decide, rfl⟩) ?_
  refine gx_then <| rc_cond_f rfl <| rc_skip <| gx_then <| rc_seq <| rc_region <| rl_op (by nofun) (op_rd rfl (rd_load Try.underlying73 rfl rfl (ld_sl (off := 0) hcp rfl)) ?_)
  refine rl_op (by nofun) (op_rd rfl (rd_nilCheck rfl) ?_)
  refine rl_op (by nofun) (op_rd rfl (rd_fieldAddr rfl (fa_76_1 _)) ?_)
  refine rl_op (by nofun) (op_rd rfl (rd_load Try.underlying22 rfl rfl (by exact ld_blk 2 rfl rfl)) ?_)
  refine rl_op (by nofun) (op_rd rfl (rd_lenSlice Try.underlying22 rfl) ?_)
  refine rl_op (by nofun) (op_rd rfl (rd_move rfl) ?_)
  refine rl_nil <| gx_then <| rc_block <| rc_loopM (ι := Nat × List Nat × Option Nat × Nat) [(2, _), (3, _), (4, _), (5, _), (69, _), (70, _)] [_, _, _, _] (fun q => q.1 ≤ l.length ∧ BestOk (accQ shop l r p b (q.1)) q.2.2.1 q.2.2.2 l.length) (fun q => q.2.1.map Go.Gv.mark) (fun q Fr0 => ((71, natV q.1) :: Fr0)) (fun q Fr0 => (plH bp sa shop.length sc a l c qa qb (accQ shop l r p b (q.1)) q.2.2.1 q.2.2.2 :: srR (accQ shop l r p b (q.1)) q.2.2.1 q.2.2.2 :: (Fr0 ++ (q.2.1.map markH)))) (fun q => l.length - q.1) (0, [], rb, cb) (⟨Nat.zero_le _, hB0⟩) rfl ⟨rfl, rfl, rfl, rfl, rfl, rfl, rfl, trivial⟩ ⟨[2, 5, 0, 1, 3, 4], by decide, rfl⟩ ?_
  rintro ⟨k, Ds, rb1, cb1⟩ ⟨hk, hB1⟩
  simp only at hk hB1 ⊢
  refine rc_seq <| rc_region <| rl_op (by nofun) (op_rd rfl (rd_lss rfl rfl) (gk_dec (fun h72 => ?_) (fun h72 => ?_)))
  · have hkl : k < l.length := by omega
    obtain ⟨x, hx⟩ := get_some hkl
    have hxl := hj.lags x (List.mem_of_getElem? hx)
    have hxh := job_le hj hx
    refine rl_nil <| gx_then <| rc_seq <| rc_cond_t rfl <| rc_skip <| gx_then <| rc_seq <| rc_block <| rc_seq <| rc_region <| rl_op (by nofun) (op_rd rfl (rd_move rfl) ?_)
    refine rl_op (by nofun) (op_rd rfl (rd_indexOld hJ.t Try.underlying22 ty_48 rfl rfl (by omega) (by omega)) ?_)
    refine rl_op (by nofun) (op_rd rfl (rd_loadAgg Try.underlying48 rfl ty_48 rfl (cs_slN hJ.t (flat_drop_get Jb.cells 4 (fun _ => rfl) hx)) rfl) ?_)
    refine rl_op (by nofun) (op_alloc ty_3 rfl rfl (fun b6 => ?_))
    refine rl_op (by nofun) (op_alloc ty_48 rfl rfl (fun b7 => ?_))
    refine rl_op (by nofun) (op_store 1 ty_3 rfl rfl rfl rfl rfl (by rfl) (by rfl) ?_)
    refine rl_op (by nofun) (op_storeAgg 0 ty_48 rfl rfl rfl rfl rfl rfl (by rfl) ?_)
    refine rl_nil <| gx_then <| rc_seq <| rc_seq <| rc_drawP [0, 1, 2, 3, 4, 5, 6, 7] true 12 rfl rfl <| ga_first 0 (bm 13 1) rfl rfl rfl rfl (by kernel_rfl) (by kernel_rfl) ⟨[0, 1, 2, 3, 4, 5, 6, 7], by decide, rfl⟩ (qt_rd (rd_load Try.underlying73 rfl rfl (ld_sl (off := 0) hcp rfl))) ?_
    refine ga_first 1 (bm 13 3) rfl rfl rfl rfl (by kernel_rfl) (by kernel_rfl) ⟨[0, 1, 2, 3, 4, 5, 6, 7], by decide, rfl⟩ (qt_rd (rd_nilCheck rfl)) ?_
    refine ga_first 2 (bm 13 7) rfl rfl rfl rfl (by kernel_rfl) (by kernel_rfl) ⟨[0, 1, 2, 3, 4, 5, 6, 7], by decide, rfl⟩ (qt_rd (rd_fieldAddr rfl (fa_76_3 _))) ?_
    refine ga_first 3 (bm 13 15) rfl rfl rfl rfl (by kernel_rfl) (by kernel_rfl) ⟨[0, 1, 2, 3, 4, 5, 6, 7], by decide, rfl⟩ (qt_rd (rd_load Try.underlying74 rfl rfl (by exact ld_blk 2 rfl rfl))) ?_
    refine ga_first 4 (bm 13 31) rfl rfl rfl rfl (by kernel_rfl) (by kernel_rfl) ⟨[0, 1, 2, 3, 4, 5, 6, 7], by decide, rfl⟩ (qt_rd (rd_load Try.underlying3 rfl rfl (by exact ld_blk 1 rfl rfl))) ?_
    refine ga_first 5 (bm 13 63) rfl rfl rfl rfl (by kernel_rfl) (by kernel_rfl) ⟨[0, 1, 2, 3, 4, 5, 6, 7], by decide, rfl⟩ (qt_rd (rd_indexRow1 7 rfl Try.underlying74 ty_4 rfl rfl (by omega) (by omega))) ?_
    refine ga_first 6 (bm 13 127) rfl rfl rfl rfl (by kernel_rfl) (by kernel_rfl) ⟨[0, 1, 2, 3, 4, 5, 6, 7], by decide, rfl⟩ (qt_rd (rd_load Try.underlying4 rfl rfl (ld_row 7 rfl (get_plQ (k := k) (by omega))))) ?_
    refine gk_bool (fun h82 => ?_) (fun h82 => ?_)
    · have hrd : readyB l p k = false := by rw [ready_any hx, h82]; rfl
      refine ga_first 7 (bm 13 255) rfl rfl rfl rfl (by kernel_rfl) (by kernel_rfl) ⟨[0, 1, 2, 3, 4, 5, 6, 7], by decide, rfl⟩ (qt_rd (rd_move rfl)) ?_
      refine ga_firstN 8 (bm 13 511) rfl rfl rfl rfl rfl rfl (by kernel_rfl) (by kernel_rfl) ⟨[0, 1, 2, 3, 4, 5, 6, 7], by decide, rfl⟩ ?_
      refine ga_firstN 9 (bm 13 1023) rfl rfl rfl rfl rfl rfl (by kernel_rfl) (by kernel_rfl) ⟨[0, 1, 2, 3, 4, 5, 6, 7], by decide, rfl⟩ ?_
      refine ga_firstN 10 (bm 13 2047) rfl rfl rfl rfl rfl rfl (by kernel_rfl) (by kernel_rfl) ⟨[0, 1, 2, 3, 4, 5, 6, 7], by decide, rfl⟩ ?_
      refine ga_firstN 11 (bm 13 4095) rfl rfl rfl rfl rfl rfl (by kernel_rfl) (by kernel_rfl) ⟨[0, 1, 2, 3, 4, 5, 6, 7], by decide, rfl⟩ ?_
      refine ga_first 12 (bm 13 8191) rfl rfl rfl rfl (by kernel_rfl) (by kernel_rfl) ⟨[0, 1, 2, 3, 4, 5, 6, 7], by decide, rfl⟩ (qt_rd (rd_pick_t rfl rfl)) ?_
      refine ga_end (by kernel_rfl) (.inr ⟨[0, 1, 2, 3, 4, 5, 6, 7], by decide, rfl⟩) ?_
      refine gx_then <| rc_cond_t rfl <| rc_exit <| gx_then_exit <| gx_block_exit <| gx_then <| rc_region <| rl_op (by nofun) (op_rd rfl (by exact rd_addN (b := 1) rfl rfl (by omega)) ?_)
      refine rl_op (by nofun) (op_rd rfl (rd_move rfl) ?_)
      refine rl_nil <| gx_then ?_
      rw [← accQ_no hrd]
      exact gx_cutM ((k + 1, Ds, rb1, cb1)) ⟨⟨by simp only; omega, by simp only; rw [accQ_no hrd]; exact hB1⟩, by simp only; omega⟩ rfl ⟨rfl, rfl, rfl, rfl, rfl, rfl, rfl, trivial⟩ (sub_tail (A := [_, _, _, _, _, _]) (B := [_, _, _, _, _, _, _, _]) (T := (Ds.map markH)) [2, 3, 4, 5, 6, 7] 8 (by decide) (by decide) rfl rfl)
    refine ga_first 7 (bm 13 255) rfl rfl rfl rfl (by kernel_rfl) (by kernel_rfl) ⟨[0, 1, 2, 3, 4, 5, 6, 7], by decide, rfl⟩ (qt_rd (rd_move rfl)) ?_
    refine ga_firstY 8 (bm 13 511) rfl rfl rfl rfl rfl rfl (by kernel_rfl) (by kernel_rfl) ⟨[0, 1, 2, 3, 4, 5, 6, 7], by decide, rfl⟩ (qt_rd (rd_fieldAddr rfl (fa_48_3 _))) ?_
    refine ga_firstY 9 (bm 13 1023) rfl rfl rfl rfl rfl rfl (by kernel_rfl) (by kernel_rfl) ⟨[0, 1, 2, 3, 4, 5, 6, 7], by decide, rfl⟩ (qt_rd (rd_load Try.underlying46 rfl rfl (by exact ld_blk 0 rfl rfl))) ?_
    refine ga_firstY 10 (bm 13 2047) rfl rfl rfl rfl rfl rfl (by kernel_rfl) (by kernel_rfl) ⟨[0, 1, 2, 3, 4, 5, 6, 7], by decide, rfl⟩ (qt_rd (rd_makeFunc (fs := []) (cs := [.tmp 2]) rfl rfl)) ?_
    refine ga_firstY 11 (bm 13 4095) rfl rfl rfl rfl rfl rfl (by kernel_rfl) (by kernel_rfl) ⟨[0, 1, 2, 3, 4, 5, 6, 7], by decide, rfl⟩ (qt_call (vf := []) (vc := []) rfl rfl Try.call59 (fun w1 ho => containsUnpl_ok x.aa x.ac x.after hxl p (fun y hy => by
      obtain ⟨m9, hm9⟩ := List.mem_iff_getElem?.1 hy
      have := (lag_lt hj hx hm9).1
      omega) pc bp _ _ _ _ _ (some qb) l.length w1 ((hJ.r x (List.mem_of_getElem? hx)).at ho) (hcp.at ho) (by rw [hli]; exact blkMem ho 6 rfl (List.mem_of_getElem? (i := 2) rfl)) (by rw [hli]; exact ho.rowSl 7 rfl)) (by rintro _ _ ⟨h, _⟩; exact h)) ?_
    refine gk_bool (fun h87 => ?_) (fun h87 => ?_)
    · have hrd : readyB l p k = false := by rw [ready_any hx, h82, h87]; rfl
      refine ga_first 12 (bm 13 8191) rfl rfl rfl rfl (by kernel_rfl) (by kernel_rfl) ⟨[0, 1, 2, 3, 4, 5, 6, 7], by decide, rfl⟩ (qt_rd (rd_pick_f rfl rfl)) ?_
      refine ga_end (by kernel_rfl) (.inr ⟨[0, 1, 2, 3, 4, 5, 6, 7], by decide, rfl⟩) ?_
      refine gx_then <| rc_cond_t rfl <| rc_exit <| gx_then_exit <| gx_block_exit <| gx_then <| rc_region <| rl_op (by nofun) (op_rd rfl (by exact rd_addN (b := 1) rfl rfl (by omega)) ?_)
      refine rl_op (by nofun) (op_rd rfl (rd_move rfl) ?_)
      refine rl_nil <| gx_then ?_
      rw [← accQ_no hrd]
      exact gx_cutM ((k + 1, Ds, rb1, cb1)) ⟨⟨by simp only; omega, by simp only; rw [accQ_no hrd]; exact hB1⟩, by simp only; omega⟩ rfl ⟨rfl, rfl, rfl, rfl, rfl, rfl, rfl, trivial⟩ (sub_tail (A := [_, _, _, _, _, _]) (B := [_, _, _, _, _, _, _, _]) (T := (Ds.map markH)) [2, 3, 4, 5, 6, 7] 8 (by decide) (by decide) rfl rfl)
    have hrd : readyB l p k = true := by rw [ready_any hx, h82, h87]; rfl
    have hfr0 := frees_first (place_some (shop := shop) (p := p) (sb_pos hsp hx (hbn x (List.mem_of_getElem? hx))) (fun j hj9 => (hj.hrs j hj9).1))
    have hpf := place_so (shop := shop) hj hkl (ready_of hrd).2
    have hsb := hp.bd
    refine ga_first 12 (bm 13 8191) rfl rfl rfl rfl (by kernel_rfl) (by kernel_rfl) ⟨[0, 1, 2, 3, 4, 5, 6, 7], by decide, rfl⟩ (qt_rd (rd_pick_f rfl rfl)) ?_
    refine ga_end (by kernel_rfl) (.inr ⟨[0, 1, 2, 3, 4, 5, 6, 7], by decide, rfl⟩) ?_
    refine gx_then <| rc_cond_f rfl <| rc_skip <| gx_then <| rc_seq <| rc_region <| rl_op (by nofun) (op_rd rfl (rd_load Try.underlying73 rfl rfl (ld_sl (off := 0) hcp rfl)) ?_)
    refine rl_op (by nofun) (op_rd rfl (rd_load Try.underlying3 rfl rfl (by exact ld_blk 1 rfl rfl)) ?_)
    refine rl_op (by nofun) (op_call rfl (vf := []) (vc := []) rfl rfl Try.call61 (fun w1 ho => hours_ok bp k w1) ?_)
    rintro _ _ ⟨pcb, icb, rfl, rfl⟩
    refine rl_nil <| gx_then <| rc_block <| gk_env [(2, _), (3, _), (4, _), (5, _), (6, _), (7, _), (69, _), (70, _), (71, _), (72, _), (73, _), (74, _), (75, _), (76, _), (77, _), (78, _), (79, _), (80, _), (81, _), (82, _), (83, _), (84, _), (85, _), (86, _), (87, _), (88, _), (89, _), (90, _), (91, _)] ⟨rfl, rfl, rfl, rfl, rfl, rfl, rfl, rfl, rfl, rfl, rfl, rfl, rfl, rfl, rfl, rfl, rfl, rfl, rfl, rfl, rfl, rfl, rfl, rfl, rfl, rfl, rfl, rfl, rfl, trivial⟩ ?_
    refine rc_rangeF (β := Unit) (N := (freesL shop l p k).length) (xs := fun i => natV ((freesL shop l p k).getD i 0)) (gf := 72) (caps := [.pointer (some ⟨pcb, 0, none⟩), .pointer (some ⟨icb, 0, none⟩)]) (fun i _ => [(8, natV ((freesL shop l p k).getD i 0))]) (fun i _ => []) rfl Try.call72 rfl (fun i L => i = 0 ∧ L = [.blk icb [natV k] 3, .blk pcb [.pointer (some ⟨bp, 0, none⟩)] 73, .blk b7 [.string x.name, natV x.bench, natV x.hours, .slice x.aa x.after.length x.ac] 48, .blk b6 [natV k] 3, plH bp sa shop.length sc a l c qa qb (accQ shop l r p b (k)) rb1 cb1, srR (accQ shop l r p b (k)) rb1 cb1, .blk b5 [natV (soP l p)] 2, .blk b4 [natV many] 3, atH qa l p, isH qb l p] ++ Ds.map markH) (fun cd i L => cd = .exit 2 ∧ i = 0 ∧ ∃ rb2 cb2, BestOk (accQ shop l r p b (k + 1)) rb2 cb2 l.length ∧ L = [.blk icb [natV k] 3, .blk pcb [.pointer (some ⟨bp, 0, none⟩)] 73, .blk b7 [.string x.name, natV x.bench, natV x.hours, .slice x.aa x.after.length x.ac] 48, .blk b6 [natV k] 3, plH bp sa shop.length sc a l c qa qb (accQ shop l r p b (k + 1)) rb2 cb2, srR (accQ shop l r p b (k + 1)) rb2 cb2, .blk b5 [natV (soP l p)] 2, .blk b4 [natV many] 3, atH qa l p, isH qb l p] ++ Ds.map markH) (GH sa shop.length sc a l.length c p (some qa) (some qb) l.length l.length bp pcb icb k) (fun i L hd h => by
      unfold GH
      rw [hla, hli]
      rcases h with ⟨_, rfl⟩ | ⟨_, _, _, rb2, cb2, _, rfl⟩
      · exact ⟨_, _, (List.mem_append_right _ (List.mem_append_left _ (List.mem_cons_of_mem _ (List.mem_cons_of_mem _ (List.mem_cons_of_mem _ (List.mem_cons_of_mem _ List.mem_cons_self)))))), (List.mem_append_right _ (List.mem_append_left _ (List.mem_cons_of_mem _ (List.mem_cons_of_mem _ (List.mem_cons_of_mem _ (List.mem_cons_of_mem _ (List.mem_cons_of_mem _ (List.mem_cons_of_mem _ (List.mem_cons_of_mem _ (List.mem_cons_of_mem _ List.mem_cons_self)))))))))), (List.mem_append_right _ (List.mem_append_left _ (List.mem_cons_of_mem _ (List.mem_cons_of_mem _ (List.mem_cons_of_mem _ (List.mem_cons_of_mem _ (List.mem_cons_of_mem _ (List.mem_cons_of_mem _ (List.mem_cons_of_mem _ (List.mem_cons_of_mem _ (List.mem_cons_of_mem _ List.mem_cons_self))))))))))), (List.mem_append_right _ (List.mem_append_left _ (List.mem_cons_of_mem _ List.mem_cons_self))), (List.mem_append_right _ (List.mem_append_left _ List.mem_cons_self))⟩
      · exact ⟨_, _, (List.mem_append_right _ (List.mem_append_left _ (List.mem_cons_of_mem _ (List.mem_cons_of_mem _ (List.mem_cons_of_mem _ (List.mem_cons_of_mem _ List.mem_cons_self)))))), (List.mem_append_right _ (List.mem_append_left _ (List.mem_cons_of_mem _ (List.mem_cons_of_mem _ (List.mem_cons_of_mem _ (List.mem_cons_of_mem _ (List.mem_cons_of_mem _ (List.mem_cons_of_mem _ (List.mem_cons_of_mem _ (List.mem_cons_of_mem _ List.mem_cons_self)))))))))), (List.mem_append_right _ (List.mem_append_left _ (List.mem_cons_of_mem _ (List.mem_cons_of_mem _ (List.mem_cons_of_mem _ (List.mem_cons_of_mem _ (List.mem_cons_of_mem _ (List.mem_cons_of_mem _ (List.mem_cons_of_mem _ (List.mem_cons_of_mem _ (List.mem_cons_of_mem _ List.mem_cons_self))))))))))), (List.mem_append_right _ (List.mem_append_left _ (List.mem_cons_of_mem _ List.mem_cons_self))), (List.mem_append_right _ (List.mem_append_left _ List.mem_cons_self))⟩) (⟨rfl, rfl⟩) (fun lb J Jx hG w1 L hY hJ9 hO => hoursIt_ok a c l hj sa sc shop hsl p hla hli hpb k x hx (hbn x (List.mem_of_getElem? hx)) h7 (some qa) (some qb) l.length l.length bp pcb icb lb J Jx hG w1 L hY hJ9 hO.self (JnIn.allOut hJ hO) (hS.allOut hO (by decide))) ?_ ?_ ?_ ?_
    · intro i lb w1 S1 L1 K1 Q1 hk1
      refine rc_region <| rl_op (by nofun) (op_rd rfl (rd_assign rfl) ?_)
      refine rl_nil <| gx_then ?_
      exact gk_env _ (by exact ⟨rfl, rfl, rfl, rfl, rfl, rfl, rfl, rfl, rfl, rfl, rfl, rfl, rfl, rfl, rfl, rfl, rfl, rfl, rfl, rfl, rfl, rfl, rfl, rfl, rfl, rfl, rfl, rfl, rfl, rfl, trivial⟩) (hk1 ())
    · intro i hi L hI lb D rec w1 S1 _ rec9 hO9 hS9
      obtain ⟨rfl, rfl⟩ := hI
      rw [hfr0.2]
      have hJ1 := JnIn.allOut hJ hO9
      have hS1 := hS.allOut hO9 (by decide)
      have hcp1 := hcp.allOut hO9 (by decide)
      have hcf1 := hcf.allOut hO9 (by decide)
      rw [← hS9] at hJ1 hS1 hcp1 hcf1
      refine rc_block <| rc_seq <| rc_drawP [0, 1, 2, 3, 4, 5, 6, 7, 8, 9] false 14 rfl rfl <| ga_first 0 (bm 15 1) rfl rfl rfl rfl (by kernel_rfl) (by kernel_rfl) ⟨[0, 1, 2, 3, 4, 5, 6, 7, 8, 9], by decide, rfl⟩ (qt_rd (rd_load Try.underlying73 rfl rfl (ld_sl (off := 0) hcp1 rfl))) ?_
      refine ga_first 1 (bm 15 3) rfl rfl rfl rfl (by kernel_rfl) (by kernel_rfl) ⟨[0, 1, 2, 3, 4, 5, 6, 7, 8, 9], by decide, rfl⟩ (qt_rd (rd_nilCheck rfl)) ?_
      refine ga_first 2 (bm 15 7) rfl rfl rfl rfl (by kernel_rfl) (by kernel_rfl) ⟨[0, 1, 2, 3, 4, 5, 6, 7, 8, 9], by decide, rfl⟩ (qt_rd (rd_fieldAddr rfl (fa_76_2 _))) ?_
      refine ga_first 3 (bm 15 15) rfl rfl rfl rfl (by kernel_rfl) (by kernel_rfl) ⟨[0, 1, 2, 3, 4, 5, 6, 7, 8, 9], by decide, rfl⟩ (qt_rd (rd_load Try.underlying25 rfl rfl (by exact ld_blk 6 rfl rfl))) ?_
      refine ga_first 4 (bm 15 31) rfl rfl rfl rfl (by kernel_rfl) (by kernel_rfl) ⟨[0, 1, 2, 3, 4, 5, 6, 7, 8, 9], by decide, rfl⟩ (qt_rd (rd_load Try.underlying3 rfl rfl (by exact ld_blk 5 rfl rfl))) ?_
      refine ga_first 5 (bm 15 63) rfl rfl rfl rfl (by kernel_rfl) (by kernel_rfl) ⟨[0, 1, 2, 3, 4, 5, 6, 7, 8, 9], by decide, rfl⟩ (qt_rd (rd_load Try.underlying73 rfl rfl (ld_sl (off := 0) hcp1 rfl))) ?_
      refine ga_first 6 (bm 15 127) rfl rfl rfl rfl (by kernel_rfl) (by kernel_rfl) ⟨[0, 1, 2, 3, 4, 5, 6, 7, 8, 9], by decide, rfl⟩ (qt_rd (rd_nilCheck rfl)) ?_
      refine ga_first 7 (bm 15 255) rfl rfl rfl rfl (by kernel_rfl) (by kernel_rfl) ⟨[0, 1, 2, 3, 4, 5, 6, 7, 8, 9], by decide, rfl⟩ (qt_rd (rd_fieldAddr rfl (fa_76_3 _))) ?_
      refine ga_first 8 (bm 15 511) rfl rfl rfl rfl (by kernel_rfl) (by kernel_rfl) ⟨[0, 1, 2, 3, 4, 5, 6, 7, 8, 9], by decide, rfl⟩ (qt_rd (rd_load Try.underlying74 rfl rfl (by exact ld_blk 6 rfl rfl))) ?_
      refine ga_first 9 (bm 15 1023) rfl rfl rfl rfl (by kernel_rfl) (by kernel_rfl) ⟨[0, 1, 2, 3, 4, 5, 6, 7, 8, 9], by decide, rfl⟩ (qt_rd (rd_load Try.underlying3 rfl rfl (by exact ld_blk 5 rfl rfl))) ?_
      refine ga_first 10 (bm 15 2047) rfl rfl rfl rfl (by kernel_rfl) (by kernel_rfl) ⟨[0, 1, 2, 3, 4, 5, 6, 7, 8, 9], by decide, rfl⟩ (qt_rd (rd_move rfl)) ?_
      refine ga_first 11 (bm 15 4095) rfl rfl rfl rfl (by kernel_rfl) (by kernel_rfl) ⟨[0, 1, 2, 3, 4, 5, 6, 7, 8, 9], by decide, rfl⟩ (qt_rd (rd_indexR1 Try.underlying25 ty_2 rfl rfl (by omega) (by omega))) ?_
      refine ga_only 12 (bm 15 8191) rfl rfl (by kernel_rfl) (by kernel_rfl) (.inr ⟨[0, 1, 2, 3, 4, 5, 6, 7, 8, 9], by decide, rfl⟩) (op_storeRowE 10 ty_2 rfl rfl rfl rfl (by rw [List.length_map]; show k < _; omega) (show (p.at_.map natV).set k (natV (placeF shop l p k)) = (nextP shop l p k).at_.map natV from set_natL p.at_ k _) (by rfl) ?_)
      refine ga_first 13 (bm 15 16383) rfl rfl rfl rfl (by kernel_rfl) (by kernel_rfl) ⟨[0, 1, 2, 3, 4, 5, 6, 7, 8, 9], by decide, rfl⟩ (qt_rd (rd_indexR1 Try.underlying74 ty_4 rfl rfl (by omega) (by omega))) ?_
      refine ga_only 14 (bm 15 32767) rfl rfl (by kernel_rfl) (by kernel_rfl) (.inr ⟨[0, 1, 2, 3, 4, 5, 6, 7, 8, 9], by decide, rfl⟩) (op_storeRowE 11 ty_4 rfl rfl rfl rfl (by rw [List.length_map]; show k < _; omega) (show (p.is.map boolV).set k (.bool true) = (nextP shop l p k).is.map boolV from set_bool p.is k true) (by rfl) ?_)
      refine ga_end (by kernel_rfl) (.inl (by kernel_rfl)) ?_
      refine gx_then <| rc_seq <| rc_region <| rl_op (by nofun) (op_rd rfl (rd_load Try.underlying89 rfl rfl (ld_sl (off := 0) hcf1 rfl)) ?_)
      refine rl_op (by nofun) (op_rd rfl (rd_load Try.underlying3 rfl rfl (by exact ld_blk 9 rfl rfl)) ?_)
      refine rl_op (by nofun) (op_rd rfl (by exact rd_addN (b := 1) rfl rfl (by omega)) ?_)
      refine rl_op (by nofun) (op_rd rfl (rd_load Try.underlying2 rfl rfl (by exact ld_blk 8 rfl rfl)) ?_)
      refine rl_op (by nofun) (op_rd rfl (rd_move rfl) ?_)
      refine rl_op (by nofun) (op_rd rfl (rd_fieldAddr rfl (fa_48_2 _)) ?_)
      refine rl_op (by nofun) (op_rd rfl (rd_load Try.underlying2 rfl rfl (by exact ld_blk 4 rfl rfl)) ?_)
      refine rl_op (by nofun) (op_rd rfl (by exact rd_addN rfl rfl (by omega)) ?_)
      refine rl_op (by nofun) (op_rd rfl (rd_max2 rfl rfl) ?_)
      rw [so_next hla hli hx h82]
      refine rl_op (by nofun) (op_callMT [_, _, _, _, _, _, _, _, _, _, _, _] (Ds.map markH) [6, 10, 11, 7] [0, 1, 2, 3, 4, 5, 8, 9] 12 rfl rfl rfl (vf := []) (vc := [.pointer (some ⟨pc, 0, none⟩), .pointer (some ⟨fc, 0, none⟩)]) rfl rfl Try.call56 (by decide) (by decide) rfl (fun w how hc => by
        have h9 := ih (nextP shop l p k) (hp.next hj hkl hrd) (many + 1) (by omega) (accQ shop l r p b (k)) rb1 cb1 (.inr (by omega)) hB1 w hc (JnIn.outT (B := [_, _, _, _, _, _, _, _, _, _, _, _]) (T := (Ds.map markH)) hJ1 how [6, 10, 11, 7]) (slOutT (B := [_, _, _, _, _, _, _, _, _, _, _, _]) (T := (Ds.map markH)) how hS1 (by decide) [6, 10, 11, 7]) (slOutT (B := [_, _, _, _, _, _, _, _, _, _, _, _]) (T := (Ds.map markH)) how hcp1 (by decide) [6, 10, 11, 7]) (slOutT (B := [_, _, _, _, _, _, _, _, _, _, _, _]) (T := (Ds.map markH)) how hcf1 (by decide) [6, 10, 11, 7])
        rw [accQ_yes hrd] at h9
        exact h9) ?_)
      rintro _ _ ⟨rfl, rb2, cb2, hB2, rfl⟩
      refine rl_nil <| gx_then <| rc_seq <| rc_drawP [0, 3, 4, 5, 6, 7, 8, 9, 10, 11] false 13 rfl rfl <| ga_first 0 (bm 14 1) rfl rfl rfl rfl (by kernel_rfl) (by kernel_rfl) ⟨[0, 3, 4, 5, 6, 7, 8, 9, 10, 11], by decide, rfl⟩ (qt_rd (rd_load Try.underlying73 rfl rfl (ld_sl (off := 0) hcp1 rfl))) ?_
      refine ga_first 1 (bm 14 3) rfl rfl rfl rfl (by kernel_rfl) (by kernel_rfl) ⟨[0, 3, 4, 5, 6, 7, 8, 9, 10, 11], by decide, rfl⟩ (qt_rd (rd_nilCheck rfl)) ?_
      refine ga_first 2 (bm 14 7) rfl rfl rfl rfl (by kernel_rfl) (by kernel_rfl) ⟨[0, 3, 4, 5, 6, 7, 8, 9, 10, 11], by decide, rfl⟩ (qt_rd (rd_fieldAddr rfl (fa_76_2 _))) ?_
      refine ga_first 3 (bm 14 15) rfl rfl rfl rfl (by kernel_rfl) (by kernel_rfl) ⟨[0, 3, 4, 5, 6, 7, 8, 9, 10, 11], by decide, rfl⟩ (qt_rd (rd_load Try.underlying25 rfl rfl (by exact ld_blk 0 rfl rfl))) ?_
      refine ga_first 4 (bm 14 31) rfl rfl rfl rfl (by kernel_rfl) (by kernel_rfl) ⟨[0, 3, 4, 5, 6, 7, 8, 9, 10, 11], by decide, rfl⟩ (qt_rd (rd_load Try.underlying3 rfl rfl (by exact ld_blk 7 rfl rfl))) ?_
      refine ga_first 5 (bm 14 63) rfl rfl rfl rfl (by kernel_rfl) (by kernel_rfl) ⟨[0, 3, 4, 5, 6, 7, 8, 9, 10, 11], by decide, rfl⟩ (qt_rd (rd_load Try.underlying73 rfl rfl (ld_sl (off := 0) hcp1 rfl))) ?_
      refine ga_first 6 (bm 14 127) rfl rfl rfl rfl (by kernel_rfl) (by kernel_rfl) ⟨[0, 3, 4, 5, 6, 7, 8, 9, 10, 11], by decide, rfl⟩ (qt_rd (rd_nilCheck rfl)) ?_
      refine ga_first 7 (bm 14 255) rfl rfl rfl rfl (by kernel_rfl) (by kernel_rfl) ⟨[0, 3, 4, 5, 6, 7, 8, 9, 10, 11], by decide, rfl⟩ (qt_rd (rd_fieldAddr rfl (fa_76_3 _))) ?_
      refine ga_first 8 (bm 14 511) rfl rfl rfl rfl (by kernel_rfl) (by kernel_rfl) ⟨[0, 3, 4, 5, 6, 7, 8, 9, 10, 11], by decide, rfl⟩ (qt_rd (rd_load Try.underlying74 rfl rfl (by exact ld_blk 0 rfl rfl))) ?_
      refine ga_first 9 (bm 14 1023) rfl rfl rfl rfl (by kernel_rfl) (by kernel_rfl) ⟨[0, 3, 4, 5, 6, 7, 8, 9, 10, 11], by decide, rfl⟩ (qt_rd (rd_load Try.underlying3 rfl rfl (by exact ld_blk 7 rfl rfl))) ?_
      refine ga_first 10 (bm 14 2047) rfl rfl rfl rfl (by kernel_rfl) (by kernel_rfl) ⟨[0, 3, 4, 5, 6, 7, 8, 9, 10, 11], by decide, rfl⟩ (qt_rd (rd_indexR1 Try.underlying25 ty_2 rfl rfl (by omega) (by omega))) ?_
      refine ga_only 11 (bm 14 4095) rfl rfl (by kernel_rfl) (by kernel_rfl) (.inr ⟨[0, 3, 4, 5, 6, 7, 8, 9, 10, 11], by decide, rfl⟩) (op_storeRowE 1 ty_2 rfl rfl rfl rfl (by rw [List.length_map]; show k < _; (unfold nextP pput; rw [List.length_set]; omega)) (show ((nextP shop l p k).at_.map natV).set k (natV 0) = p.at_.map natV from (set_natL _ k 0).trans (congrArg (List.map natV) (set_back (by omega) (hp.zero k h82)))) (by rfl) ?_)
      refine ga_first 12 (bm 14 8191) rfl rfl rfl rfl (by kernel_rfl) (by kernel_rfl) ⟨[0, 3, 4, 5, 6, 7, 8, 9, 10, 11], by decide, rfl⟩ (qt_rd (rd_indexR1 Try.underlying74 ty_4 rfl rfl (by omega) (by omega))) ?_
      refine ga_only 13 (bm 14 16383) rfl rfl (by kernel_rfl) (by kernel_rfl) (.inr ⟨[0, 3, 4, 5, 6, 7, 8, 9, 10, 11], by decide, rfl⟩) (op_storeRowE 2 ty_4 rfl rfl rfl rfl (by rw [List.length_map]; show k < _; (unfold nextP pput; rw [List.length_set]; omega)) (show ((nextP shop l p k).is.map boolV).set k (.bool false) = p.is.map boolV from (set_bool _ k false).trans (congrArg (List.map boolV) (set_backB (by omega) h82))) (by rfl) ?_)
      refine ga_end (by kernel_rfl) (.inl (by kernel_rfl)) ?_
      refine gx_then <| rc_exit <| gx_block_pass rfl ?_
      exact rp_exit _ (⟨rfl, rfl, rb2, cb2, hB2, rfl⟩) (sub_tail (A := [_, _, _, _, _, _, _, _, _, _, _, _]) (B := [_, _, _, _, _, _, _, _, _, _, _, _]) (T := (Ds.map markH)) [4, 5, 6, 7, 8, 9, 0, 3, 10, 11, 1, 2] 12 (by decide) (by decide) rfl rfl)
    · intro D L hI
      exfalso; have := hI.1; omega
    · intro D c i L hi hI
      obtain ⟨rfl, rfl, rb2, cb2, hB2, rfl⟩ := hI
      refine gk_front [_, _, _, _, _, _, _, _, _, _, _] [_, _, _, _, _, _, _, _, _, _] (Ds.map markH) [1, 2, 3, 4, 5, 6, 7, 8, 9, 10] 0 11 rfl (x := markH D) rfl rfl (by decide) (by decide) ?_
      refine rc_exit <| gx_block_exit <| gx_block <| gx_then <| rc_region <| rl_op (by nofun) (op_rd rfl (by exact rd_addN (b := 1) rfl rfl (by omega)) ?_)
      refine rl_op (by nofun) (op_rd rfl (rd_move rfl) ?_)
      refine rl_nil <| gx_then ?_
      exact gx_cutM ((k + 1, D :: Ds, rb2, cb2)) ⟨⟨by simp only; omega, hB2⟩, by simp only; omega⟩ rfl ⟨rfl, rfl, rfl, rfl, rfl, rfl, rfl, trivial⟩ (sub_tail (A := [_, _, _, _, _, _]) (B := [_, _, _, _, _, _, _, _, _, _]) (T := ((D :: Ds).map markH)) [4, 5, 6, 7, 8, 9] 10 (by decide) (by decide) rfl rfl)
  refine rl_nil <| gx_then <| rc_seq <| rc_cond_f rfl <| rc_exit <| gx_then_exit <| gx_then_exit <| gx_block_exit ?_
  have hk9 : k = l.length := by omega
  subst hk9
  refine gk_sub (sub_tail (A := [_, _, _, _]) (B := [_, _, _, _, _, _]) (T := (Ds.map markH)) [0, 4, 5, 1] 6 (by decide) (by decide) rfl rfl) ?_
  refine gk_sub (sub_rot [_, _, _, _] (Ds.map markH)) <| gx_retM0 Ds (.inr rfl) Try.results56 (Sub.refl' _) ?_
  exact ⟨rfl, rb1, cb1, hB1, rfl⟩
theorem srch_ok (a : Option Addr) (c : Nat) (l : List Jb) (hg : GoodJ l) (h7 : l.length ≤ 7) (sa : Option Addr) (sc : Nat) (shop : List Int) (hsl : shop.length ≤ 6) (hsp : ∀ s ∈ shop, 1 ≤ s) (hbn : ∀ x ∈ l, x.bench < shop.length) (bp qa qb pc fc : Nat) (r : Nat) : ∀ (p : Plc) (hp : PlOk l r p) (many : Nat) (hm : many + r = l.length) (b : Option (List Nat)) (rb : Option Nat) (cb : Nat) (hb0 : b = none ∨ l.length ≠ 0) (hB0 : BestOk b rb cb l.length) (w0 : World) (hown : Own w0 ([plH bp sa shop.length sc a l c qa qb (b) rb cb, atH qa l p, isH qb l p, srR (b) rb cb].filterMap HL.block) w0 [plH bp sa shop.length sc a l c qa qb (b) rb cb, atH qa l p, isH qb l p, srR (b) rb cb]) (hJ : JnIn a l w0 ([plH bp sa shop.length sc a l c qa qb (b) rb cb, atH qa l p, isH qb l p, srR (b) rb cb].filterMap HL.block)) (hS : OldSl w0 ([plH bp sa shop.length sc a l c qa qb (b) rb cb, atH qa l p, isH qb l p, srR (b) rb cb].filterMap HL.block) sa shop.length 1 (shop.map intV)) (hcp : OldSl w0 ([plH bp sa shop.length sc a l c qa qb (b) rb cb, atH qa l p, isH qb l p, srR (b) rb cb].filterMap HL.block) (some ⟨pc, 0, none⟩) 1 1 [.pointer (some ⟨bp, 0, none⟩)]) (hcf : OldSl w0 ([plH bp sa shop.length sc a l c qa qb (b) rb cb, atH qa l p, isH qb l p, srR (b) rb cb].filterMap HL.block) (some ⟨fc, 0, none⟩) 1 1 [.func (.func 56) #[] #[.pointer (some ⟨pc, 0, none⟩), .pointer (some ⟨fc, 0, none⟩)]]), Sp Try.prog 56 [natV many, natV (soP l p), .pointer (some ⟨pc, 0, none⟩), .pointer (some ⟨fc, 0, none⟩)] w0 ([plH bp sa shop.length sc a l c qa qb (b) rb cb, atH qa l p, isH qb l p, srR (b) rb cb].filterMap HL.block) (fun v L => v = .tuple #[] ∧ ∃ rb' cb', BestOk ((leaves shop l r p).foldl (upd l) b) rb' cb' l.length ∧ L = [plH bp sa shop.length sc a l c qa qb ((leaves shop l r p).foldl (upd l) b) rb' cb', atH qa l p, isH qb l p, srR ((leaves shop l r p).foldl (upd l) b) rb' cb']) := by
  induction r with
  | zero => exact srch0_ok a c l hg h7 sa sc shop hsl hsp hbn bp qa qb pc fc
  | succ r ih => exact srchS_ok a c l hg h7 sa sc shop hsl hsp hbn bp qa qb pc fc r ih
end Go.Proofs.Ytafmcflggikbfaa
namespace Go.Proofs.Ytafmcflggikbfaa
open Go.Gv
open Go.RowKit
open Go.Sn
open Go.Wk
open Sx
namespace Sx
theorem blkOut0 {w0 w : World} {S : List Nat} {B : List HL} (ho : Own w0 S w B) (i : Nat) (ic : List Nat) {b : Nat} {cs : List Value} {ty : TypeId} (k : Nat) (hk : cs.length = k) (hi : B[i]? = some (.blk b cs ty)) (hn : i ∉ ic) : OldSl w ((pick ic B).filterMap HL.block) (some ⟨b, 0, none⟩) 1 k cs := by
  have h := blkMem ho k hk (List.mem_of_getElem? hi)
  refine ⟨h.len, h.isSome, h.cells, fun _ hb => ?_⟩
  obtain ⟨y, hy, hyb⟩ := List.mem_filterMap.1 hb
  simp only [pick, List.mem_filterMap] at hy
  obtain ⟨j, hj, hyj⟩ := hy
  have := nodup_inj ho.nodup hi hyj rfl hyb
  subst this
  exact hn hj
theorem soP_p0 (l : List Jb) : soP l (p0 l) = 0 := by
  have h : soP l (p0 l) ≤ 0 := soP_le.2 fun i hi hp => by
    exfalso
    unfold plB p0 at hp
    rw [List.getD_eq_getElem?_getD, List.getElem?_replicate, if_pos hi] at hp
    cases hp
  omega
theorem shop_pos {shop : List Int} (h : shopB shop = true) : shop.length ≤ 6 ∧ ∀ s ∈ shop, 1 ≤ s := by
  unfold shopB at h
  simp only [Bool.and_eq_true, decide_eq_true_eq, Bool.not_eq_true'] at h
  refine ⟨h.1, fun s hs => ?_⟩
  have := List.any_eq_false.1 h.2 s hs
  unfold shF at this
  simp at this
  omega
theorem benS_lt {shop : List Int} {n : List Jb} (h : benS shop n = false) : ∀ x ∈ n, x.bench < shop.length := fun x hx => by
  unfold benS at h
  have := List.any_eq_false.1 h x hx
  simp at this
  omega
end Sx
open Sx
set_option maxRecDepth 100000 in
set_option maxHeartbeats 1000000 in
theorem search_ok (a : Option Addr) (c : Nat) (l : List Jb) (hg : GoodJ l) (h7 : l.length ≤ 7) (sa : Option Addr) (sc : Nat) (shop : List Int) (hsl : shop.length ≤ 6) (hsp : ∀ s ∈ shop, 1 ≤ s) (hbn : ∀ x ∈ l, x.bench < shop.length) (bp qa qb : Nat) (w0 : World) (hown : Own w0 ([plH bp sa shop.length sc a l c qa qb (none) none 0, atH qa l (p0 l), isH qb l (p0 l), srR (none) none 0].filterMap HL.block) w0 [plH bp sa shop.length sc a l c qa qb (none) none 0, atH qa l (p0 l), isH qb l (p0 l), srR (none) none 0]) (hJ : JnIn a l w0 ([plH bp sa shop.length sc a l c qa qb (none) none 0, atH qa l (p0 l), isH qb l (p0 l), srR (none) none 0].filterMap HL.block)) (hS : OldSl w0 ([plH bp sa shop.length sc a l c qa qb (none) none 0, atH qa l (p0 l), isH qb l (p0 l), srR (none) none 0].filterMap HL.block) sa shop.length 1 (shop.map intV)) : Sp Try.prog 45 [.pointer (some ⟨bp, 0, none⟩)] w0 ([plH bp sa shop.length sc a l c qa qb (none) none 0, atH qa l (p0 l), isH qb l (p0 l), srR (none) none 0].filterMap HL.block) (fun v L => v = .tuple #[] ∧ ∃ rb' cb', BestOk (planO shop l) rb' cb' l.length ∧ L = [plH bp sa shop.length sc a l c qa qb (planO shop l) rb' cb', atH qa l (p0 l), isH qb l (p0 l), srR (planO shop l) rb' cb']) := by
  refine spec_enter Try.func45 rfl Try.ntmps45 rfl hown ?_
  simp only [argEnv]
  refine gc_seq <| gc_region <| gl_op (op_box rfl rfl rfl (fun b1 => ?_))
  refine gl_nil <| gx_then <| gc_seq <| gc_region <| gl_op (op_alloc ty_89 rfl rfl (fun b2 => ?_))
  refine gl_nil <| gx_then <| gc_seq <| gc_region <| gl_op <| op_rd rfl (rd_makeFunc (fs := []) (cs := [.tmp 1, .tmp 2]) rfl rfl) <| gl_op (op_store 0 ty_89 rfl rfl rfl rfl rfl (by rfl) (by rfl) ?_)
  refine gl_nil <| gx_then <| gc_region <| gl_op (op_rd rfl (rd_load Try.underlying89 rfl rfl (by exact ld_blk 0 rfl rfl)) ?_)
  refine gl_op (op_callM [2, 3, 4, 5] [0, 1] rfl (vf := []) (vc := [.pointer (some ⟨b1, 0, none⟩), .pointer (some ⟨b2, 0, none⟩)]) rfl rfl Try.call56 (by decide) rfl (fun w how hc => by
    have h9 := srch_ok a c l hg h7 sa sc shop hsl hsp hbn bp qa qb b1 b2 l.length (p0 l) PlOk.start 0 (by omega) none none 0 (.inl rfl) ⟨rfl, rfl⟩ w hc (JnIn.outB hJ how [2, 3, 4, 5]) (slOutB how hS (by decide) [2, 3, 4, 5]) (blkOut0 how 1 [2, 3, 4, 5] 1 rfl rfl (by decide)) (blkOut0 how 0 [2, 3, 4, 5] 1 rfl rfl (by decide))
    rw [soP_p0] at h9
    exact h9) ?_)
  rintro _ _ ⟨rfl, rb2, cb2, hB2, rfl⟩
  refine gl_nil <| gx_ret0 (.inr rfl) Try.results45 [0, 1, 2, 3] (by decide) ?_
  exact ⟨rfl, rb2, cb2, hB2, rfl⟩
set_option maxRecDepth 100000 in
set_option maxHeartbeats 1000000 in
theorem Plan_ok (a : Option Addr) (c : Nat) (l : List JI) (hle : JsLe l)  (sa : Option Addr) (sc : Nat) (shop : List Int) (hsl : shop.length ≤ 140737488355328) (w0 : World) (hJ : JsIn a l w0 []) (hS : OldSl w0 [] sa shop.length 1 (shop.map intV)) : Sp Try.prog 20 [.slice sa shop.length sc, .slice a l.length c] w0 [] (PlanR 2 shop l) := by
  refine spec_enter Try.func20 rfl Try.ntmps20 rfl (Own.refl _) ?_
  simp only [argEnv]
  refine gc_seq <| gc_region <| gl_op (op_box rfl rfl rfl (fun b2 => ?_))
  refine gl_op <| op_rd rfl (rd_assign rfl) <| gl_op <| op_rd rfl (rd_assign rfl) <| gl_op <| op_rd rfl (rd_assign rfl) <| gl_nil <| gx_then <| gc_seq <| gc_seq <| gc_region <| gl_op <| op_rd rfl (rd_move rfl) <| gl_op (op_call rfl (vf := []) (vc := []) rfl rfl Try.call14 (fun w1 ho => Check_ok a c l hle w1 (hJ.at ho)) ?_)
  rintro _ _ ⟨rfl, rfl⟩
  refine gl_op <| op_rd rfl (rd_assign rfl) <| gl_nil <| gx_then <| gc_seq <| gc_region <| gl_op <| op_rd rfl (rd_move rfl) <| gl_op (op_rd rfl (rd_neq rfl rfl) (gk_dec (fun h12 => ?_) (fun h12 => ?_)))
  · refine gl_nil <| gx_then <| gc_cond_t rfl <| gc_seq <| gc_region <| gl_op <| op_rd rfl (rd_move rfl) <| gl_op <| op_rd rfl (rd_assign rfl) <| gl_op <| op_rd rfl (rd_assign rfl) <| gl_op <| op_rd rfl (rd_assign rfl) <| gl_nil <| gx_then <| gc_ret <| gx_then_ret <| gx_ret3 (.inl rfl) Try.results20 rfl rfl rfl [] (by decide) ?_
    exact .inl ⟨by rw [planE_c (by omega)]; omega, by rw [planE_c (by omega)], rfl⟩
  have hch : checkE l = 0 := by omega
  refine gl_nil <| gx_then <| gc_cond_f rfl <| gc_skip <| gx_then <| gc_seq <| gc_seq <| gc_region <| gl_op <| op_rd rfl (rd_move rfl) <| gl_op <| op_rd rfl (rd_lenSlice Try.underlying22 rfl) <| gl_op (op_rd rfl (rd_gtr rfl rfl) (gk_dec (fun h16 => ?_) (fun h16 => ?_)))
  · have h7 : 7 < l.length := by omega
    refine gl_nil <| gx_then <| gc_cond_t rfl <| gc_seq <| gc_region <| gl_op <| op_rd rfl (rd_assign rfl) <| gl_op <| op_rd rfl (rd_assign rfl) <| gl_op <| op_rd rfl (rd_assign rfl) <| gl_nil <| gx_then <| gc_ret <| gx_then_ret <| gx_ret3 (.inl rfl) Try.results20 rfl rfl rfl [] (by decide) ?_
    exact .inl ⟨by rw [planE_3 hch (by omega)]; omega, by rw [planE_3 hch (by omega)], rfl⟩
  have h7 : l.length ≤ 7 := by omega
  obtain ⟨n, rfl, hg, hn⟩ := goodJ_of hch
  have hN := JnIn.of hJ
  rw [List.length_map]
  have hj := hg.ok
  have hln := hj.n
  rw [List.length_map] at h7
  refine gl_nil <| gx_then <| gc_cond_f rfl <| gc_skip <| gx_then <| gc_seq <| gc_seq <| gc_region <| gl_op (op_rd rfl (rd_load Try.underlying29 rfl rfl (by exact ld_blk 0 rfl rfl)) ?_)
  refine gl_op (op_call rfl (vf := []) (vc := []) rfl rfl Try.call37 (fun w1 ho => shopped_ok sa sc shop hsl w1 (hS.at ho)) ?_)
  rintro _ _ ⟨rfl, rfl⟩
  refine gk_bool (fun hs => ?_) (fun hs => ?_)
  · refine gl_op <| op_rd rfl (rd_not rfl) <| gl_nil <| gx_then <| gc_cond_f rfl <| gc_skip <| gx_then <| gc_seq <| gc_seq <| gc_region <| gl_op <| op_rd rfl (rd_move rfl) <| gl_op <| op_rd rfl (rd_makeFunc (fs := []) (cs := [.tmp 2]) rfl rfl) <| gl_op (op_call rfl (vf := []) (vc := []) rfl rfl Try.call32 (fun w1 ho => containsBen_ok a c n hln b2 sa sc shop hsl w1 (hN.at ho) (blkMem ho 1 rfl (List.mem_of_getElem? (i := 0) rfl))) ?_)
    rintro _ _ ⟨rfl, rfl⟩
    refine gk_bool (fun hb9 => ?_) (fun hb9 => ?_)
    · refine gl_nil <| gx_then <| gc_cond_t rfl <| gc_seq <| gc_region <| gl_op <| op_rd rfl (rd_assign rfl) <| gl_op <| op_rd rfl (rd_assign rfl) <| gl_op <| op_rd rfl (rd_assign rfl) <| gl_nil <| gx_then <| gc_ret <| gx_then_ret <| gx_ret3 (.inl rfl) Try.results20 rfl rfl rfl [] (by decide) ?_
      exact .inl ⟨by rw [planE_4 hch (by rw [List.length_map]; omega) hs (by rw [hn]; exact hb9)]; omega, by rw [planE_4 hch (by rw [List.length_map]; omega) hs (by rw [hn]; exact hb9)], rfl⟩
    refine gl_nil <| gx_then <| gc_cond_f rfl <| gc_skip <| gx_then <| gc_seq <| gc_drawP [0] true 10 rfl <| ga_first 0 (bm 11 1) rfl rfl rfl rfl (by kernel_rfl) (by kernel_rfl) ⟨[0], by decide, rfl⟩ (qt_rd (rd_load Try.underlying29 rfl rfl (by exact ld_blk 0 rfl rfl))) ?_
    refine ga_first 1 (bm 11 3) rfl rfl rfl rfl (by kernel_rfl) (by kernel_rfl) ⟨[0], by decide, rfl⟩ (qt_rd (rd_move rfl)) ?_
    refine ga_first 2 (bm 11 7) rfl rfl rfl rfl (by kernel_rfl) (by kernel_rfl) ⟨[0], by decide, rfl⟩ (qt_rd (rd_move rfl)) ?_
    refine ga_first 3 (bm 11 15) rfl rfl rfl rfl (by kernel_rfl) (by kernel_rfl) ⟨[0], by decide, rfl⟩ (qt_rd (rd_lenSlice Try.underlying22 rfl)) ?_
    refine ga_first 5 (bm 11 47) rfl rfl rfl rfl (by kernel_rfl) (by kernel_rfl) ⟨[0], by decide, rfl⟩ (qt_rd (rd_move rfl)) ?_
    refine ga_first 6 (bm 11 111) rfl rfl rfl rfl (by kernel_rfl) (by kernel_rfl) ⟨[0], by decide, rfl⟩ (qt_rd (rd_lenSlice Try.underlying22 rfl)) ?_
    refine ga_two 4 7 (bm 11 127) (bm 11 239) rfl rfl rfl rfl (by kernel_rfl) (by kernel_rfl) (by kernel_rfl) (.inr ⟨[0], by decide, rfl⟩) ?_ ?_
    · refine (op_makeSlice (n.length) Try.underlying25 ty_2 rfl rfl rfl (by omega) (by omega) (by omega) (by omega) (fun b27 => ?_))
      refine ga_only 7 (bm 11 255) rfl rfl (by kernel_rfl) (by kernel_rfl) (.inr ⟨[1], by decide, rfl⟩) (op_makeSlice (n.length) Try.underlying74 ty_4 rfl rfl rfl (by omega) (by omega) (by omega) (by omega) (fun b30 => ?_))
      refine ga_first 8 (bm 11 511) rfl rfl rfl rfl (by kernel_rfl) (by kernel_rfl) ⟨[2], by decide, rfl⟩ (qt_rd (rd_build rfl (fun _ => bd_76_0_1_2_3 _ _ _ _ _ _ _ _ _ _ _ _))) ?_
      refine ga_only 9 (bm 11 1023) rfl rfl (by kernel_rfl) (by kernel_rfl) (.inr ⟨[2], by decide, rfl⟩) (op_box rfl rfl rfl (fun b32 => ?_))
      refine ga_first 10 (bm 11 2047) rfl rfl rfl rfl (by kernel_rfl) (by kernel_rfl) ⟨[3], by decide, rfl⟩ (qt_rd (rd_assign rfl)) ?_
      refine ga_end (by kernel_rfl) (.inr ⟨[3], by decide, rfl⟩) ?_
      refine gx_then <| gc_seq <| gk_nil 2 1 <| gc_region <| gl_op <| op_rd rfl (rd_move rfl) ?_
      rw [made_one _ rfl, made_one _ rfl, ← p0_atC n, ← p0_isC n]
      refine gl_op (op_callM [1, 3, 2, 0] [4] rfl (vf := []) (vc := []) rfl rfl Try.call45 (by decide) rfl (fun w how hc => search_ok a c n hg h7 sa sc shop (shop_pos hs).1 (shop_pos hs).2 (benS_lt hb9) b32 b27 b30 w hc (JnIn.outB hN how [1, 3, 2, 0]) (slOutB how hS (by decide) [1, 3, 2, 0])) ?_)
      rintro _ _ ⟨rfl, rb2, cb2, hB2, rfl⟩
      obtain ⟨g, hbo, hbm⟩ := plan_some (shop := shop) hg
      rw [hbo] at hB2 ⊢
      refine gl_nil <| gx_then <| gc_seq <| gc_drawP [0, 1, 2, 3, 4] true 10 rfl <| ga_first 0 (bm 11 1) rfl rfl rfl rfl (by kernel_rfl) (by kernel_rfl) ⟨[0, 1, 2, 3, 4], by decide, rfl⟩ (qt_rd (rd_move rfl)) ?_
      refine ga_first 1 (bm 11 3) rfl rfl rfl rfl (by kernel_rfl) (by kernel_rfl) ⟨[0, 1, 2, 3, 4], by decide, rfl⟩ (qt_rd (rd_nilCheck rfl)) ?_
      refine ga_first 2 (bm 11 7) rfl rfl rfl rfl (by kernel_rfl) (by kernel_rfl) ⟨[0, 1, 2, 3, 4], by decide, rfl⟩ (qt_rd (rd_fieldAddr rfl (fa_76_4 _))) ?_
      refine ga_first 3 (bm 11 15) rfl rfl rfl rfl (by kernel_rfl) (by kernel_rfl) ⟨[0, 1, 2, 3, 4], by decide, rfl⟩ (qt_rd (rd_load Try.underlying25 rfl rfl (by exact ld_blk 0 rfl rfl))) ?_
      refine ga_first 4 (bm 11 31) rfl rfl rfl rfl (by kernel_rfl) (by kernel_rfl) ⟨[0, 1, 2, 3, 4], by decide, rfl⟩ (qt_rd (rd_move rfl)) ?_
      refine ga_first 5 (bm 11 63) rfl rfl rfl rfl (by kernel_rfl) (by kernel_rfl) ⟨[0, 1, 2, 3, 4], by decide, rfl⟩ (qt_rd (rd_nilCheck rfl)) ?_
      refine ga_first 6 (bm 11 127) rfl rfl rfl rfl (by kernel_rfl) (by kernel_rfl) ⟨[0, 1, 2, 3, 4], by decide, rfl⟩ (qt_rd (rd_fieldAddr rfl (fa_76_5 _))) ?_
      refine ga_first 7 (bm 11 255) rfl rfl rfl rfl (by kernel_rfl) (by kernel_rfl) ⟨[0, 1, 2, 3, 4], by decide, rfl⟩ (qt_rd (rd_load Try.underlying2 rfl rfl (by exact ld_blk 0 rfl rfl))) ?_
      refine ga_first 8 (bm 11 511) rfl rfl rfl rfl (by kernel_rfl) (by kernel_rfl) ⟨[0, 1, 2, 3, 4], by decide, rfl⟩ (qt_rd (rd_assign rfl)) ?_
      refine ga_first 9 (bm 11 1023) rfl rfl rfl rfl (by kernel_rfl) (by kernel_rfl) ⟨[0, 1, 2, 3, 4], by decide, rfl⟩ (qt_rd (rd_assign rfl)) ?_
      refine ga_first 10 (bm 11 2047) rfl rfl rfl rfl (by kernel_rfl) (by kernel_rfl) ⟨[0, 1, 2, 3, 4], by decide, rfl⟩ (qt_rd (rd_assign rfl)) ?_
      refine ga_end (by kernel_rfl) (.inr ⟨[0, 1, 2, 3, 4], by decide, rfl⟩) ?_
      refine gx_then <| gc_ret <| gx_ret3 (.inl rfl) Try.results20 rfl rfl rfl [3] (by decide) ?_
      refine .inr ⟨planE_0 hch (by rw [List.length_map]; omega) hs (by rw [hn]; exact hb9), g, rb2, cb2, by rw [hn]; exact hbo, ?_, rfl⟩
      rw [hn]; rfl
    refine (op_makeSlice (n.length) Try.underlying74 ty_4 rfl rfl rfl (by omega) (by omega) (by omega) (by omega) (fun b30 => ?_))
    refine ga_only 4 (bm 11 255) rfl rfl (by kernel_rfl) (by kernel_rfl) (.inr ⟨[1], by decide, rfl⟩) (op_makeSlice (n.length) Try.underlying25 ty_2 rfl rfl rfl (by omega) (by omega) (by omega) (by omega) (fun b27 => ?_))
    refine ga_first 8 (bm 11 511) rfl rfl rfl rfl (by kernel_rfl) (by kernel_rfl) ⟨[2], by decide, rfl⟩ (qt_rd (rd_build rfl (fun _ => bd_76_0_1_2_3 _ _ _ _ _ _ _ _ _ _ _ _))) ?_
    refine ga_only 9 (bm 11 1023) rfl rfl (by kernel_rfl) (by kernel_rfl) (.inr ⟨[2], by decide, rfl⟩) (op_box rfl rfl rfl (fun b32 => ?_))
    refine ga_first 10 (bm 11 2047) rfl rfl rfl rfl (by kernel_rfl) (by kernel_rfl) ⟨[3], by decide, rfl⟩ (qt_rd (rd_assign rfl)) ?_
    refine ga_end (by kernel_rfl) (.inr ⟨[3], by decide, rfl⟩) ?_
    refine gx_then <| gc_seq <| gk_nil 2 1 <| gc_region <| gl_op <| op_rd rfl (rd_move rfl) ?_
    rw [made_one _ rfl, made_one _ rfl, ← p0_atC n, ← p0_isC n]
    refine gl_op (op_callM [1, 2, 3, 0] [4] rfl (vf := []) (vc := []) rfl rfl Try.call45 (by decide) rfl (fun w how hc => search_ok a c n hg h7 sa sc shop (shop_pos hs).1 (shop_pos hs).2 (benS_lt hb9) b32 b27 b30 w hc (JnIn.outB hN how [1, 2, 3, 0]) (slOutB how hS (by decide) [1, 2, 3, 0])) ?_)
    rintro _ _ ⟨rfl, rb2, cb2, hB2, rfl⟩
    obtain ⟨g, hbo, hbm⟩ := plan_some (shop := shop) hg
    rw [hbo] at hB2 ⊢
    refine gl_nil <| gx_then <| gc_seq <| gc_drawP [0, 1, 2, 3, 4] true 10 rfl <| ga_first 0 (bm 11 1) rfl rfl rfl rfl (by kernel_rfl) (by kernel_rfl) ⟨[0, 1, 2, 3, 4], by decide, rfl⟩ (qt_rd (rd_move rfl)) ?_
    refine ga_first 1 (bm 11 3) rfl rfl rfl rfl (by kernel_rfl) (by kernel_rfl) ⟨[0, 1, 2, 3, 4], by decide, rfl⟩ (qt_rd (rd_nilCheck rfl)) ?_
    refine ga_first 2 (bm 11 7) rfl rfl rfl rfl (by kernel_rfl) (by kernel_rfl) ⟨[0, 1, 2, 3, 4], by decide, rfl⟩ (qt_rd (rd_fieldAddr rfl (fa_76_4 _))) ?_
    refine ga_first 3 (bm 11 15) rfl rfl rfl rfl (by kernel_rfl) (by kernel_rfl) ⟨[0, 1, 2, 3, 4], by decide, rfl⟩ (qt_rd (rd_load Try.underlying25 rfl rfl (by exact ld_blk 0 rfl rfl))) ?_
    refine ga_first 4 (bm 11 31) rfl rfl rfl rfl (by kernel_rfl) (by kernel_rfl) ⟨[0, 1, 2, 3, 4], by decide, rfl⟩ (qt_rd (rd_move rfl)) ?_
    refine ga_first 5 (bm 11 63) rfl rfl rfl rfl (by kernel_rfl) (by kernel_rfl) ⟨[0, 1, 2, 3, 4], by decide, rfl⟩ (qt_rd (rd_nilCheck rfl)) ?_
    refine ga_first 6 (bm 11 127) rfl rfl rfl rfl (by kernel_rfl) (by kernel_rfl) ⟨[0, 1, 2, 3, 4], by decide, rfl⟩ (qt_rd (rd_fieldAddr rfl (fa_76_5 _))) ?_
    refine ga_first 7 (bm 11 255) rfl rfl rfl rfl (by kernel_rfl) (by kernel_rfl) ⟨[0, 1, 2, 3, 4], by decide, rfl⟩ (qt_rd (rd_load Try.underlying2 rfl rfl (by exact ld_blk 0 rfl rfl))) ?_
    refine ga_first 8 (bm 11 511) rfl rfl rfl rfl (by kernel_rfl) (by kernel_rfl) ⟨[0, 1, 2, 3, 4], by decide, rfl⟩ (qt_rd (rd_assign rfl)) ?_
    refine ga_first 9 (bm 11 1023) rfl rfl rfl rfl (by kernel_rfl) (by kernel_rfl) ⟨[0, 1, 2, 3, 4], by decide, rfl⟩ (qt_rd (rd_assign rfl)) ?_
    refine ga_first 10 (bm 11 2047) rfl rfl rfl rfl (by kernel_rfl) (by kernel_rfl) ⟨[0, 1, 2, 3, 4], by decide, rfl⟩ (qt_rd (rd_assign rfl)) ?_
    refine ga_end (by kernel_rfl) (.inr ⟨[0, 1, 2, 3, 4], by decide, rfl⟩) ?_
    refine gx_then <| gc_ret <| gx_ret3 (.inl rfl) Try.results20 rfl rfl rfl [3] (by decide) ?_
    refine .inr ⟨planE_0 hch (by rw [List.length_map]; omega) hs (by rw [hn]; exact hb9), g, rb2, cb2, by rw [hn]; exact hbo, ?_, rfl⟩
    rw [hn]; rfl
  refine gl_op <| op_rd rfl (rd_not rfl) <| gl_nil <| gx_then <| gc_cond_t rfl <| gc_seq <| gc_region <| gl_op <| op_rd rfl (rd_assign rfl) <| gl_op <| op_rd rfl (rd_assign rfl) <| gl_op <| op_rd rfl (rd_assign rfl) <| gl_nil <| gx_then <| gc_ret <| gx_then_ret <| gx_ret3 (.inl rfl) Try.results20 rfl rfl rfl [] (by decide) ?_
  exact .inl ⟨by rw [planE_2 hch (by rw [List.length_map]; omega) hs]; omega, by rw [planE_2 hch (by rw [List.length_map]; omega) hs], rfl⟩
end Go.Proofs.Ytafmcflggikbfaa
namespace Go.Wk
open Go.Gv
open Go.Sn
/-- a schedule, all jobs placed -/
def allP (l : List Jb) (s : List Nat) : Plc := ⟨s, List.replicate l.length true⟩
structure Fit (shop : List Int) (l : List Jb) (s : List Nat) : Prop where
  len : s.length = l.length
  aft : ∀ i, i < l.length → aft l s i ≤ s.getD i 0
  cnt : ∀ i, i < l.length → ∀ h, s.getD i 0 ≤ h → h < s.getD i 0 + hr l i → (cntA l (allP l s) (bn l i) h : Int) ≤ sb shop (bn l i)
theorem allP_pl {l : List Jb} {s : List Nat} {i : Nat} (hi : i < l.length) : plB (allP l s) i = true := by
  unfold plB allP
  rw [List.getD_eq_getElem?_getD, List.getElem?_replicate, if_pos hi]; rfl
/-- placed jobs are nowhere later than s, and no job that is left begins earlier in s -/
structure Und (l : List Jb) (s : List Nat) (p : Plc) : Prop where
  le : ∀ j, j < l.length → plB p j = true → atN p j ≤ s.getD j 0
  down : ∀ j i, j < l.length → i < l.length → plB p j = true → plB p i = false → s.getD j 0 ≤ s.getD i 0
end Go.Wk
namespace Go.Wk
open Go.Gv
open Go.Sn
/-! # What Plan returns is best, and fits -/
theorem p0_no (l : List Jb) (i : Nat) : plB (p0 l) i = false := by
  unfold plB p0
  rw [List.getD_eq_getElem?_getD, List.getElem?_replicate]
  split <;> rfl
structure FeaP (shop : List Int) (l : List Jb) (p : Plc) : Prop where
  cnt : ∀ b h, (cntA l p b h : Int) ≤ sb shop b
  pre : ∀ i, i < l.length → plB p i = true → ∀ q ∈ preOf l i, plB p q = true
  aft : ∀ i, i < l.length → plB p i = true → aft l p.at_ i ≤ atN p i
theorem cnt_put_eq {l : List Jb} {p : Plc} {i t : Nat} (hla : p.at_.length = l.length) (hli : p.is.length = l.length) (hi : i < l.length) (hp : plB p i = false) (b h : Nat) : cntA l (pput p i t) b h ≤ cntA l p b h + if bn l i = b ∧ t ≤ h ∧ h < t + hr l i then 1 else 0 := by
  have hx : ∀ x, x ≠ i → runQ l (pput p i t) b h x = runQ l p b h x := fun x hx => by
    unfold runQ
    rw [plB_put (by omega), atN_put (by omega), if_neg (fun e => hx e.symm), decide_eq_false (fun e => hx e.symm), Bool.false_or]
  have h0 : runQ l p b h i = false := by unfold runQ; rw [hp]; rfl
  unfold cntA cntQ
  by_cases hc : bn l i = b ∧ t ≤ h ∧ h < t + hr l i
  · rw [if_pos hc]
    have h1 : runQ l (pput p i t) b h i = true := by
      unfold runQ
      rw [plB_put (by omega), atN_put (by omega), if_pos rfl, decide_eq_true rfl, decide_eq_true hc.1, decide_eq_true hc.2.1, decide_eq_true hc.2.2]; rfl
    exact Nat.le_of_eq (filter_one (a := i) List.nodup_range (List.mem_range.2 hi) h1 h0 hx)
  · rw [if_neg hc, Nat.add_zero]
    refine filt_le _ fun x hxm hf => ?_
    by_cases e : x = i
    · subst e
      exfalso
      unfold runQ at hf
      rw [plB_put (by omega), atN_put (by omega), if_pos rfl] at hf
      simp only [Bool.and_eq_true, decide_eq_true_eq] at hf
      exact hc ⟨hf.1.1.2, hf.1.2, hf.2⟩
    · rw [← hx x e]; exact hf
theorem place_free {shop : List Int} {l : List Jb} {p : Plc} {i : Nat} (hs : (placeO shop l p i).isSome = true) : Free shop l p i (placeF shop l p i) ∧ aftP1 l p i ≤ placeF shop l p i := by
  obtain ⟨b, hb⟩ := Option.isSome_iff_exists.1 hs
  have h := bestF_is (freeB shop l p i) (cand l p i l.length)
  unfold placeF
  rw [hb]
  unfold placeO at hb
  rw [hb] at h
  refine ⟨freeB_iff.1 h.2.1, ?_⟩
  rcases List.mem_cons.1 h.1 with e | hm
  · rw [Option.getD_some, e]; exact Nat.le_refl _
  · unfold candS at hm
    obtain ⟨q, hq, he⟩ := List.mem_map.1 hm
    have := (List.mem_filter.1 hq).2
    simp only [Bool.and_eq_true, decide_eq_true_eq] at this
    rw [Option.getD_some]; omega
theorem FeaP.next {shop : List Int} {l : List Jb} (hj : JOk l) (hsh : ∀ i, i < l.length → 1 ≤ sb shop (bn l i)) {r : Nat} {p : Plc} (h : PlOk l (r + 1) p) (hf : FeaP shop l p) {i : Nat} (hi : i < l.length) (hrd : readyB l p i = true) : FeaP shop l (nextP shop l p i) := by
  obtain ⟨h1, h2⟩ := ready_of hrd
  obtain ⟨hfr, hge⟩ := place_free (place_some (shop := shop) (p := p) (hsh i hi) fun k hk => (hj.hrs k hk).1)
  have hli : i < p.is.length := by rw [h.li]; exact hi
  have hla : i < p.at_.length := by rw [h.la]; exact hi
  refine ⟨fun b hh => ?_, fun j hjl hp q hq => ?_, fun j hjl hp => ?_⟩
  · have e1 := cnt_put_eq (t := placeF shop l p i) h.la h.li hi h1 b hh
    have e2 := hf.cnt b hh
    unfold nextP
    split at e1
    · rename_i hc
      have e3 := hfr hh hc.2.1 hc.2.2
      rw [hc.1] at e3
      omega
    · omega
  · unfold nextP at hp ⊢
    rw [plB_put hli] at hp ⊢
    by_cases e : i = j
    · subst e; rw [h2 q hq, Bool.or_true]
    · rw [decide_eq_false e, Bool.false_or] at hp
      rw [hf.pre j hjl hp q hq, Bool.or_true]
  · unfold nextP at hp ⊢
    rw [plB_put hli] at hp
    have hsame : ∀ q ∈ preOf l j, (pput p i (placeF shop l p i)).at_.getD q 0 = p.at_.getD q 0 := fun q hq => by
      have hpq : plB p q = true := by
        by_cases e : i = j
        · subst e; exact h2 q hq
        · rw [decide_eq_false e, Bool.false_or] at hp
          exact hf.pre j hjl hp q hq
      have hne : i ≠ q := fun e => by rw [e, hpq] at h1; cases h1
      have := atN_put (t := placeF shop l p i) hla q
      rw [if_neg hne] at this
      exact this
    rw [aft_congr hsame, atN_put hla]
    split
    · rename_i e; subst e; exact hge
    · rename_i e
      rw [decide_eq_false e, Bool.false_or] at hp
      exact hf.aft j hjl hp
theorem FeaP.start {shop : List Int} {l : List Jb} (hsh : ∀ b, 0 ≤ sb shop b) : FeaP shop l (p0 l) := by
  refine ⟨fun b h => ?_, fun i _ hp => (by rw [p0_no] at hp; cases hp), fun i _ hp => (by rw [p0_no] at hp; cases hp)⟩
  have : cntA l (p0 l) b h = 0 := by
    unfold cntA cntQ
    rw [List.length_eq_zero_iff, List.filter_eq_nil_iff]
    intro k _ hk
    unfold runQ at hk
    rw [p0_no] at hk; cases hk
  have := hsh b
  omega
/-! ## schedules asL the program sees them -/
theorem crowd_cast (l : List Jb) (s : List Nat) (b h : Nat) : crowdI l (castL s) b (h : Int) = cntA l (allP l s) b h := by
  unfold crowdI crowdP cntA cntQ
  congr 1
  apply List.filter_congr
  intro i hi
  have hi := List.mem_range.1 hi
  unfold runB runQ
  rw [castL_get, allP_pl hi]
  have : atN (allP l s) i = s.getD i 0 := rfl
  rw [this]
  simp only [Bool.true_and]
  congr 1
  · congr 1
    rw [decide_eq_decide]; omega
  · rw [decide_eq_decide]; omega
theorem fit_wrong {shop : List Int} {l : List Jb} {s : List Nat} (hs : Fit shop l s) (hb : ∀ i, i < l.length → bn l i < shop.length) : ∀ j, j < l.length → wrongB shop l (castL s) j = false := fun j hj => by
  unfold wrongB
  have h1 := hs.aft j hj
  have hbn := hb j hj
  rw [castL_get, aftI_cast]
  have hc : crowdedI shop l (castL s) j = false := by
    unfold crowdedI
    rw [List.any_eq_false]
    intro k _ hk
    unfold crR at hk
    simp only [castL_get, Bool.and_eq_true, decide_eq_true_eq] at hk
    obtain ⟨⟨h2, h3⟩, h4⟩ := hk
    rw [crowd_cast] at h4
    have := hs.cnt j hj (s.getD k 0) (by omega) (by omega)
    omega
  rw [hc]
  simp only [Bool.or_false, Bool.or_eq_false_iff, decide_eq_false_iff_not]
  exact ⟨⟨by omega, by omega⟩, by omega⟩
theorem wrong_fit {shop : List Int} {l : List Jb} {s : List Nat} (hlen : s.length = l.length) (h : ∀ j, j < l.length → wrongB shop l (castL s) j = false) : Fit shop l s := by
  have hd : ∀ j, j < l.length → ¬ ((s.getD j 0 : Nat) : Int) < ((aft l s j : Nat) : Int) ∧ crowdedI shop l (castL s) j = false := fun j hj => by
    have := h j hj
    unfold wrongB at this
    rw [castL_get, aftI_cast] at this
    simp only [Bool.or_eq_false_iff, decide_eq_false_iff_not] at this
    exact ⟨this.1.1.2, this.2⟩
  refine ⟨hlen, fun i hi => by have := (hd i hi).1; omega, fun i hi h' h1 h2 => ?_⟩
  -- the last beginning up to h'
  have key : ∃ k, k < l.length ∧ s.getD i 0 ≤ s.getD k 0 ∧ s.getD k 0 ≤ h' ∧ ∀ q, q < l.length → s.getD q 0 ≤ h' → s.getD q 0 ≤ s.getD k 0 := by
    have aux : ∀ m, m ≤ l.length → ∃ k, k < l.length ∧ s.getD i 0 ≤ s.getD k 0 ∧ s.getD k 0 ≤ h' ∧ ∀ q, q < m → s.getD q 0 ≤ h' → s.getD q 0 ≤ s.getD k 0 := by
      intro m
      induction m with
      | zero => exact fun _ => ⟨i, hi, Nat.le_refl _, h1, fun q hq => absurd hq (Nat.not_lt_zero q)⟩
      | succ m ih =>
        intro hm
        obtain ⟨k, a1, a2, a3, a4⟩ := ih (by omega)
        by_cases hc : s.getD m 0 ≤ h' ∧ s.getD k 0 < s.getD m 0
        · refine ⟨m, by omega, by omega, hc.1, fun q hq hle => ?_⟩
          rcases Nat.lt_or_eq_of_le (Nat.le_of_lt_succ hq) with h9 | rfl
          · have := a4 q h9 hle; omega
          · exact Nat.le_refl _
        · refine ⟨k, a1, a2, a3, fun q hq hle => ?_⟩
          rcases Nat.lt_or_eq_of_le (Nat.le_of_lt_succ hq) with h9 | rfl
          · exact a4 q h9 hle
          · apply Classical.byContradiction
            intro hno
            exact hc ⟨hle, by omega⟩
    exact aux l.length (Nat.le_refl _)
  obtain ⟨k, a1, a2, a3, a4⟩ := key
  have hc := (hd i hi).2
  unfold crowdedI at hc
  rw [List.any_eq_false] at hc
  have hk := hc k (List.mem_range.2 a1)
  unfold crR at hk
  simp only [castL_get, Bool.and_eq_true, decide_eq_true_eq, not_and] at hk
  have h3 := hk ⟨by omega, by omega⟩
  rw [crowd_cast] at h3
  have h4 := cnt_le_of (l := l) (p := allP l s) (b := bn l i) a3 fun q hq _ _ hle => a4 q hq hle
  omega
end Go.Wk
namespace Go.Wk
open Go.Gv
open Go.Sn
/-! # The earliest schedule; critical jobs -/
theorem earlC_aft {l : List Jb} (hg : GoodJ l) {i : Nat} (hi : i < l.length) : aft l (earlC l) i = (earlC l).getD i 0 := by
  obtain ⟨o, ho, hf⟩ := hg.ord
  rw [← earlC_eq hg ho]
  exact (earl_fix ho (full_of_len ho.nodup ho.lt hf i hi)).symm
theorem earlC_least {l : List Jb} (hg : GoodJ l) {s : List Nat} (hs : ∀ i, i < l.length → aft l s i ≤ s.getD i 0) : ∀ i, i < l.length → (earlC l).getD i 0 ≤ s.getD i 0 := by
  obtain ⟨o, ho, hf⟩ := hg.ord
  have key : ∀ (k i : Nat), o[k]? = some i → (earlC l).getD i 0 ≤ s.getD i 0 := by
    intro k
    induction k using Nat.strongRecOn with
    | _ k ih =>
      intro i hk
      have hil := ho.lt i (List.mem_of_getElem? hk)
      rw [← earlC_aft hg hil]
      refine Nat.le_trans (aft_mono fun p hp => ?_) (hs i hil)
      have h1 := ho.topo k i hk p hp
      obtain ⟨m, hm⟩ := List.getElem?_of_mem h1
      rw [List.getElem?_take] at hm
      split at hm
      · rename_i hmk; exact ih m hmk p hm
      · cases hm
  intro i hi
  obtain ⟨k, hk⟩ := List.getElem?_of_mem (full_of_len ho.nodup ho.lt hf i hi)
  exact key k i hk
theorem earlC_fit {shop : List Int} {l : List Jb} (hg : GoodJ l) (hs : ∀ i, i < l.length → (l.length : Int) ≤ sb shop (bn l i)) : Fit shop l (earlC l) :=
  ⟨earlC_len l, fun i hi => Nat.le_of_eq (earlC_aft hg hi), fun i hi h _ _ => by
    have h1 := cntQ_le l (allP l (earlC l)) (bn l i) h l.length
    have h2 := hs i hi
    unfold cntA
    omega⟩
theorem critC_mem {l : List Jb} {k : Nat} : k ∈ critC l ↔ k < l.length ∧ (earlC l).getD k 0 = (latC l).getD k 0 := by
  unfold critC critF
  simp
theorem critC_ne {l : List Jb} (hg : GoodJ l) (hn : 0 < l.length) : 0 < (critC l).length := by
  -- the job that ends last is critical
  have hex : ∃ k, k < l.length ∧ (earlC l).getD k 0 + hr l k = endC l := by
    apply Classical.byContradiction
    intro hno
    have h1 : endF l (earlC l) ≤ endC l - 1 := endF_le.2 fun i hi => by
      have h2 := le_endF (l := l) (g := earlC l) hi
      have h3 : (earlC l).getD i 0 + hr l i ≠ endC l := fun e => hno ⟨i, hi, e⟩
      unfold endC at h3 ⊢
      omega
    have h4 := le_endF (l := l) (g := earlC l) hn
    have h5 := (hg.ok.hrs 0 hn).1
    unfold endC at h1
    omega
  obtain ⟨k, hk, he⟩ := hex
  have hB := latC_LBq hg
  have h1 := hB.1 k hk
  have h2 := hB.2 k hk
  exact List.length_pos_of_mem (critC_mem.2 ⟨hk, by omega⟩)
where
  latC_LBq {l : List Jb} (hg : GoodJ l) : (∀ i, i < l.length → (earlC l).getD i 0 ≤ (latC l).getD i 0) ∧ ∀ i, i < l.length → (latC l).getD i 0 + hr l i ≤ endC l := by
    obtain ⟨o, ho, hf⟩ := hg.ord
    have hE := earl_low ho hf
    rw [earlC_eq hg ho] at hE
    have hP := latK_PL hg.ok ho hE
    have e : latK l o (endF l (earlC l)) = latC l := latC_eq hg ho
    rw [e] at hP
    exact ⟨fun i _ => hP.great _ hE i, hP.hi⟩
/-- critical or not, in the law's words -/
theorem crit_law {l : List Jb} (hg : GoodJ l) {k : Nat} (hk : k < l.length) : k ∈ critC l ↔ endC l < endF l (lateF l (earlC l) k) := by
  obtain ⟨o, ho, hf⟩ := hg.ord
  have h := crit_iff hg.ok ho hf hk
  rw [earlC_eq hg ho] at h
  have e : latK l o (endF l (earlC l)) = latC l := latC_eq hg ho
  rw [e] at h
  rw [critC_mem]
  exact ⟨fun h1 => h.1 h1.2, fun h1 => ⟨hk, h.2 h1⟩⟩
end Go.Wk
namespace Go.Wk
open Go.Gv
open Go.Sn
/-! # The example of the document, computed -/
def exJ (b : Nat) : List JI := [⟨⟨#[99, 97, 115, 116]⟩, 0, 4, none, 0, []⟩, ⟨⟨#[112, 108, 97, 110, 101]⟩, 1, 3, some ⟨b, 0, none⟩, 1, [(0, 20)]⟩, ⟨⟨#[99, 97, 115, 101]⟩, 1, 10, none, 0, []⟩]
def exN (b : Nat) : List Jb := [⟨⟨#[99, 97, 115, 116]⟩, 0, 4, none, 0, []⟩, ⟨⟨#[112, 108, 97, 110, 101]⟩, 1, 3, some ⟨b, 0, none⟩, 1, [(0, 20)]⟩, ⟨⟨#[99, 97, 115, 101]⟩, 1, 10, none, 0, []⟩]
theorem ex_nOf (b : Nat) : nOf (exJ b) = exN b := by kernel_rfl
theorem ex_check (b : Nat) : checkE (exJ b) = 0 := by kernel_rfl
theorem ex_earl (b : Nat) : earlC (exN b) = [0, 24, 0] := by kernel_rfl
theorem ex_end (b : Nat) : endC (exN b) = 27 := by kernel_rfl
theorem ex_crit (b : Nat) : critC (exN b) = [0, 1] := by kernel_rfl
theorem ex_plan (b : Nat) : planO [1, 1] (exN b) = some [0, 24, 0] := by kernel_rfl
theorem ex_pend (b : Nat) : endF (exN b) [0, 24, 0] = 27 := by kernel_rfl
theorem ex_wrong (b : Nat) : wrongP [1, 1] (exN b) [0, 24, 15] = 1 := by kernel_rfl
theorem ex_bad (b : Nat) : badAts (exN b) [0, 24, 15] = false := by kernel_rfl
end Go.Wk
namespace Go.Proofs.Ytafmcflggikbfaa
open Go.Gv
open Go.RowKit
open Go.Sn
open Go.Wk
open Sx
namespace Sx
theorem ex_le (b : Nat) : JsLe (exJ b) := by
  refine ⟨by show 3 ≤ _; decide, fun x hx => ?_, fun x hx => ?_⟩
  · simp only [exJ, List.mem_cons, List.not_mem_nil, or_false] at hx
    rcases hx with rfl | rfl | rfl <;> first | decide | (show (1 : Nat) ≤ _; decide) | (show (5 : Nat) ≤ _; decide)
  · simp only [exJ, List.mem_cons, List.not_mem_nil, or_false] at hx
    rcases hx with rfl | rfl | rfl <;> first | decide | (show (1 : Nat) ≤ _; decide) | (show (5 : Nat) ≤ _; decide)
theorem ex_in {w : World} {b6 b : Nat} (h6 : OldSl w [] (rowA (some b6)) 3 4 ((exJ b).flatMap JI.cells)) (h3 : OldSl w [] (rowA (some b)) 1 2 ([((0 : Int), (20 : Int))].flatMap lagC)) : JsIn (rowA (some b6)) (exJ b) w [] := by
  refine ⟨h6, fun x hx => ?_⟩
  simp only [exJ, List.mem_cons, List.not_mem_nil, or_false] at hx
  rcases hx with rfl | rfl | rfl
  · exact oldNil w [] 2
  · exact h3
  · exact oldNil w [] 2
theorem ex_EarlR {t : TypeId} {b : Nat} {v : Value} {L : List HL} (h : EarlR t (exJ b) v L) : ∃ b9, v = .tuple #[.slice (rowA (some b9)) 3 3, .int .i64 0] ∧ L = [.row t 1 (some b9) 3 3 (([0, 24, 0] : List Int).map intV)] := by
  rcases h with ⟨h, _⟩ | ⟨_, b9, hv, hL⟩
  · exact absurd (ex_check b) h
  · rw [ex_nOf] at hv hL
    rw [ex_earl] at hL
    exact ⟨b9, hv, hL⟩
theorem ex_CritR {t : TypeId} {b : Nat} {v : Value} {L : List HL} (h : CritR t (exJ b) v L) : ∃ r c, v = .tuple #[.slice (rowA r) 2 c, .int .i64 27, .int .i64 0] ∧ L = [.row t 1 r 2 c (([0, 1] : List Int).map intV)] := by
  rcases h with ⟨h, _⟩ | ⟨_, r, c, hv, hL⟩
  · exact absurd (ex_check b) h
  · rw [ex_nOf, ex_crit] at hv hL
    rw [ex_end] at hv
    exact ⟨r, c, hv, hL⟩
theorem ex_fits (b : Nat) : fitsV [1, 1] (exJ b) [0, 24, 15] = .tuple #[.bool false, .int .i64 1, .int .i64 0] := by
  unfold fitsV
  rw [if_neg (by rw [ex_check]; decide), ex_nOf, if_neg (by rw [ex_bad]; decide), ex_wrong]
  rfl
theorem ex_planE (b : Nat) : planE [1, 1] (exJ b) = 0 := planE_0 (ex_check b) (by show 3 ≤ 7; decide) (by decide) (by rw [ex_nOf]; rfl)
theorem ex_PlanR {t : TypeId} {b : Nat} {v : Value} {L : List HL} (h : PlanR t [1, 1] (exJ b) v L) : ∃ r c, v = .tuple #[.slice (rowA r) 3 c, .int .i64 27, .int .i64 0] ∧ L = [.row t 1 r 3 c (([0, 24, 0] : List Int).map intV)] := by
  rcases h with ⟨h, _⟩ | ⟨_, g, r, c, hg, hv, hL⟩
  · exact absurd (ex_planE b) h
  · rw [ex_nOf] at hg hv
    rw [ex_plan] at hg
    have := (Option.some.inj hg).symm
    subst this
    rw [ex_pend] at hv
    exact ⟨r, c, hv, hL⟩
theorem ex_planE1 (b : Nat) : planE [1] (exJ b) = 4 := planE_4 (ex_check b) (by show 3 ≤ 7; decide) (by decide) (by rw [ex_nOf]; rfl)
theorem ex_PlanR1 {t : TypeId} {b : Nat} {v : Value} {L : List HL} (h : PlanR t [1] (exJ b) v L) : v = .tuple #[.slice none 0 0, .int .i64 0, .int .i64 4] ∧ L = [] := by
  rcases h with ⟨_, hv, hL⟩ | ⟨h, _⟩
  · rw [ex_planE1] at hv
    exact ⟨hv, hL⟩
  · rw [ex_planE1] at h; cases h
end Sx
open Sx
set_option maxRecDepth 100000 in
set_option maxHeartbeats 1000000 in
theorem example_ok (w0 : World) : Sp Try.prog 25 [] w0 [] (fun v L => ∃ b6 b3, v = .slice (rowA (some b6)) 3 3 ∧ L = [.row 48 4 (some b6) 3 3 ((exJ b3).flatMap JI.cells), .row 50 2 (some b3) 1 1 ([((0 : Int), (20 : Int))].flatMap lagC)]) := by
  refine spec_enter Try.func25 rfl Try.ntmps25 rfl (Own.refl _) ?_
  simp only [argEnv]
  refine gc_seq <| gc_region <| gl_op <| op_rd rfl (rd_assign rfl) <| gl_nil <| gx_then <| gc_seq <| gc_region <| gl_op (op_rd rfl (rd_build rfl (fun _ => bd_48_0_1_2 _ _ _)) ?_)
  refine gl_op (op_rd rfl (rd_build rfl (fun _ => bd_50_0_1 _ _)) ?_)
  refine gl_op (op_buildSlice (sz := 2) rfl rfl (fun _ => bs_46_1_0 _ _) rfl rfl (fun b3 => ?_))
  refine gl_op (op_rd rfl (rd_build rfl (fun _ => bd_48_0_1_2_3 _ _ _ _ _ _)) ?_)
  refine gl_op (op_rd rfl (rd_build rfl (fun _ => bd_48_0_1_2 _ _ _)) ?_)
  refine gl_op (op_buildSlice (sz := 4) rfl rfl (fun _ => bs_22_3_0_1_2 _ _ _ _ _ _ _ _ _ _ _ _ _ _ _ _ _ _) rfl rfl (fun b6 => ?_))
  refine gl_op <| op_rd rfl (rd_assign rfl) <| gl_nil <| gx_then <| gc_ret <| gx_ret1 (.inl rfl) Try.results25 rfl [0, 1] (by decide) ?_
  exact ⟨b6, b3, rfl, rfl⟩
set_option maxRecDepth 100000 in
set_option maxHeartbeats 1000000 in
theorem shown_ok (w0 : World) : Sp Try.prog 9 [] w0 [] (RV (.bool true)) := by
  refine spec_enter Try.func9 rfl Try.ntmps9 rfl (Own.refl _) ?_
  simp only [argEnv]
  refine gc_seq <| gc_region <| gl_op <| op_rd rfl (rd_assign rfl) <| gl_nil <| gx_then <| gc_seq <| gc_region <| gl_op (op_call rfl (vf := []) (vc := []) rfl rfl Try.call25 (fun w1 ho => example_ok w1) ?_)
  rintro _ _ ⟨b6, b3, rfl, rfl⟩
  refine gl_op <| op_rd rfl (rd_assign rfl) <| gl_nil <| gx_then <| gc_seq <| gc_region <| gl_op <| op_rd rfl (rd_move rfl) <| gl_op (op_call rfl (vf := []) (vc := []) rfl rfl Try.call10 (fun w1 ho => (Earliest_ok (rowA (some b6)) 3 (exJ b3) (ex_le b3)  w1 (ex_in (ho.rowSl 0 rfl) (ho.rowSl 1 rfl))).mono fun v L h => ex_EarlR h) ?_)
  rintro _ _ ⟨b19, rfl, rfl⟩
  refine gl_op <| op_rd rfl (rd_move rfl) <| gl_op <| op_rd rfl (rd_extract rfl rfl) <| gl_op <| op_rd rfl (rd_extract rfl rfl) <| gl_op <| op_rd rfl (rd_assign rfl) <| gl_op <| op_rd rfl (rd_assign rfl) <| gl_nil <| gx_then <| gc_seq <| gc_region <| gl_op <| op_rd rfl (rd_move rfl) <| gl_op (op_call rfl (vf := []) (vc := []) rfl rfl Try.call12 (fun w1 ho => (Critical_ok (rowA (some b6)) 3 (exJ b3) (ex_le b3)  w1 (ex_in (ho.rowSl 1 rfl) (ho.rowSl 2 rfl))).mono fun v L h => ex_CritR h) ?_)
  rintro _ _ ⟨r24, c24, rfl, rfl⟩
  refine gl_op <| op_rd rfl (rd_move rfl) <| gl_op <| op_rd rfl (rd_extract rfl rfl) <| gl_op <| op_rd rfl (rd_extract rfl rfl) <| gl_op <| op_rd rfl (rd_extract rfl rfl) <| gl_op <| op_rd rfl (rd_assign rfl) <| gl_op <| op_rd rfl (rd_assign rfl) <| gl_op <| op_rd rfl (rd_assign rfl) <| gl_nil <| gx_then <| gc_seq <| gc_region <| gl_op (op_buildSlice (sz := 1) rfl rfl (fun _ => bs_29_2_0_1 _ _) rfl rfl (fun b29 => ?_))
  refine gl_op <| op_rd rfl (rd_move rfl) <| gl_op (op_buildSlice (sz := 1) rfl rfl (fun _ => bs_25_3_0_1_2 _ _ _) rfl rfl (fun b31 => ?_))
  refine gl_op (op_call rfl (vf := []) (vc := []) rfl rfl Try.call18 (fun w1 ho => by
    have h9 := Fits_ok (rowA (some b6)) 3 (exJ b3) (ex_le b3) (rowA (some b29)) 2 [1, 1] (by decide) (rowA (some b31)) 3 [0, 24, 15] (by decide) w1 (ex_in (ho.rowSl 4 rfl) (ho.rowSl 5 rfl)) (ho.rowSl 1 rfl) (ho.rowSl 0 rfl)
    rw [ex_fits] at h9
    exact h9) ?_)
  rintro _ _ ⟨rfl, rfl⟩
  refine gl_op <| op_rd rfl (rd_move rfl) <| gl_op <| op_rd rfl (rd_extract rfl rfl) <| gl_op <| op_rd rfl (rd_extract rfl rfl) <| gl_op <| op_rd rfl (rd_extract rfl rfl) <| gl_op <| op_rd rfl (rd_assign rfl) <| gl_op <| op_rd rfl (rd_assign rfl) <| gl_op <| op_rd rfl (rd_assign rfl) <| gl_nil <| gx_then <| gc_seq <| gc_region <| gl_op (op_buildSlice (sz := 1) rfl rfl (fun _ => bs_29_2_0_1 _ _) rfl rfl (fun b37 => ?_))
  refine gl_op <| op_rd rfl (rd_move rfl) <| gl_op (op_call rfl (vf := []) (vc := []) rfl rfl Try.call20 (fun w1 ho => (Plan_ok (rowA (some b6)) 3 (exJ b3) (ex_le b3) (rowA (some b37)) 2 [1, 1] (by decide) w1 (ex_in (ho.rowSl 5 rfl) (ho.rowSl 6 rfl)) (ho.rowSl 0 rfl)).mono fun v L h => ex_PlanR h) ?_)
  rintro _ _ ⟨r39, c39, rfl, rfl⟩
  refine gl_op <| op_rd rfl (rd_move rfl) <| gl_op <| op_rd rfl (rd_extract rfl rfl) <| gl_op <| op_rd rfl (rd_extract rfl rfl) <| gl_op <| op_rd rfl (rd_extract rfl rfl) <| gl_op <| op_rd rfl (rd_assign rfl) <| gl_op <| op_rd rfl (rd_assign rfl) <| gl_op <| op_rd rfl (rd_assign rfl) <| gl_nil <| gx_then <| gc_seq <| gc_region <| gl_op (op_buildSlice (sz := 1) rfl rfl (fun _ => bs_29_1_0 _) rfl rfl (fun b44 => ?_))
  refine gl_op <| op_rd rfl (rd_move rfl) <| gl_op (op_call rfl (vf := []) (vc := []) rfl rfl Try.call20 (fun w1 ho => (Plan_ok (rowA (some b6)) 3 (exJ b3) (ex_le b3) (rowA (some b44)) 1 [1] (by decide) w1 (ex_in (ho.rowSl 7 rfl) (ho.rowSl 8 rfl)) (ho.rowSl 0 rfl)).mono fun v L h => ex_PlanR1 h) ?_)
  rintro _ _ ⟨rfl, rfl⟩
  refine gl_op <| op_rd rfl (rd_move rfl) <| gl_op <| op_rd rfl (rd_extract rfl rfl) <| gl_op <| op_rd rfl (rd_extract rfl rfl) <| gl_op <| op_rd rfl (rd_extract rfl rfl) <| gl_op <| op_rd rfl (rd_assign rfl) <| gl_op <| op_rd rfl (rd_assign rfl) <| gl_op <| op_rd rfl (rd_assign rfl) <| gl_nil <| gx_then <| gc_seq <| gc_seq <| gc_region <| gl_op <| op_rd rfl (rd_move rfl) <| gl_op (op_rd rfl (rd_neq rfl rfl) (gk_dec (fun hd1 => ?_) (fun hd1 => ?_)))
  · exfalso; omega
  refine gl_op <| op_rd rfl (rd_move rfl) <| gl_yes rfl rfl <| op_rd rfl (rd_move rfl) <| gl_yes rfl rfl (op_rd rfl (rd_neq rfl rfl) (gk_dec (fun hd2 => ?_) (fun hd2 => ?_)))
  · exfalso; omega
  refine gl_op <| op_rd rfl (rd_pick_f rfl rfl) <| gl_op <| op_rd rfl (rd_move rfl) <| gl_yes rfl rfl <| op_rd rfl (rd_move rfl) <| gl_yes rfl rfl (op_rd rfl (rd_neq rfl rfl) (gk_dec (fun hd3 => ?_) (fun hd3 => ?_)))
  · exfalso; omega
  refine gl_op <| op_rd rfl (rd_pick_f rfl rfl) <| gl_op <| op_rd rfl (rd_move rfl) <| gl_yes rfl rfl <| op_rd rfl (rd_move rfl) <| gl_yes rfl rfl (op_rd rfl (rd_neq rfl rfl) (gk_dec (fun hd4 => ?_) (fun hd4 => ?_)))
  · exfalso; omega
  refine gl_op <| op_rd rfl (rd_pick_f rfl rfl) <| gl_op <| op_rd rfl (rd_move rfl) <| gl_yes rfl rfl <| op_rd rfl (rd_move rfl) <| gl_yes rfl rfl (op_rd rfl (rd_neq rfl rfl) (gk_dec (fun hd5 => ?_) (fun hd5 => ?_)))
  · exfalso; omega
  refine gl_op <| op_rd rfl (rd_pick_f rfl rfl) <| gl_op <| op_rd rfl (rd_move rfl) <| gl_yes rfl rfl <| op_rd rfl (rd_move rfl) <| gl_op <| op_rd rfl (rd_pick_f rfl rfl) <| gl_op <| op_rd rfl (rd_move rfl) <| gl_yes rfl rfl <| op_rd rfl (rd_move rfl) <| gl_yes rfl rfl (op_rd rfl (rd_neq rfl rfl) (gk_dec (fun hd6 => ?_) (fun hd6 => ?_)))
  · exfalso; omega
  refine gl_op <| op_rd rfl (rd_pick_f rfl rfl) <| gl_op <| op_rd rfl (rd_move rfl) <| gl_yes rfl rfl <| op_rd rfl (rd_move rfl) <| gl_yes rfl rfl (op_rd rfl (rd_neq rfl rfl) (gk_dec (fun hd7 => ?_) (fun hd7 => ?_)))
  · exfalso; omega
  refine gl_op <| op_rd rfl (rd_pick_f rfl rfl) <| gl_op <| op_rd rfl (rd_move rfl) <| gl_yes rfl rfl <| op_rd rfl (rd_move rfl) <| gl_yes rfl rfl (op_rd rfl (rd_neq rfl rfl) (gk_dec (fun hd8 => ?_) (fun hd8 => ?_)))
  · exfalso; omega
  refine gl_op <| op_rd rfl (rd_pick_f rfl rfl) <| gl_nil <| gx_then <| gc_cond_f rfl <| gc_skip <| gx_then <| gc_seq <| gc_region <| gl_op <| op_rd rfl (rd_move rfl) <| gl_op (op_buildSlice (sz := 1) rfl rfl (fun _ => bs_25_3_0_1_2 _ _ _) rfl rfl (fun b84 => ?_))
  refine gl_op (op_call rfl (vf := []) (vc := []) rfl rfl Try.call16 (fun w1 ho => SameHours_ok (rowA (some b19)) 3 (rowA (some b84)) 3 [0, 24, 0] (by decide) w1 (ho.rowSl 7 rfl) (ho.rowSl 0 rfl)) ?_)
  rintro _ _ ⟨rfl, rfl⟩
  refine gl_op <| op_rd rfl (rd_move rfl) <| gl_yes rfl rfl <| op_rd rfl (rd_move rfl) <| gl_yes rfl rfl (op_buildSlice (sz := 1) rfl rfl (fun _ => bs_29_2_0_1 _ _) rfl rfl (fun b88 => ?_))
  refine gl_yes rfl rfl (op_call rfl (vf := []) (vc := []) rfl rfl Try.call17 (fun w1 ho => SameInts_ok (rowA r24) c24 (rowA (some b88)) 2 [0, 1] (by decide) w1 (ho.rowSl 7 rfl) (ho.rowSl 0 rfl)) ?_)
  rintro _ _ ⟨rfl, rfl⟩
  refine gl_op <| op_rd rfl (rd_pick_t rfl rfl) <| gl_op <| op_rd rfl (rd_move rfl) <| gl_yes rfl rfl <| op_rd rfl (rd_move rfl) <| gl_yes rfl rfl (op_buildSlice (sz := 1) rfl rfl (fun _ => bs_25_3_0_1_2 _ _ _) rfl rfl (fun b93 => ?_))
  refine gl_yes rfl rfl (op_call rfl (vf := []) (vc := []) rfl rfl Try.call16 (fun w1 ho => SameHours_ok (rowA r39) c39 (rowA (some b93)) 3 [0, 24, 0] (by decide) w1 (ho.rowSl 4 rfl) (ho.rowSl 0 rfl)) ?_)
  rintro _ _ ⟨rfl, rfl⟩
  refine gl_op <| op_rd rfl (rd_pick_t rfl rfl) <| gl_op <| op_rd rfl (rd_assign rfl) <| gl_nil <| gx_then <| gc_ret <| gx_ret1 (.inl rfl) Try.results9 rfl [] (by decide) ?_
  exact ⟨rfl, rfl⟩
end Go.Proofs.Ytafmcflggikbfaa
namespace Go.Proofs.Ytafmcflggikbfaa
open Go.Gv
open Go.RowKit
open Go.Sn
open Go.Wk
open Sx
namespace Sx
def earlS (l : List JI) : List Int := if checkE l = 0 then castL (earlC (nOf l)) else []
def critS (l : List JI) : List Int := if checkE l = 0 then castL (critC (nOf l)) else []
def endS (l : List JI) : Int := if checkE l = 0 then (endC (nOf l) : Int) else 0
def planG (shop : List Int) (l : List JI) : List Nat := (planO shop (nOf l)).getD []
def planS (shop : List Int) (l : List JI) : List Int := if planE shop l = 0 then castL (planG shop l) else []
def planT (shop : List Int) (l : List JI) : Int := if planE shop l = 0 then (endF (nOf l) (planG shop l) : Int) else 0
def EarlS (t : TypeId) (l : List JI) (v : Value) (L : List HL) : Prop := ∃ r c, v = .tuple #[.slice (rowA r) (earlS l).length c, .int .i64 (checkE l)] ∧ L = [.row t 1 r (earlS l).length c ((earlS l).map intV)]
def CritS (t : TypeId) (l : List JI) (v : Value) (L : List HL) : Prop := ∃ r c, v = .tuple #[.slice (rowA r) (critS l).length c, .int .i64 (endS l), .int .i64 (checkE l)] ∧ L = [.row t 1 r (critS l).length c ((critS l).map intV)]
def PlanS (t : TypeId) (shop : List Int) (l : List JI) (v : Value) (L : List HL) : Prop := ∃ r c, v = .tuple #[.slice (rowA r) (planS shop l).length c, .int .i64 (planT shop l), .int .i64 (planE shop l)] ∧ L = [.row t 1 r (planS shop l).length c ((planS shop l).map intV)]
theorem cast_int (g : List Nat) : (castL g).map intV = g.map natV := by unfold castL; rw [List.map_map]; rfl
theorem EarlR.s {t : TypeId} {l : List JI} {v : Value} {L : List HL} (h : EarlR t l v L) : EarlS t l v L ∨ ∃ t' sz, EarlS t l v (.row t' sz none 0 0 [] :: L) := by
  rcases h with ⟨h, hv, hL⟩ | ⟨h, b, hv, hL⟩
  · refine .inr ⟨t, 1, none, 0, ?_, ?_⟩
    · rw [hv]; unfold earlS; rw [if_neg h]; rfl
    · rw [hL]; unfold earlS; rw [if_neg h]; rfl
  · refine .inl ⟨some b, (nOf l).length, ?_, ?_⟩
    · rw [hv]; unfold earlS; rw [if_pos h, castL_len, earlC_len, h]
    · rw [hL]; unfold earlS; rw [if_pos h, castL_len, earlC_len, cast_int]
theorem CritR.s {t : TypeId} {l : List JI} {v : Value} {L : List HL} (h : CritR t l v L) : CritS t l v L ∨ ∃ t' sz, CritS t l v (.row t' sz none 0 0 [] :: L) := by
  rcases h with ⟨h, hv, hL⟩ | ⟨h, r, c, hv, hL⟩
  · refine .inr ⟨t, 1, none, 0, ?_, ?_⟩
    · rw [hv]; unfold critS endS; rw [if_neg h, if_neg h]; rfl
    · rw [hL]; unfold critS; rw [if_neg h]; rfl
  · refine .inl ⟨r, c, ?_, ?_⟩
    · rw [hv]; unfold critS endS; rw [if_pos h, if_pos h, castL_len, h]; done
    · rw [hL]; unfold critS; rw [if_pos h, castL_len, cast_int]
theorem PlanR.s {t : TypeId} {shop : List Int} {l : List JI} {v : Value} {L : List HL} (h : PlanR t shop l v L) : PlanS t shop l v L ∨ ∃ t' sz, PlanS t shop l v (.row t' sz none 0 0 [] :: L) := by
  rcases h with ⟨h, hv, hL⟩ | ⟨h, g, r, c, hg, hv, hL⟩
  · refine .inr ⟨t, 1, none, 0, ?_, ?_⟩
    · rw [hv]; unfold planS planT; rw [if_neg h, if_neg h]; rfl
    · rw [hL]; unfold planS; rw [if_neg h]; rfl
  · refine .inl ⟨r, c, ?_, ?_⟩
    · rw [hv]; unfold planS planT planG; rw [if_pos h, if_pos h, hg, castL_len, h]; rfl
    · rw [hL]; unfold planS planG; rw [if_pos h, hg, castL_len, cast_int]; rfl
theorem critC_le (n : List Jb) : (critC n).length ≤ n.length := by
  unfold critC critF
  exact Nat.le_trans (List.length_filter_le _ _) (by simp)
end Sx
open Sx
end Go.Proofs.Ytafmcflggikbfaa
namespace Go.Proofs.Ytafmcflggikbfaa
open Go.Gv
open Go.RowKit
open Go.Sn
open Go.Wk
open Sx
namespace Sx
theorem nOf_len (l : List JI) : (nOf l).length = l.length := by unfold nOf; rw [List.length_map]
theorem n_facts {a : Option Addr} {l : List JI} {w : World} (h : checkE l = 0) (hJ : JsIn a l w []) : GoodJ (nOf l) ∧ JnIn a (nOf l) w [] := by
  obtain ⟨n, rfl, hg, hn⟩ := goodJ_of h
  rw [hn]
  exact ⟨hg, JnIn.of hJ⟩
theorem cast_bad {l : List Jb} {s : List Nat} (hl : s.length = l.length) (hb : ∀ t ∈ s, t ≤ 1000000) : badAts l (castL s) = false := by
  unfold badAts
  rw [castL_len, decide_eq_false (by omega), Bool.false_or, List.any_eq_false]
  intro t ht
  unfold castL at ht
  obtain ⟨u, hu, rfl⟩ := List.mem_map.1 ht
  have := hb u hu
  simp; omega
theorem fits_case {shop : List Int} {l : List JI} {ats : List Int} (h : checkE l = 0) : (∃ s : List Nat, ats = castL s ∧ s.length = (nOf l).length ∧ (∀ t ∈ s, t ≤ 1000000) ∧ Fit shop (nOf l) s ∧ shopB shop = true ∧ fitsV shop l ats = .tuple #[.bool true, .int .i64 (-1), .int .i64 0]) ∨ (∃ fb fe, fitsV shop l ats = .tuple #[.bool false, .int .i64 fb, .int .i64 fe]) := by
  unfold fitsV
  rw [if_neg (by omega)]
  split
  · exact .inr ⟨_, _, rfl⟩
  · rename_i hno
    by_cases hw : wrongP shop (nOf l) ats < 0
    · refine .inl ⟨ats.map Int.toNat, ?_⟩
      have hall := wrongP_neg hw
      have hbad : badAts (nOf l) ats = false := by
        cases hb : badAts (nOf l) ats with
        | false => rfl
        | true => exact absurd (.inr hb) hno
      have hsh : shopB shop = true := by
        cases hb : shopB shop with
        | true => rfl
        | false => exact absurd (.inl hb) hno
      unfold badAts at hbad
      simp only [Bool.or_eq_false_iff, decide_eq_false_iff_not, Classical.not_not] at hbad
      have hge : ∀ t ∈ ats, 0 ≤ t := fun t ht => by
        obtain ⟨i, hi⟩ := List.mem_iff_getElem?.1 ht
        have hil := (List.getElem?_eq_some_iff.1 hi).1
        have := hall i (by omega)
        unfold wrongB at this
        simp only [Bool.or_eq_false_iff, decide_eq_false_iff_not] at this
        have h9 := this.1.1.1
        rw [List.getD_eq_getElem?_getD, hi] at h9
        simp only [Option.getD_some] at h9
        omega
      have hcast : castL (ats.map Int.toNat) = ats := by
        unfold castL
        rw [List.map_map]
        conv => rhs; rw [← List.map_id ats]
        apply List.map_congr_left
        intro t ht
        have := hge t ht
        simp only [Function.comp, id]
        omega
      have hlen : (ats.map Int.toNat).length = (nOf l).length := by rw [List.length_map]; exact hbad.1
      refine ⟨hcast.symm, hlen, fun t ht => ?_, wrong_fit hlen (by rw [hcast]; exact hall), hsh, ?_⟩
      · obtain ⟨u, hu, rfl⟩ := List.mem_map.1 ht
        have := List.any_eq_false.1 hbad.2 u hu
        simp at this
        have := hge u hu
        omega
      · rw [wrongP_no hall]; rfl
    · exact .inr ⟨_, _, by rw [decide_eq_false hw]⟩
end Sx
open Sx
end Go.Proofs.Ytafmcflggikbfaa
