import Derived.Test.YthcbcdjkfefnlaaGw
import Derived.Test.YthcbcdjkfefnlaaSf
import Derived.Test.YthcbcdjkfefnlaaSc
/- The walks of the reference, and the contracts of the store that the laws need. -/
set_option linter.unusedSimpArgs false
set_option linter.unusedVariables false
set_option linter.unnecessarySimpa false
set_option autoImplicit false
set_option linter.unusedVariables false
namespace Go.Proofs.Ythcbcdjkfefnlaa
open Go.Gv
open Go.RowKit
open Iv
namespace Iv
/-- a value of the reference's store -/
structure Rv where
  key : Nat
  val : List Nat
  r : Option Nat
  c : Nat
  deriving Inhabited
def Rv.cells (x : Rv) : List Value := [natV x.key, .slice (rowA x.r) x.val.length x.c]
abbrev Rv.valV (x : Rv) : Value := .agg #[natV x.key, .slice (rowA x.r) x.val.length x.c]
def Rv.row (x : Rv) : HL := .row 5 1 x.r x.val.length x.c (x.val.map u8V)
abbrev RsC (n : Nat) (rL : Option Nat) (cL : Nat) (L : List Rv) : List Value := [natV n, .slice (rowA rL) L.length cL]
abbrev RsH (br n : Nat) (rL : Option Nat) (cL : Nat) (L : List Rv) : List HL := [.blk br (RsC n rL cL L) 35, .row 99 2 rL L.length cL (L.flatMap Rv.cells)]
def plN (k : Int) : List Rv → Option Nat
  | [] => none
  | y :: l => if (y.key : Int) = k then some 0 else (plN k l).map (· + 1)
def placeP (k : Int) (L : List Rv) : Int := match plN k L with | some i => (i : Int) | none => -1
theorem plN_none {k : Int} : ∀ {L : List Rv}, (∀ y ∈ L, (y.key : Int) ≠ k) → plN k L = none
  | [], _ => rfl
  | y :: l, h => by
    unfold plN
    rw [if_neg (h y List.mem_cons_self), plN_none fun z hz => h z (List.mem_cons_of_mem _ hz)]; rfl
theorem plN_some {k : Int} : ∀ {L : List Rv} {i : Nat} {x : Rv}, L[i]? = some x → (x.key : Int) = k → (∀ j y, j < i → L[j]? = some y → (y.key : Int) ≠ k) → plN k L = some i
  | [], _, _, h, _, _ => by simp at h
  | y :: l, 0, x, h, hk, _ => by
    simp at h; subst h
    unfold plN; rw [if_pos hk]
  | y :: l, i + 1, x, h, hk, hb => by
    unfold plN
    rw [if_neg (hb 0 y (by omega) rfl), plN_some (i := i) (x := x) (by simpa using h) hk fun j z hj hz => hb (j + 1) z (by omega) (by simpa using hz)]; rfl
theorem plN_at {k : Int} : ∀ {L : List Rv} {i : Nat}, plN k L = some i → ∃ x, L[i]? = some x ∧ (x.key : Int) = k
  | [], _, h => by cases h
  | y :: l, i, h => by
    unfold plN at h
    by_cases e : (y.key : Int) = k
    · rw [if_pos e] at h; cases h; exact ⟨y, rfl, e⟩
    · rw [if_neg e] at h
      cases hp : plN k l with
      | none => rw [hp] at h; cases h
      | some j =>
        rw [hp] at h; cases h
        obtain ⟨x, h1, h2⟩ := plN_at hp
        exact ⟨x, by simpa using h1, h2⟩
theorem plN_no {k : Int} : ∀ {L : List Rv}, plN k L = none → ∀ y ∈ L, (y.key : Int) ≠ k
  | [], _, y, h => by cases h
  | z :: l, h, y, hy => by
    unfold plN at h
    by_cases e : (z.key : Int) = k
    · rw [if_pos e] at h; cases h
    · rw [if_neg e] at h
      rcases List.mem_cons.1 hy with rfl | hy
      · exact e
      · refine plN_no (L := l) ?_ y hy
        cases hp : plN k l with
        | none => rfl
        | some j => rw [hp] at h; cases h
def rgetP (key : Int) (L : List Rv) : List Nat × Int :=
  if key < 0 ∨ 999 < key then ([], 2) else match plN key L with | none => ([], 0) | some i => ((L.getD i default).val, 0)
theorem getD_at {L : List Rv} {i : Nat} {x : Rv} (h : L[i]? = some x) : L.getD i default = x := by rw [List.getD_eq_getElem?_getD, h]; rfl
def rputE (n : Nat) (key : Int) (len : Nat) (L : List Rv) : Int :=
  if key < 0 ∨ 999 < key ∨ 16 < len then 2 else match plN key L with | some _ => 0 | none => if 10 * (n - 2) ≤ L.length then 5 else 0
def RIns (key : Nat) (x : Rv) (L L' : List Rv) : Prop :=
  (∃ i, plN (key : Int) L = some i ∧ L' = L.set i x) ∨
  (plN (key : Int) L = none ∧ ∃ q, q ≤ L.length ∧ L' = L.take q ++ x :: L.drop q ∧ (∀ j y, j < q → L[j]? = some y → y.key < key) ∧ ∀ y, L[q]? = some y → ¬ y.key < key)
theorem slDrop {w : World} {S : List Nat} {a : Option Addr} {m sz : Nat} {cells : List Value} (h : OldSl w S a m sz cells) {q cap : Nat} (hq : q ≤ m) (hc : m ≤ cap) : OldSl w S (subA a cap q sz) (m - q) sz (cells.drop (q * sz)) := h.drop q hq hc
theorem flat_dropL (L : List Rv) (q : Nat) : (L.flatMap Rv.cells).drop (q * 2) = (L.drop q).flatMap Rv.cells := flat_drop_all Rv.cells 2 (fun _ => rfl) L q
theorem rv_one {L : List Rv} : ∀ u ∈ L.flatMap Rv.cells, u.oneCell' = true := fun u hu => by
  obtain ⟨x, _, hx⟩ := List.mem_flatMap.1 hu
  simp only [Rv.cells, List.mem_cons, List.not_mem_nil, or_false] at hx
  rcases hx with rfl | rfl <;> rfl
end Iv

set_option maxRecDepth 100000 in
set_option maxHeartbeats 1000000 in
theorem place_q (L : List Rv) (br n : Nat) (rL : Option Nat) (cL : Nat) (hL : L.length ≤ 100000) (w0 : World) (hc : Cells w0 ⟨br, 0, none⟩ (RsC n rL cL L)) (hl : OldSl w0 [] (rowA rL) L.length 2 (L.flatMap Rv.cells)) (key : Int) : Sp Try.prog 43 [.pointer (some ⟨br, 0, none⟩), .int .i64 key] w0 [] (RV (.int .i64 (placeP key L))) := by
  refine spec_enter Try.func43 rfl Try.ntmps43 rfl (Own.refl _) ?_
  simp only [argEnv]
  refine gc_seq ?_
  refine gc_region ?_
  refine gl_op (op_rd rfl (rd_assign rfl) ?_)
  refine gl_nil ?_
  refine gx_then ?_
  refine gc_seq ?_
  refine gc_seq ?_
  refine gc_region ?_
  refine gl_op (op_rd rfl (rd_assign rfl) ?_)
  refine gl_nil ?_
  refine gx_then ?_
  refine gc_block ?_
  refine gc_loopF (ι := Nat) [(0, _), (1, _)] [] (fun i => i ≤ L.length ∧ ∀ j y, j < i → L[j]? = some y → (y.key : Int) ≠ key) (fun i Fr0 => ((5, natV i) :: Fr0)) (fun i Fr0 => Fr0) (fun i => L.length - i) 0 (⟨Nat.zero_le _, fun j y h => absurd h (Nat.not_lt_zero _)⟩) ⟨rfl, rfl, rfl, trivial⟩ ⟨[], by decide, rfl⟩ ?_
  rintro i ⟨hi, hb⟩
  refine gc_seq ?_
  refine gc_seq ?_
  refine gc_region ?_
  refine gl_op (op_rd rfl (rd_move rfl) ?_)
  refine gl_op (op_rd rfl (rd_move rfl) ?_)
  refine gl_op (op_rd rfl (rd_nilCheck rfl) ?_)
  refine gl_op (op_rd rfl (rd_fieldAddr rfl (fa_35_1 _)) ?_)
  refine gl_op (op_rd rfl (rd_load Try.underlying33 rfl rfl (by first | exact ld_old (by assumption) (by simp) | exact ld_cells (by assumption) (by simp) rfl)) ?_)
  refine gl_op (op_rd rfl (rd_lenSlice Try.underlying33 rfl) ?_)
  refine gl_op (op_rd rfl (rd_lss rfl rfl) (gk_dec (fun h12 => ?_) (fun h12 => ?_)))
  · skip
    obtain ⟨x, hx⟩ := get_some (show i < L.length by omega)
    refine gl_nil ?_
    refine gx_then ?_
    refine gc_cond_t rfl ?_
    refine gc_skip ?_
    refine gx_then ?_
    refine gc_seq ?_
    refine gc_block ?_
    refine gc_seq ?_
    refine gc_region ?_
    refine gl_op (op_rd rfl (rd_move rfl) ?_)
    refine gl_op (op_rd rfl (rd_nilCheck rfl) ?_)
    refine gl_op (op_rd rfl (rd_fieldAddr rfl (fa_35_1 _)) ?_)
    refine gl_op (op_rd rfl (rd_load Try.underlying33 rfl rfl (by first | exact ld_old (by assumption) (by simp) | exact ld_cells (by assumption) (by simp) rfl)) ?_)
    refine gl_op (op_rd rfl (rd_move rfl) ?_)
    refine gl_op (op_rd rfl (rd_indexOld hl Try.underlying33 ty_99 rfl rfl (by omega) (by omega)) ?_)
    refine gl_op (op_rd rfl (rd_fieldAddr rfl (fa_99_0 _)) ?_)
    refine gl_op (op_rd rfl (rd_load Try.underlying3 rfl rfl (ld_slf hl (get_flat Rv.cells 2 (fun _ => rfl) hx (j := 0) (by decide) rfl))) ?_)
    refine gl_op (op_rd rfl (rd_move rfl) ?_)
    refine gl_op (op_rd rfl (rd_eql rfl rfl) (gk_dec (fun h24 => ?_) (fun h24 => ?_)))
    · skip
      refine gl_nil ?_
      refine gx_then ?_
      refine gc_cond_t rfl ?_
      refine gc_seq ?_
      refine gc_region ?_
      refine gl_op (op_rd rfl (rd_move rfl) ?_)
      refine gl_op (op_rd rfl (rd_assign rfl) ?_)
      refine gl_nil ?_
      refine gx_then ?_
      refine gc_ret ?_
      refine gx_block_ret ?_
      refine gx_then_ret ?_
      refine gx_then_ret ?_
      refine gx_block_ret ?_
      refine gx_then_ret ?_
      refine gx_ret1 (.inl rfl) Try.results43 rfl [] (by decide) ?_
      refine ⟨congrArg (Value.int .i64) ?_, rfl⟩
      unfold placeP
      rw [plN_some hx h24 hb]
    · skip
      refine gl_nil ?_
      refine gx_then ?_
      refine gc_cond_f rfl ?_
      refine gc_skip ?_
      refine gx_block ?_
      refine gx_then ?_
      refine gc_region ?_
      refine gl_op (op_rd rfl (rd_move rfl) ?_)
      refine gl_op (op_rd rfl (by first | exact rd_addN (b := 1) rfl rfl (by omega) | exact rd_add rfl rfl (by omega) (by omega)) ?_)
      refine gl_op (op_rd rfl (rd_assign rfl) ?_)
      refine gl_nil ?_
      refine gx_then ?_
      exact gx_cut (i + 1) ⟨⟨by omega, fun j y hj hy => by rcases (show j < i ∨ j = i by omega) with h | h; exact hb j y h hy; subst h; rw [hx] at hy; cases hy; exact h24⟩, by omega⟩ ⟨rfl, rfl, rfl, trivial⟩ ⟨[], by decide, rfl⟩
  · skip
    refine gl_nil ?_
    refine gx_then ?_
    refine gc_cond_f rfl ?_
    refine gc_exit ?_
    refine gx_then_exit ?_
    refine gx_then_exit ?_
    refine gx_block_exit ?_
    refine gx_then ?_
    refine gc_seq ?_
    refine gc_region ?_
    refine gl_op (op_rd rfl (rd_assign rfl) ?_)
    refine gl_nil ?_
    refine gx_then ?_
    refine gc_ret ?_
    refine gx_ret1 (.inl rfl) Try.results43 rfl [] (by decide) ?_
    refine ⟨congrArg (Value.int .i64) ?_, rfl⟩
    unfold placeP
    rw [plN_none fun y hy => ?_]
    obtain ⟨j, hj⟩ := List.getElem?_of_mem hy
    have hjl : j < L.length := by
      rcases Nat.lt_or_ge j L.length with h | h
      · exact h
      · rw [List.getElem?_eq_none h] at hj; cases hj
    exact hb j y (by omega) hj

set_option maxRecDepth 100000 in
set_option maxHeartbeats 1000000 in
theorem rGet_q (L : List Rv) (br n : Nat) (rL : Option Nat) (cL : Nat) (hL : L.length ≤ 100000) (w0 : World) (hc : Cells w0 ⟨br, 0, none⟩ (RsC n rL cL L)) (hl : OldSl w0 [] (rowA rL) L.length 2 (L.flatMap Rv.cells)) (hv : ∀ x ∈ L, OldSl w0 [] (rowA x.r) x.val.length 1 (x.val.map u8V)) (hv16 : ∀ x ∈ L, x.val.length ≤ 16) (key : Int) : Sp Try.prog 13 [.pointer (some ⟨br, 0, none⟩), .int .i64 key] w0 [] (fun v Lh => ∃ (r : Option Nat) (c : Nat), v = .tuple #[.slice (rowA r) (rgetP key L).1.length c, .int .i64 (rgetP key L).2] ∧ Lh = [.row 5 1 r (rgetP key L).1.length c ((rgetP key L).1.map u8V)]) := by
  refine spec_enter Try.func13 rfl Try.ntmps13 rfl (Own.refl _) ?_
  simp only [argEnv]
  refine gc_seq ?_
  refine gc_region ?_
  refine gl_op (op_rd rfl (rd_assign rfl) ?_)
  refine gl_op (op_rd rfl (rd_assign rfl) ?_)
  refine gl_nil ?_
  refine gx_then ?_
  refine gc_seq ?_
  refine gc_seq ?_
  refine gc_region ?_
  refine gl_op (op_rd rfl (rd_move rfl) ?_)
  refine gl_op (op_rd rfl (rd_lss rfl rfl) (gk_dec (fun h8 => ?_) (fun h8 => ?_)))
  · skip
    refine gl_op (op_rd rfl (rd_move rfl) ?_)
    refine gl_no rfl rfl rfl ?_
    refine gl_no rfl rfl rfl ?_
    refine gl_op (op_rd rfl (rd_pick_t rfl rfl) ?_)
    refine gl_nil ?_
    refine gx_then ?_
    refine gc_cond_t rfl ?_
    refine gc_seq ?_
    refine gk_nil 5 1 ?_
    refine gc_region ?_
    refine gl_op (op_rd rfl (rd_assign rfl) ?_)
    refine gl_op (op_rd rfl (rd_assign rfl) ?_)
    refine gl_nil ?_
    refine gx_then ?_
    refine gc_ret ?_
    refine gx_then_ret ?_
    refine gx_ret2 (.inl rfl) Try.results13 rfl rfl [0] (by decide) ?_
    rw [show rgetP key L = ([], 2) by unfold rgetP; rw [if_pos (by omega)]]
    exact ⟨none, 0, rfl, rfl⟩
  · skip
    refine gl_op (op_rd rfl (rd_move rfl) ?_)
    refine gl_yes rfl rfl (op_rd rfl (rd_move rfl) ?_)
    refine gl_yes rfl rfl (op_rd rfl (rd_gtr rfl rfl) (gk_dec (fun h11 => ?_) (fun h11 => ?_)))
    · skip
      refine gl_op (op_rd rfl (rd_pick_f rfl rfl) ?_)
      refine gl_nil ?_
      refine gx_then ?_
      refine gc_cond_t rfl ?_
      refine gc_seq ?_
      refine gk_nil 5 1 ?_
      refine gc_region ?_
      refine gl_op (op_rd rfl (rd_assign rfl) ?_)
      refine gl_op (op_rd rfl (rd_assign rfl) ?_)
      refine gl_nil ?_
      refine gx_then ?_
      refine gc_ret ?_
      refine gx_then_ret ?_
      refine gx_ret2 (.inl rfl) Try.results13 rfl rfl [0] (by decide) ?_
      rw [show rgetP key L = ([], 2) by unfold rgetP; rw [if_pos (by omega)]]
      exact ⟨none, 0, rfl, rfl⟩
    · skip
      refine gl_op (op_rd rfl (rd_pick_f rfl rfl) ?_)
      refine gl_nil ?_
      refine gx_then ?_
      refine gc_cond_f rfl ?_
      refine gc_skip ?_
      refine gx_then ?_
      refine gc_seq ?_
      refine gc_region ?_
      refine gl_op (op_rd rfl (rd_move rfl) ?_)
      refine gl_op (op_rd rfl (rd_move rfl) ?_)
      refine gl_op (op_call rfl (vf := []) (vc := []) rfl rfl Try.call43 (fun w1 ho => place_q L br n rL cL hL w1 (hc.at ho) (hl.at ho) key) ?_)
      rintro _ _ ⟨rfl, rfl⟩
      refine gl_op (op_rd rfl (rd_assign rfl) ?_)
      refine gl_nil ?_
      refine gx_then ?_
      refine gc_seq ?_
      refine gc_seq ?_
      refine gc_region ?_
      refine gl_op (op_rd rfl (rd_move rfl) ?_)
      refine gl_op (op_rd rfl (rd_lss rfl rfl) (gk_dec (fun h17 => ?_) (fun h17 => ?_)))
      · skip
        have hpn : plN key L = none := by
          cases hp : plN key L with
          | none => rfl
          | some i => unfold placeP at h17; rw [hp] at h17; simp only at h17; omega
        refine gl_nil ?_
        refine gx_then ?_
        refine gc_cond_t rfl ?_
        refine gc_seq ?_
        refine gk_nil 5 1 ?_
        refine gc_region ?_
        refine gl_op (op_rd rfl (rd_assign rfl) ?_)
        refine gl_op (op_rd rfl (rd_assign rfl) ?_)
        refine gl_nil ?_
        refine gx_then ?_
        refine gc_ret ?_
        refine gx_then_ret ?_
        refine gx_ret2 (.inl rfl) Try.results13 rfl rfl [0] (by decide) ?_
        rw [show rgetP key L = ([], 0) by unfold rgetP; rw [if_neg (by omega), hpn]]
        exact ⟨none, 0, rfl, rfl⟩
      · skip
        obtain ⟨i, hp⟩ : ∃ i, plN key L = some i := by
          cases hp : plN key L with
          | some i => exact ⟨i, rfl⟩
          | none => exfalso; unfold placeP at h17; rw [hp] at h17; exact h17 (by decide)
        obtain ⟨x, hx, hxk⟩ := plN_at hp
        have hpl : placeP key L = (i : Int) := by unfold placeP; rw [hp]
        have hil : i < L.length := by
          rcases Nat.lt_or_ge i L.length with h | h
          · exact h
          · rw [List.getElem?_eq_none h] at hx; cases hx
        have hxm := List.mem_of_getElem? hx
        have hx16 := hv16 x hxm
        rw [hpl]
        refine gl_nil ?_
        refine gx_then ?_
        refine gc_cond_f rfl ?_
        refine gc_skip ?_
        refine gx_then ?_
        refine gc_seq ?_
        refine gc_region ?_
        refine gl_op (op_buildSlice (sz := 1) rfl rfl (fun _ => bs_36_0_) rfl rfl (fun b18 => ?_))
        refine gl_op (op_rd rfl (rd_move rfl) ?_)
        refine gl_op (op_rd rfl (rd_nilCheck rfl) ?_)
        refine gl_op (op_rd rfl (rd_fieldAddr rfl (fa_35_1 _)) ?_)
        refine gl_op (op_rd rfl (rd_load Try.underlying33 rfl rfl (by first | exact ld_old (by assumption) (by simp) | exact ld_cells (by assumption) (by simp) rfl)) ?_)
        refine gl_op (op_rd rfl (rd_move rfl) ?_)
        refine gl_op (op_rd rfl (rd_indexOld hl Try.underlying33 ty_99 rfl rfl (by omega) (by omega)) ?_)
        refine gl_op (op_rd rfl (rd_fieldAddr rfl (fa_99_1 _)) ?_)
        refine gl_op (op_rd rfl (rd_load Try.underlying36 rfl rfl (ld_slf hl (get_flat Rv.cells 2 (fun _ => rfl) hx (j := 1) (by decide) rfl))) ?_)
        refine gl_op (op_appendSl 0 (hv x hxm) Try.underlying36 ty_5 rfl (by decide) rfl rfl rfl rfl (u8_one x.val) (by omega) (by omega) (fun _ => (by first | rfl | (simp only [List.set_cons_succ, List.set_cons_zero]; exact rfl))) (fun r27 c27 => ?_))
        refine gl_op (op_rd rfl (rd_assign rfl) ?_)
        refine gl_op (op_rd rfl (rd_assign rfl) ?_)
        refine gl_nil ?_
        refine gx_then ?_
        refine gc_ret ?_
        refine gx_ret2 (.inl rfl) Try.results13 rfl rfl [0] (by decide) ?_
        rw [show rgetP key L = (x.val, 0) by unfold rgetP; rw [if_neg (by omega), hp]; simp only; rw [getD_at hx]]
        exact ⟨r27, c27, by rw [Nat.zero_add], by rw [Nat.zero_add, List.nil_append]; rfl⟩

set_option maxRecDepth 100000 in
set_option maxHeartbeats 1000000 in
theorem rRoom_q (L : List Rv) (br n : Nat) (rL : Option Nat) (cL : Nat) (hL : L.length ≤ 100000) (w0 : World) (hc : Cells w0 ⟨br, 0, none⟩ (RsC n rL cL L)) (hl : OldSl w0 [] (rowA rL) L.length 2 (L.flatMap Rv.cells)) (hn : n ≤ 64) (hn2 : L.length ≤ 10 * (n - 2)) (hn3 : 2 ≤ n) : Sp Try.prog 44 [.pointer (some ⟨br, 0, none⟩)] w0 [] (RV (natV (10 * (n - 2) - L.length))) := by
  refine spec_enter Try.func44 rfl Try.ntmps44 rfl (Own.refl _) ?_
  simp only [argEnv]
  refine gc_seq ?_
  refine gc_region ?_
  refine gl_op (op_rd rfl (rd_assign rfl) ?_)
  refine gl_nil ?_
  refine gx_then ?_
  refine gc_seq ?_
  refine gc_drawP [] true 12 rfl ?_
  refine ga_first 0 #[true, false, false, false, false, false, false, false, false, false, false, false, false] rfl rfl rfl rfl (by kernel_rfl) rfl ⟨[], by decide, rfl⟩ (qt_rd (rd_move rfl)) ?_
  refine ga_first 1 #[true, true, false, false, false, false, false, false, false, false, false, false, false] rfl rfl rfl rfl (by kernel_rfl) rfl ⟨[], by decide, rfl⟩ (qt_rd (rd_nilCheck rfl)) ?_
  refine ga_first 2 #[true, true, true, false, false, false, false, false, false, false, false, false, false] rfl rfl rfl rfl (by kernel_rfl) rfl ⟨[], by decide, rfl⟩ (qt_rd (rd_fieldAddr rfl (fa_35_0 _))) ?_
  refine ga_first 3 #[true, true, true, true, false, false, false, false, false, false, false, false, false] rfl rfl rfl rfl (by kernel_rfl) rfl ⟨[], by decide, rfl⟩ (qt_rd (rd_load Try.underlying3 rfl rfl (by first | exact ld_slN (by assumption) (get_nats (by omega)) | exact ld_slN (by assumption) (get_ints (by omega)) | exact ld_old (by assumption) (by simp) | exact ld_cells (by assumption) (by simp) rfl))) ?_
  refine ga_first 4 #[true, true, true, true, true, false, false, false, false, false, false, false, false] rfl rfl rfl rfl (by kernel_rfl) rfl ⟨[], by decide, rfl⟩ (qt_rd (by first | exact rd_subN (b := 2) rfl rfl (by omega) (by omega) | exact rd_sub rfl rfl (by omega) (by omega))) ?_
  refine ga_first 5 #[true, true, true, true, true, true, false, false, false, false, false, false, false] rfl rfl rfl rfl (by kernel_rfl) rfl ⟨[], by decide, rfl⟩ (qt_rd (by first | exact rd_mulN (a := 10) rfl rfl (by omega) | exact rd_mul rfl rfl (by omega) (by omega))) ?_
  refine ga_first 6 #[true, true, true, true, true, true, true, false, false, false, false, false, false] rfl rfl rfl rfl (by kernel_rfl) rfl ⟨[], by decide, rfl⟩ (qt_rd (rd_move rfl)) ?_
  refine ga_first 7 #[true, true, true, true, true, true, true, true, false, false, false, false, false] rfl rfl rfl rfl (by kernel_rfl) rfl ⟨[], by decide, rfl⟩ (qt_rd (rd_nilCheck rfl)) ?_
  refine ga_first 8 #[true, true, true, true, true, true, true, true, true, false, false, false, false] rfl rfl rfl rfl (by kernel_rfl) rfl ⟨[], by decide, rfl⟩ (qt_rd (rd_fieldAddr rfl (fa_35_1 _))) ?_
  refine ga_first 9 #[true, true, true, true, true, true, true, true, true, true, false, false, false] rfl rfl rfl rfl (by kernel_rfl) rfl ⟨[], by decide, rfl⟩ (qt_rd (rd_load Try.underlying33 rfl rfl (by first | exact ld_old (by assumption) (by simp) | exact ld_cells (by assumption) (by simp) rfl))) ?_
  refine ga_first 10 #[true, true, true, true, true, true, true, true, true, true, true, false, false] rfl rfl rfl rfl (by kernel_rfl) rfl ⟨[], by decide, rfl⟩ (qt_rd (rd_lenSlice Try.underlying33 rfl)) ?_
  refine ga_first 11 #[true, true, true, true, true, true, true, true, true, true, true, true, false] rfl rfl rfl rfl (by kernel_rfl) rfl ⟨[], by decide, rfl⟩ (qt_rd (by first | exact rd_subN rfl rfl (by omega) (by omega) | exact rd_sub rfl rfl (by omega) (by omega))) ?_
  refine ga_first 12 #[true, true, true, true, true, true, true, true, true, true, true, true, true] rfl rfl rfl rfl (by kernel_rfl) rfl ⟨[], by decide, rfl⟩ (qt_rd (rd_assign rfl)) ?_
  refine ga_end (by kernel_rfl) (.inr ⟨[], by decide, rfl⟩) ?_
  refine gx_then ?_
  refine gc_ret ?_
  refine gx_ret1 (.inl rfl) Try.results44 rfl [] (by decide) ?_
  exact ⟨rfl, rfl⟩

set_option maxRecDepth 100000 in
set_option maxHeartbeats 1000000 in
theorem rKeys_q (L : List Rv) (br n : Nat) (rL : Option Nat) (cL : Nat) (hL : L.length ≤ 100000) (w0 : World) (hc : Cells w0 ⟨br, 0, none⟩ (RsC n rL cL L)) (hl : OldSl w0 [] (rowA rL) L.length 2 (L.flatMap Rv.cells)) : Sp Try.prog 46 [.pointer (some ⟨br, 0, none⟩)] w0 [] (fun v Lh => ∃ (r : Option Nat) (c : Nat), v = .slice (rowA r) (L.map Rv.key).length c ∧ Lh = [.row 3 1 r (L.map Rv.key).length c ((L.map Rv.key).map natV)]) := by
  refine spec_enter Try.func46 rfl Try.ntmps46 rfl (Own.refl _) ?_
  simp only [argEnv]
  refine gc_seq ?_
  refine gc_region ?_
  refine gl_op (op_rd rfl (rd_assign rfl) ?_)
  refine gl_nil ?_
  refine gx_then ?_
  refine gc_seq ?_
  refine gc_region ?_
  refine gl_op (op_rd rfl (rd_assign rfl) ?_)
  refine gl_nil ?_
  refine gx_then ?_
  refine gc_seq ?_
  refine gc_seq ?_
  refine gc_region ?_
  refine gl_op (op_rd rfl (rd_assign rfl) ?_)
  refine gl_nil ?_
  refine gx_then ?_
  refine gc_block ?_
  refine gk_nil 3 1 ?_
  refine gc_loopF (ι := Nat × Option Nat × Nat) [(0, _)] [] (fun i => i.1 ≤ L.length) (fun i Fr0 => ((3, .slice (rowA i.2.1) ((L.take i.1).map Rv.key).length i.2.2) :: (4, natV i.1) :: Fr0)) (fun i Fr0 => (.row 3 1 i.2.1 ((L.take i.1).map Rv.key).length i.2.2 (((L.take i.1).map Rv.key).map natV) :: Fr0)) (fun i => L.length - i.1) (0, none, 0) (Nat.zero_le _) ⟨rfl, rfl, rfl, trivial⟩ ⟨[0], by decide, rfl⟩ ?_
  rintro ⟨i, rk, ck⟩ hi
  simp only at hi ⊢
  have htl : ((L.take i).map Rv.key).length = i := by simp; omega
  refine gc_seq ?_
  refine gc_seq ?_
  refine gc_region ?_
  refine gl_op (op_rd rfl (rd_move rfl) ?_)
  refine gl_op (op_rd rfl (rd_move rfl) ?_)
  refine gl_op (op_rd rfl (rd_nilCheck rfl) ?_)
  refine gl_op (op_rd rfl (rd_fieldAddr rfl (fa_35_1 _)) ?_)
  refine gl_op (op_rd rfl (rd_load Try.underlying33 rfl rfl (by first | exact ld_old (by assumption) (by simp) | exact ld_cells (by assumption) (by simp) rfl)) ?_)
  refine gl_op (op_rd rfl (rd_lenSlice Try.underlying33 rfl) ?_)
  refine gl_op (op_rd rfl (rd_lss rfl rfl) (gk_dec (fun h11 => ?_) (fun h11 => ?_)))
  · skip
    obtain ⟨x, hx⟩ := get_some (show i < L.length by omega)
    refine gl_nil ?_
    refine gx_then ?_
    refine gc_cond_t rfl ?_
    refine gc_skip ?_
    refine gx_then ?_
    refine gc_seq ?_
    refine gc_block ?_
    refine gc_region ?_
    refine gl_op (op_rd rfl (rd_move rfl) ?_)
    refine gl_op (op_rd rfl (rd_move rfl) ?_)
    refine gl_op (op_rd rfl (rd_nilCheck rfl) ?_)
    refine gl_op (op_rd rfl (rd_fieldAddr rfl (fa_35_1 _)) ?_)
    refine gl_op (op_rd rfl (rd_load Try.underlying33 rfl rfl (by first | exact ld_old (by assumption) (by simp) | exact ld_cells (by assumption) (by simp) rfl)) ?_)
    refine gl_op (op_rd rfl (rd_move rfl) ?_)
    refine gl_op (op_rd rfl (rd_indexOld hl Try.underlying33 ty_99 rfl rfl (by omega) (by omega)) ?_)
    refine gl_op (op_rd rfl (rd_fieldAddr rfl (fa_99_0 _)) ?_)
    refine gl_op (op_rd rfl (rd_load Try.underlying3 rfl rfl (ld_slf hl (get_flat Rv.cells 2 (fun _ => rfl) hx (j := 0) (by decide) rfl))) ?_)
    refine gl_op (op_buildSlice (sz := 1) rfl rfl (fun _ => bs_55_1_0 _) rfl rfl (fun b23 => ?_))
    refine gl_op (op_appendRow 1 0 Try.underlying55 ty_3 rfl (by decide) rfl rfl rfl rfl rfl (by simp [Value.oneCell']) (by omega) (by omega) (fun _ => (by first | rfl | (simp only [List.set_cons_succ, List.set_cons_zero]; exact rfl))) (fun r24 c24 => ?_))
    refine gl_op (op_rd rfl (rd_assign rfl) ?_)
    refine gl_nil ?_
    refine gx_block ?_
    refine gx_then ?_
    refine gc_region ?_
    refine gl_op (op_rd rfl (rd_move rfl) ?_)
    refine gl_op (op_rd rfl (by first | exact rd_addN (b := 1) rfl rfl (by omega) | exact rd_add rfl rfl (by omega) (by omega)) ?_)
    refine gl_op (op_rd rfl (rd_assign rfl) ?_)
    refine gl_nil ?_
    refine gx_then ?_
    rw [snocN, snoc_len ((L.take i).map Rv.key) x.key, show (L.take i).map Rv.key ++ [x.key] = (L.take (i + 1)).map Rv.key by rw [take_at hx, List.map_append]; rfl]
    exact gx_cut ((i + 1, r24, c24)) ⟨by simp only; omega, by simp only; omega⟩ ⟨rfl, rfl, rfl, trivial⟩ ⟨[1], by decide, rfl⟩
  · skip
    refine gl_nil ?_
    refine gx_then ?_
    refine gc_cond_f rfl ?_
    refine gc_exit ?_
    refine gx_then_exit ?_
    refine gx_then_exit ?_
    refine gx_block_exit ?_
    refine gx_then ?_
    refine gc_seq ?_
    refine gc_region ?_
    refine gl_op (op_rd rfl (rd_move rfl) ?_)
    refine gl_op (op_rd rfl (rd_assign rfl) ?_)
    refine gl_nil ?_
    refine gx_then ?_
    refine gc_ret ?_
    refine gx_ret1 (.inl rfl) Try.results46 rfl [0] (by decide) ?_
    have hil : i = L.length := by omega
    subst hil
    rw [List.take_length]
    exact ⟨rk, ck, rfl, rfl⟩

set_option maxRecDepth 100000 in
set_option maxHeartbeats 1000000 in
theorem SameInts_q (xs : List Nat) (a b : Option Addr) (ca cb : Nat) (w0 : World) (hxs : OldSl w0 [] a xs.length 1 (xs.map natV)) (hys : OldSl w0 [] b xs.length 1 (xs.map natV)) (hlen : xs.length ≤ 100000) : Sp Try.prog 45 [.slice a xs.length ca, .slice b xs.length cb] w0 [] (RV (.bool true)) := by
  refine spec_enter Try.func45 rfl Try.ntmps45 rfl (Own.refl _) ?_
  simp only [argEnv]
  refine gc_seq ?_
  refine gc_region ?_
  refine gl_op (op_rd rfl (rd_assign rfl) ?_)
  refine gl_nil ?_
  refine gx_then ?_
  refine gc_seq ?_
  refine gc_seq ?_
  refine gc_region ?_
  refine gl_op (op_rd rfl (rd_move rfl) ?_)
  refine gl_op (op_rd rfl (rd_lenSlice Try.underlying55 rfl) ?_)
  refine gl_op (op_rd rfl (rd_move rfl) ?_)
  refine gl_op (op_rd rfl (rd_lenSlice Try.underlying55 rfl) ?_)
  refine gl_op (op_rd rfl (rd_neq rfl rfl) (gk_dec (fun h10 => ?_) (fun h10 => ?_)))
  · skip
    exact absurd rfl h10
  · skip
    refine gl_nil ?_
    refine gx_then ?_
    refine gc_cond_f rfl ?_
    refine gc_skip ?_
    refine gx_then ?_
    refine gc_seq ?_
    refine gc_seq ?_
    refine gc_region ?_
    refine gl_op (op_rd rfl (rd_assign rfl) ?_)
    refine gl_nil ?_
    refine gx_then ?_
    refine gc_block ?_
    refine gc_loopF (ι := Nat) [(0, _), (1, _)] [] (fun i => i ≤ xs.length) (fun i Fr0 => ((5, natV i) :: Fr0)) (fun i Fr0 => Fr0) (fun i => xs.length - i) 0 (Nat.zero_le _) ⟨rfl, rfl, rfl, trivial⟩ ⟨[], by decide, rfl⟩ ?_
    rintro i hi
    refine gc_seq ?_
    refine gc_seq ?_
    refine gc_region ?_
    refine gl_op (op_rd rfl (rd_move rfl) ?_)
    refine gl_op (op_rd rfl (rd_move rfl) ?_)
    refine gl_op (op_rd rfl (rd_lenSlice Try.underlying55 rfl) ?_)
    refine gl_op (op_rd rfl (rd_lss rfl rfl) (gk_dec (fun h14 => ?_) (fun h14 => ?_)))
    · skip
      obtain ⟨x, hx⟩ := get_some (show i < xs.length by omega)
      refine gl_nil ?_
      refine gx_then ?_
      refine gc_cond_t rfl ?_
      refine gc_skip ?_
      refine gx_then ?_
      refine gc_seq ?_
      refine gc_block ?_
      refine gc_seq ?_
      refine gc_drawP [] true 8 rfl ?_
      refine ga_first 0 #[true, false, false, false, false, false, false, false, false] rfl rfl rfl rfl (by kernel_rfl) rfl ⟨[], by decide, rfl⟩ (qt_rd (rd_move rfl)) ?_
      refine ga_first 1 #[true, true, false, false, false, false, false, false, false] rfl rfl rfl rfl (by kernel_rfl) rfl ⟨[], by decide, rfl⟩ (qt_rd (rd_move rfl)) ?_
      refine ga_first 2 #[true, true, true, false, false, false, false, false, false] rfl rfl rfl rfl (by kernel_rfl) rfl ⟨[], by decide, rfl⟩ (qt_rd (rd_indexOld1 hxs Try.underlying55 ty_3 rfl rfl (by omega) (by omega))) ?_
      refine ga_first 3 #[true, true, true, true, false, false, false, false, false] rfl rfl rfl rfl (by kernel_rfl) rfl ⟨[], by decide, rfl⟩ (qt_rd (rd_load Try.underlying3 rfl rfl (ld_slN hxs (get_natsL hx)))) ?_
      refine ga_first 4 #[true, true, true, true, true, false, false, false, false] rfl rfl rfl rfl (by kernel_rfl) rfl ⟨[], by decide, rfl⟩ (qt_rd (rd_move rfl)) ?_
      refine ga_first 5 #[true, true, true, true, true, true, false, false, false] rfl rfl rfl rfl (by kernel_rfl) rfl ⟨[], by decide, rfl⟩ (qt_rd (rd_move rfl)) ?_
      refine ga_first 6 #[true, true, true, true, true, true, true, false, false] rfl rfl rfl rfl (by kernel_rfl) rfl ⟨[], by decide, rfl⟩ (qt_rd (rd_indexOld1 hys Try.underlying55 ty_3 rfl rfl (by omega) (by omega))) ?_
      refine ga_first 7 #[true, true, true, true, true, true, true, true, false] rfl rfl rfl rfl (by kernel_rfl) rfl ⟨[], by decide, rfl⟩ (qt_rd (rd_load Try.underlying3 rfl rfl (ld_slN hys (get_natsL hx)))) ?_
      refine ga_first 8 #[true, true, true, true, true, true, true, true, true] rfl rfl rfl rfl (by kernel_rfl) rfl ⟨[], by decide, rfl⟩ (qt_rd (rd_neq rfl rfl)) (gk_dec (fun h25 => ?_) (fun h25 => ?_))
      · skip
        exact absurd rfl h25
      · skip
        refine ga_end (by kernel_rfl) (.inr ⟨[], by decide, rfl⟩) ?_
        refine gx_then ?_
        refine gc_cond_f rfl ?_
        refine gc_skip ?_
        refine gx_block ?_
        refine gx_then ?_
        refine gc_region ?_
        refine gl_op (op_rd rfl (rd_move rfl) ?_)
        refine gl_op (op_rd rfl (by first | exact rd_addN (b := 1) rfl rfl (by omega) | exact rd_add rfl rfl (by omega) (by omega)) ?_)
        refine gl_op (op_rd rfl (rd_assign rfl) ?_)
        refine gl_nil ?_
        refine gx_then ?_
        exact gx_cut (i + 1) ⟨by omega, by omega⟩ ⟨rfl, rfl, rfl, trivial⟩ ⟨[], by decide, rfl⟩
    · skip
      refine gl_nil ?_
      refine gx_then ?_
      refine gc_cond_f rfl ?_
      refine gc_exit ?_
      refine gx_then_exit ?_
      refine gx_then_exit ?_
      refine gx_block_exit ?_
      refine gx_then ?_
      refine gc_seq ?_
      refine gc_region ?_
      refine gl_op (op_rd rfl (rd_assign rfl) ?_)
      refine gl_nil ?_
      refine gx_then ?_
      refine gc_ret ?_
      refine gx_ret1 (.inl rfl) Try.results45 rfl [] (by decide) ?_
      exact ⟨rfl, rfl⟩

end Go.Proofs.Ythcbcdjkfefnlaa

set_option autoImplicit false
set_option linter.unusedVariables false
namespace Go.Proofs.Ythcbcdjkfefnlaa
open Go.Gv
open Go.RowKit
open Iv
namespace Iv
def PutRes (br n : Nat) (key : Nat) (vs : List Nat) (L : List Rv) (rL : Option Nat) (cL : Nat) (v : Value) (Lh : List HL) : Prop :=
  (rputE n key vs.length L ≠ 0 ∧ v = .int .i64 (rputE n key vs.length L) ∧ Lh = RsH br n rL cL L) ∨
  (rputE n key vs.length L = 0 ∧ ∃ (r : Option Nat) (c : Nat) (rL' : Option Nat) (cL' : Nat) (L' : List Rv), v = .int .i64 0 ∧ RIns key ⟨key, vs, r, c⟩ L L' ∧ Lh = RsH br n rL' cL' L' ++ [.row 5 1 r vs.length c (vs.map u8V)])
theorem row_cap {w : World} {E : TypeId} {sz : Nat} {r : Option Nat} {m cap : Nat} {xs : List Value} (h : HL.holds w (.row E sz r m cap xs)) : m ≤ cap := by
  cases r with
  | none => obtain ⟨_, rfl, rfl⟩ := h; exact Nat.le_refl _
  | some g => obtain ⟨_, cur, _, h, _⟩ := h; exact h
theorem ins_len {α : Type} (L : List α) (x : α) {q : Nat} (h : q ≤ L.length) : q + 1 + (L.length - q) = (L.take q ++ x :: L.drop q).length := by simp; omega
end Iv

set_option maxRecDepth 100000 in
set_option maxHeartbeats 2000000 in
theorem rPut_ok (L : List Rv) (br n : Nat) (rL : Option Nat) (cL : Nat) (hL : L.length ≤ 100000) (S : List Nat) (w0 : World) (hown : Own w0 S w0 (RsH br n rL cL L)) (hn : n ≤ 64) (hn3 : 2 ≤ n) (key : Nat) (vs : List Nat) (a : Option Addr) (ca : Nat) (hsl : OldSl w0 S a vs.length 1 (vs.map u8V)) (hvl : vs.length ≤ 140737488355328) : Sp Try.prog 18 [.pointer (some ⟨br, 0, none⟩), natV key, .slice a vs.length ca] w0 S (PutRes br n key vs L rL cL) := by
  have hcL := row_cap (hown.holds (.row 99 2 rL L.length cL (L.flatMap Rv.cells)) (by simp))
  refine spec_enter Try.func18 rfl Try.ntmps18 rfl hown ?_
  simp only [argEnv]
  refine gc_seq ?_
  refine gc_region ?_
  refine gl_op (op_rd rfl (rd_assign rfl) ?_)
  refine gl_nil ?_
  refine gx_then ?_
  refine gc_seq ?_
  refine gc_seq ?_
  refine gc_region ?_
  refine gl_op (op_rd rfl (rd_move rfl) ?_)
  refine gl_op (op_rd rfl (rd_lss rfl rfl) (gk_dec (fun h13 => ?_) (fun h13 => ?_)))
  · skip
    refine gl_op (op_rd rfl (rd_move rfl) ?_)
    refine gl_no rfl rfl rfl ?_
    refine gl_no rfl rfl rfl ?_
    refine gl_op (op_rd rfl (rd_pick_t rfl rfl) ?_)
    refine gl_op (op_rd rfl (rd_move rfl) ?_)
    refine gl_no rfl rfl rfl ?_
    refine gl_no rfl rfl rfl ?_
    refine gl_no rfl rfl rfl ?_
    refine gl_op (op_rd rfl (rd_pick_t rfl rfl) ?_)
    refine gl_nil ?_
    refine gx_then ?_
    refine gc_cond_t rfl ?_
    refine gc_seq ?_
    refine gc_region ?_
    refine gl_op (op_rd rfl (rd_assign rfl) ?_)
    refine gl_nil ?_
    refine gx_then ?_
    refine gc_ret ?_
    refine gx_then_ret ?_
    refine gx_ret1 (.inl rfl) Try.results18 rfl [0, 1] (by decide) ?_
    exact .inl ⟨by unfold rputE; rw [if_pos (by omega)]; decide, by unfold rputE; rw [if_pos (by omega)], rfl⟩
  · skip
    refine gl_op (op_rd rfl (rd_move rfl) ?_)
    refine gl_yes rfl rfl (op_rd rfl (rd_move rfl) ?_)
    refine gl_yes rfl rfl (op_rd rfl (rd_gtr rfl rfl) (gk_dec (fun h16 => ?_) (fun h16 => ?_)))
    · skip
      refine gl_op (op_rd rfl (rd_pick_f rfl rfl) ?_)
      refine gl_op (op_rd rfl (rd_move rfl) ?_)
      refine gl_no rfl rfl rfl ?_
      refine gl_no rfl rfl rfl ?_
      refine gl_no rfl rfl rfl ?_
      refine gl_op (op_rd rfl (rd_pick_t rfl rfl) ?_)
      refine gl_nil ?_
      refine gx_then ?_
      refine gc_cond_t rfl ?_
      refine gc_seq ?_
      refine gc_region ?_
      refine gl_op (op_rd rfl (rd_assign rfl) ?_)
      refine gl_nil ?_
      refine gx_then ?_
      refine gc_ret ?_
      refine gx_then_ret ?_
      refine gx_ret1 (.inl rfl) Try.results18 rfl [0, 1] (by decide) ?_
      exact .inl ⟨by unfold rputE; rw [if_pos (by omega)]; decide, by unfold rputE; rw [if_pos (by omega)], rfl⟩
    · skip
      refine gl_op (op_rd rfl (rd_pick_f rfl rfl) ?_)
      refine gl_op (op_rd rfl (rd_move rfl) ?_)
      refine gl_yes rfl rfl (op_rd rfl (rd_move rfl) ?_)
      refine gl_yes rfl rfl (op_rd rfl (rd_lenSlice Try.underlying36 rfl) ?_)
      refine gl_yes rfl rfl (op_rd rfl (rd_gtr rfl rfl) (gk_dec (fun h21 => ?_) (fun h21 => ?_)))
      · skip
        refine gl_op (op_rd rfl (rd_pick_f rfl rfl) ?_)
        refine gl_nil ?_
        refine gx_then ?_
        refine gc_cond_t rfl ?_
        refine gc_seq ?_
        refine gc_region ?_
        refine gl_op (op_rd rfl (rd_assign rfl) ?_)
        refine gl_nil ?_
        refine gx_then ?_
        refine gc_ret ?_
        refine gx_then_ret ?_
        refine gx_ret1 (.inl rfl) Try.results18 rfl [0, 1] (by decide) ?_
        exact .inl ⟨by unfold rputE; rw [if_pos (by omega)]; decide, by unfold rputE; rw [if_pos (by omega)], rfl⟩
      · skip
        refine gl_op (op_rd rfl (rd_pick_f rfl rfl) ?_)
        refine gl_nil ?_
        refine gx_then ?_
        refine gc_cond_f rfl ?_
        refine gc_skip ?_
        refine gx_then ?_
        refine gc_seq ?_
        refine gc_region ?_
        refine gl_op (op_rd rfl (rd_move rfl) ?_)
        refine gl_op (op_buildSlice (sz := 1) rfl rfl (fun _ => bs_36_0_) rfl rfl (fun b24 => ?_))
        refine gl_op (op_rd rfl (rd_move rfl) ?_)
        refine gl_op (op_appendSl 0 hsl Try.underlying36 ty_5 rfl (by decide) rfl rfl rfl rfl (u8_one vs) (by omega) (by omega) (fun _ => (by first | rfl | (simp only [List.set_cons_succ, List.set_cons_zero]; exact rfl))) (fun r26 c26 => ?_))
        rw [Nat.zero_add, List.nil_append]
        refine gl_op (op_rd rfl (rd_build rfl (fun _ => bd_99_0_1 _ _ _ _)) ?_)
        refine gl_op (op_alloc ty_99 rfl rfl (fun b7 => ?_))
        first | refine gl_op (op_storeAgg 0 ty_99 rfl rfl rfl rfl rfl rfl (by first | rfl | (simp only [List.set_cons_succ, List.set_cons_zero]; exact rfl)) ?_) | refine gl_op (op_storeAgg 2 ty_99 rfl rfl rfl rfl rfl rfl (by first | rfl | (simp only [List.set_cons_succ, List.set_cons_zero]; exact rfl)) ?_) | refine gl_op (op_storeRowAgg 1 ty_99 rfl rfl rfl rfl rfl (by simp; omega) (by first | rfl | (simp only [List.set_cons_succ, List.set_cons_zero]; exact rfl)) ?_) | refine gl_op (op_storeRowAgg 3 ty_99 rfl rfl rfl rfl rfl (by simp; omega) (by first | rfl | (simp only [List.set_cons_succ, List.set_cons_zero]; exact rfl)) ?_)
        refine gl_nil ?_
        refine gx_then ?_
        refine gc_seq ?_
        refine gc_region ?_
        refine gl_op (op_rd rfl (rd_move rfl) ?_)
        refine gl_op (op_rd rfl (rd_move rfl) ?_)
        refine gl_op (op_call rfl (vf := []) (vc := []) rfl rfl Try.call43 (fun w1 ho => place_q L br n rL cL hL w1 (ho.blkCells 2 rfl) (ho.rowSl 3 rfl) (key : Int)) ?_)
        rintro _ _ ⟨rfl, rfl⟩
        refine gl_op (op_rd rfl (rd_assign rfl) ?_)
        refine gl_nil ?_
        refine gx_then ?_
        refine gc_seq ?_
        refine gc_seq ?_
        refine gc_region ?_
        refine gl_op (op_rd rfl (rd_move rfl) ?_)
        refine gl_op (op_rd rfl (rd_geq rfl rfl) (gk_dec (fun h32 => ?_) (fun h32 => ?_)))
        · skip
          obtain ⟨i, hp⟩ : ∃ i, plN (key : Int) L = some i := by
            cases hp : plN (key : Int) L with
            | some i => exact ⟨i, rfl⟩
            | none => exfalso; unfold placeP at h32; rw [hp] at h32; exact absurd h32 (by decide)
          obtain ⟨x, hx, hxk⟩ := plN_at hp
          have hpl : placeP (key : Int) L = (i : Int) := by unfold placeP; rw [hp]
          have hil : i < L.length := by
            rcases Nat.lt_or_ge i L.length with h | h
            · exact h
            · rw [List.getElem?_eq_none h] at hx; cases hx
          rw [hpl]
          refine gl_nil ?_
          refine gx_then ?_
          refine gc_cond_t rfl ?_
          refine gc_seq ?_
          refine gc_drawP [0, 1, 2, 3] false 7 rfl ?_
          refine ga_first 0 #[true, false, false, false, false, false, false, false] rfl rfl rfl rfl (by kernel_rfl) rfl ⟨[0, 1, 2, 3], by decide, rfl⟩ (qt_rd (rd_move rfl)) ?_
          refine ga_first 1 #[true, true, false, false, false, false, false, false] rfl rfl rfl rfl (by kernel_rfl) rfl ⟨[0, 1, 2, 3], by decide, rfl⟩ (qt_rd (rd_nilCheck rfl)) ?_
          refine ga_first 2 #[true, true, true, false, false, false, false, false] rfl rfl rfl rfl (by kernel_rfl) rfl ⟨[0, 1, 2, 3], by decide, rfl⟩ (qt_rd (rd_fieldAddr rfl (fa_35_1 _))) ?_
          refine ga_first 3 #[true, true, true, true, false, false, false, false] rfl rfl rfl rfl (by kernel_rfl) rfl ⟨[0, 1, 2, 3], by decide, rfl⟩ (qt_rd (rd_load Try.underlying33 rfl rfl (by first | exact ld_blk 0 rfl rfl | exact ld_blk 2 rfl rfl | exact ld_old (by assumption) (by simp) | exact ld_cells (by assumption) (by simp) rfl))) ?_
          refine ga_first 4 #[true, true, true, true, true, false, false, false] rfl rfl rfl rfl (by kernel_rfl) rfl ⟨[0, 1, 2, 3], by decide, rfl⟩ (qt_rd (rd_move rfl)) ?_
          refine ga_first 5 #[true, true, true, true, true, true, false, false] rfl rfl rfl rfl (by kernel_rfl) rfl ⟨[0, 1, 2, 3], by decide, rfl⟩ (qt_rd (rd_loadAgg Try.underlying99 rfl ty_99 rfl (by first | exact cs_blk 0 (off := 0) (k := 2) rfl rfl | exact cs_blk 2 (off := 0) (k := 2) rfl rfl | exact cs_old (by assumption) (by simp)) rfl)) ?_
          refine ga_first 6 #[true, true, true, true, true, true, true, false] rfl rfl rfl rfl (by kernel_rfl) rfl ⟨[0, 1, 2, 3], by decide, rfl⟩ (qt_rd (rd_indexRow 3 rfl Try.underlying33 ty_99 rfl rfl (by omega) (by omega))) ?_
          refine ga_only 7 #[true, true, true, true, true, true, true, true] rfl rfl (by kernel_rfl) rfl (.inr ⟨[0, 1, 2, 3], by decide, rfl⟩) (op_storeRowP 3 ty_99 rfl rfl rfl rfl rfl (by rw [flat_len Rv.cells 2 (fun _ => rfl)]; simp; omega) (putAt_flat Rv.cells 2 (fun _ => rfl) L i ⟨key, vs, r26, c26⟩ (by omega)) (by first | rfl | (simp only [List.set_cons_succ, List.set_cons_zero]; exact rfl)) ?_)
          refine ga_end (by kernel_rfl) (.inl (by kernel_rfl)) ?_
          refine gx_then ?_
          refine gc_seq ?_
          refine gc_region ?_
          refine gl_op (op_rd rfl (rd_assign rfl) ?_)
          refine gl_nil ?_
          refine gx_then ?_
          refine gc_ret ?_
          refine gx_then_ret ?_
          refine gx_ret1 (.inl rfl) Try.results18 rfl [2, 3, 1] (by decide) ?_
          exact .inr ⟨by unfold rputE; rw [if_neg (by omega), hp], r26, c26, rL, cL, L.set i ⟨key, vs, r26, c26⟩, rfl, .inl ⟨i, hp, rfl⟩, by simp only [RsH, RsC, List.length_set]; rfl⟩
        · skip
          have hpn : plN (key : Int) L = none := by
            cases hp : plN (key : Int) L with
            | none => rfl
            | some i => exfalso; unfold placeP at h32; rw [hp] at h32; simp only at h32; omega
          refine gl_nil ?_
          refine gx_then ?_
          refine gc_cond_f rfl ?_
          refine gc_skip ?_
          refine gx_then ?_
          refine gc_seq ?_
          refine gc_seq ?_
          refine gc_drawP [0, 1, 2, 3] true 11 rfl ?_
          refine ga_first 0 #[true, false, false, false, false, false, false, false, false, false, false, false] rfl rfl rfl rfl (by kernel_rfl) rfl ⟨[0, 1, 2, 3], by decide, rfl⟩ (qt_rd (rd_move rfl)) ?_
          refine ga_first 1 #[true, true, false, false, false, false, false, false, false, false, false, false] rfl rfl rfl rfl (by kernel_rfl) rfl ⟨[0, 1, 2, 3], by decide, rfl⟩ (qt_rd (rd_nilCheck rfl)) ?_
          refine ga_first 2 #[true, true, true, false, false, false, false, false, false, false, false, false] rfl rfl rfl rfl (by kernel_rfl) rfl ⟨[0, 1, 2, 3], by decide, rfl⟩ (qt_rd (rd_fieldAddr rfl (fa_35_1 _))) ?_
          refine ga_first 3 #[true, true, true, true, false, false, false, false, false, false, false, false] rfl rfl rfl rfl (by kernel_rfl) rfl ⟨[0, 1, 2, 3], by decide, rfl⟩ (qt_rd (rd_load Try.underlying33 rfl rfl (by first | exact ld_blk 0 rfl rfl | exact ld_blk 2 rfl rfl | exact ld_old (by assumption) (by simp) | exact ld_cells (by assumption) (by simp) rfl))) ?_
          refine ga_first 4 #[true, true, true, true, true, false, false, false, false, false, false, false] rfl rfl rfl rfl (by kernel_rfl) rfl ⟨[0, 1, 2, 3], by decide, rfl⟩ (qt_rd (rd_lenSlice Try.underlying33 rfl)) ?_
          refine ga_first 5 #[true, true, true, true, true, true, false, false, false, false, false, false] rfl rfl rfl rfl (by kernel_rfl) rfl ⟨[0, 1, 2, 3], by decide, rfl⟩ (qt_rd (rd_move rfl)) ?_
          refine ga_first 6 #[true, true, true, true, true, true, true, false, false, false, false, false] rfl rfl rfl rfl (by kernel_rfl) rfl ⟨[0, 1, 2, 3], by decide, rfl⟩ (qt_rd (rd_nilCheck rfl)) ?_
          refine ga_first 7 #[true, true, true, true, true, true, true, true, false, false, false, false] rfl rfl rfl rfl (by kernel_rfl) rfl ⟨[0, 1, 2, 3], by decide, rfl⟩ (qt_rd (rd_fieldAddr rfl (fa_35_0 _))) ?_
          refine ga_first 8 #[true, true, true, true, true, true, true, true, true, false, false, false] rfl rfl rfl rfl (by kernel_rfl) rfl ⟨[0, 1, 2, 3], by decide, rfl⟩ (qt_rd (rd_load Try.underlying3 rfl rfl (by first | exact ld_blk 0 rfl rfl | exact ld_blk 2 rfl rfl | exact ld_rowN 1 rfl (get_nats (by omega)) | exact ld_rowN 3 rfl (get_nats (by omega)) | exact ld_slN (by assumption) (get_nats (by omega)) | exact ld_rowN 1 rfl (get_ints (by omega)) | exact ld_rowN 3 rfl (get_ints (by omega)) | exact ld_slN (by assumption) (get_ints (by omega)) | exact ld_old (by assumption) (by simp) | exact ld_cells (by assumption) (by simp) rfl))) ?_
          refine ga_first 9 #[true, true, true, true, true, true, true, true, true, true, false, false] rfl rfl rfl rfl (by kernel_rfl) rfl ⟨[0, 1, 2, 3], by decide, rfl⟩ (qt_rd (by first | exact rd_subN (b := 2) rfl rfl (by omega) (by omega) | exact rd_sub rfl rfl (by omega) (by omega))) ?_
          refine ga_first 10 #[true, true, true, true, true, true, true, true, true, true, true, false] rfl rfl rfl rfl (by kernel_rfl) rfl ⟨[0, 1, 2, 3], by decide, rfl⟩ (qt_rd (by first | exact rd_mulN (a := 10) rfl rfl (by omega) | exact rd_mul rfl rfl (by omega) (by omega))) ?_
          refine ga_first 11 #[true, true, true, true, true, true, true, true, true, true, true, true] rfl rfl rfl rfl (by kernel_rfl) rfl ⟨[0, 1, 2, 3], by decide, rfl⟩ (qt_rd (rd_geq rfl rfl)) (gk_dec (fun h51 => ?_) (fun h51 => ?_))
          · skip
            refine ga_end (by kernel_rfl) (.inr ⟨[0, 1, 2, 3], by decide, rfl⟩) ?_
            refine gx_then ?_
            refine gc_cond_t rfl ?_
            refine gc_seq ?_
            refine gc_region ?_
            refine gl_op (op_rd rfl (rd_assign rfl) ?_)
            refine gl_nil ?_
            refine gx_then ?_
            refine gc_ret ?_
            refine gx_then_ret ?_
            refine gx_ret1 (.inl rfl) Try.results18 rfl [2, 3] (by decide) ?_
            exact .inl ⟨by unfold rputE; rw [if_neg (by omega), hpn]; simp only; rw [if_pos (by omega)]; decide, by unfold rputE; rw [if_neg (by omega), hpn]; simp only; rw [if_pos (by omega)], rfl⟩
          · skip
            refine ga_end (by kernel_rfl) (.inr ⟨[0, 1, 2, 3], by decide, rfl⟩) ?_
            refine gx_then ?_
            refine gc_cond_f rfl ?_
            refine gc_skip ?_
            refine gx_then ?_
            refine gc_seq ?_
            refine gc_region ?_
            refine gl_op (op_rd rfl (rd_assign rfl) ?_)
            refine gl_nil ?_
            refine gx_then ?_
            refine gc_seq ?_
            refine gc_seq ?_
            refine gc_region ?_
            refine gl_op (op_rd rfl (rd_assign rfl) ?_)
            refine gl_nil ?_
            refine gx_then ?_
            refine gc_block ?_
            refine gk_nil 99 2 ?_
            refine gc_loopF (ι := Nat × Option Nat × Nat) [(0, _), (1, _), (7, _)] [_, _, _, _] (fun i => i.1 ≤ L.length ∧ ∀ j y, j < i.1 → L[j]? = some y → y.key < key) (fun i Fr0 => ((9, .slice (rowA i.2.1) i.1 i.2.2) :: (10, natV i.1) :: Fr0)) (fun i Fr0 => (.row 99 2 i.2.1 i.1 i.2.2 ((L.take i.1).flatMap Rv.cells) :: Fr0)) (fun i => L.length - i.1) (0, none, 0) (⟨Nat.zero_le _, fun j y h => absurd h (Nat.not_lt_zero _)⟩) ⟨rfl, rfl, rfl, rfl, rfl, trivial⟩ ⟨[0, 1, 2, 3, 4], by decide, rfl⟩ ?_
            rintro ⟨i, ro, co⟩ ⟨hi, hb⟩
            simp only at hi hb ⊢
            refine gc_seq ?_
            refine gc_seq ?_
            refine gc_region ?_
            refine gl_op (op_rd rfl (rd_move rfl) ?_)
            refine gl_op (op_rd rfl (rd_move rfl) ?_)
            refine gl_op (op_rd rfl (rd_nilCheck rfl) ?_)
            refine gl_op (op_rd rfl (rd_fieldAddr rfl (fa_35_1 _)) ?_)
            refine gl_op (op_rd rfl (rd_load Try.underlying33 rfl rfl (by first | exact ld_blk 1 rfl rfl | exact ld_blk 3 rfl rfl | exact ld_old (by assumption) (by simp) | exact ld_cells (by assumption) (by simp) rfl)) ?_)
            refine gl_op (op_rd rfl (rd_lenSlice Try.underlying33 rfl) ?_)
            refine gl_op (op_rd rfl (rd_lss rfl rfl) (gk_dec (fun h58 => ?_) (fun h58 => ?_)))
            · skip
              obtain ⟨x, hx⟩ := get_some (show i < L.length by omega)
              refine gl_op (op_rd rfl (rd_move rfl) ?_)
              refine gl_yes rfl rfl (op_rd rfl (rd_move rfl) ?_)
              refine gl_yes rfl rfl (op_rd rfl (rd_nilCheck rfl) ?_)
              refine gl_yes rfl rfl (op_rd rfl (rd_fieldAddr rfl (fa_35_1 _)) ?_)
              refine gl_yes rfl rfl (op_rd rfl (rd_load Try.underlying33 rfl rfl (by first | exact ld_blk 1 rfl rfl | exact ld_blk 3 rfl rfl | exact ld_old (by assumption) (by simp) | exact ld_cells (by assumption) (by simp) rfl)) ?_)
              refine gl_yes rfl rfl (op_rd rfl (rd_move rfl) ?_)
              refine gl_yes rfl rfl (op_rd rfl (rd_indexRow 4 rfl Try.underlying33 ty_99 rfl rfl (by omega) (by omega)) ?_)
              refine gl_yes rfl rfl (op_rd rfl (rd_fieldAddr rfl (fa_99_0 _)) ?_)
              refine gl_yes rfl rfl (op_rd rfl (rd_load Try.underlying3 rfl rfl (ld_rowN 4 rfl (get_flat Rv.cells 2 (fun _ => rfl) hx (j := 0) (by decide) rfl))) ?_)
              refine gl_yes rfl rfl (op_rd rfl (rd_move rfl) ?_)
              refine gl_yes rfl rfl (op_rd rfl (rd_lss rfl rfl) (gk_dec (fun h69 => ?_) (fun h69 => ?_)))
              · skip
                refine gl_op (op_rd rfl (rd_pick_t rfl rfl) ?_)
                refine gl_nil ?_
                refine gx_then ?_
                refine gc_cond_t rfl ?_
                refine gc_skip ?_
                refine gx_then ?_
                refine gc_seq ?_
                refine gc_block ?_
                refine gc_region ?_
                refine gl_op (op_rd rfl (rd_move rfl) ?_)
                refine gl_op (op_rd rfl (rd_move rfl) ?_)
                refine gl_op (op_rd rfl (rd_nilCheck rfl) ?_)
                refine gl_op (op_rd rfl (rd_fieldAddr rfl (fa_35_1 _)) ?_)
                refine gl_op (op_rd rfl (rd_load Try.underlying33 rfl rfl (by first | exact ld_blk 1 rfl rfl | exact ld_blk 3 rfl rfl | exact ld_old (by assumption) (by simp) | exact ld_cells (by assumption) (by simp) rfl)) ?_)
                refine gl_op (op_rd rfl (rd_move rfl) ?_)
                refine gl_op (op_rd rfl (rd_indexRow 4 rfl Try.underlying33 ty_99 rfl rfl (by omega) (by omega)) ?_)
                refine gl_op (op_rd rfl (rd_loadAgg Try.underlying99 rfl ty_99 rfl (cs_rowN 4 rfl (flat_drop_get Rv.cells 2 (fun _ => rfl) hx)) rfl) ?_)
                refine gl_op (op_buildSlice (sz := 2) rfl rfl (fun _ => bs_33_1_0 _ _ _ _) rfl rfl (fun b81 => ?_))
                refine gl_op (op_appendRow 1 0 Try.underlying33 ty_99 rfl (by decide) rfl rfl rfl rfl rfl (by simp [Value.oneCell']) (by omega) (by omega) (fun _ => (by first | rfl | (simp only [List.set_cons_succ, List.set_cons_zero]; exact rfl))) (fun r82 c82 => ?_))
                refine gl_op (op_rd rfl (rd_assign rfl) ?_)
                refine gl_nil ?_
                refine gx_block ?_
                refine gx_then ?_
                refine gc_region ?_
                refine gl_op (op_rd rfl (rd_move rfl) ?_)
                refine gl_op (op_rd rfl (by first | exact rd_addN (b := 1) rfl rfl (by omega) | exact rd_add rfl rfl (by omega) (by omega)) ?_)
                refine gl_op (op_rd rfl (rd_assign rfl) ?_)
                refine gl_nil ?_
                refine gx_then ?_
                rw [show (L.take i).flatMap Rv.cells ++ [Value.int .i64 (x.key : Int), .slice (rowA x.r) x.val.length x.c] = (L.take (i + 1)).flatMap Rv.cells by rw [take_at hx, List.flatMap_append]; simp [Rv.cells]]
                exact gx_cut ((i + 1, r82, c82)) ⟨⟨by simp only; omega, fun j y hj hy => by simp only at hj; rcases (show j < i ∨ j = i by omega) with h | h; exact hb j y h hy; subst h; rw [hx] at hy; cases hy; omega⟩, by simp only; omega⟩ ⟨rfl, rfl, rfl, rfl, rfl, trivial⟩ ⟨[1, 2, 3, 4, 5], by decide, rfl⟩
              · skip
                have hge : ∀ y, L[i]? = some y → ¬ y.key < key := fun y hy => by rw [hx] at hy; cases hy; omega
                refine gl_op (op_rd rfl (rd_pick_t rfl rfl) ?_)
                refine gl_nil ?_
                refine gx_then ?_
                refine gc_cond_f rfl ?_
                refine gc_exit ?_
                refine gx_then_exit ?_
                refine gx_then_exit ?_
                refine gx_block_exit ?_
                refine gx_then ?_
                refine gc_seq ?_
                refine gc_region ?_
                refine gl_op (op_rd rfl (rd_move rfl) ?_)
                refine gl_op (op_rd rfl (rd_lenSlice Try.underlying33 rfl) ?_)
                refine gl_op (op_rd rfl (rd_assign rfl) ?_)
                refine gl_nil ?_
                refine gx_then ?_
                refine gc_seq ?_
                refine gc_region ?_
                refine gl_op (op_rd rfl (rd_move rfl) ?_)
                refine gl_op (op_rd rfl (rd_loadAgg Try.underlying99 rfl ty_99 rfl (by first | exact cs_blk 1 (off := 0) (k := 2) rfl rfl | exact cs_blk 3 (off := 0) (k := 2) rfl rfl | exact cs_old (by assumption) (by simp)) rfl) ?_)
                refine gl_op (op_buildSlice (sz := 2) rfl rfl (fun _ => bs_33_1_0 _ _ _ _) rfl rfl (fun b87 => ?_))
                refine gl_op (op_appendRow 1 0 Try.underlying33 ty_99 rfl (by decide) rfl rfl rfl rfl rfl (by simp [Value.oneCell']) (by omega) (by omega) (fun _ => (by first | rfl | (simp only [List.set_cons_succ, List.set_cons_zero]; exact rfl))) (fun r88 c88 => ?_))
                refine gl_op (op_rd rfl (rd_assign rfl) ?_)
                refine gl_nil ?_
                refine gx_then ?_
                refine gc_seq ?_
                refine gc_region ?_
                refine gl_op (op_rd rfl (rd_move rfl) ?_)
                refine gl_op (op_rd rfl (rd_move rfl) ?_)
                refine gl_op (op_rd rfl (rd_move rfl) ?_)
                refine gl_op (op_rd rfl (rd_nilCheck rfl) ?_)
                refine gl_op (op_rd rfl (rd_fieldAddr rfl (fa_35_1 _)) ?_)
                refine gl_op (op_rd rfl (rd_load Try.underlying33 rfl rfl (by first | exact ld_blk 2 rfl rfl | exact ld_blk 4 rfl rfl | exact ld_old (by assumption) (by simp) | exact ld_cells (by assumption) (by simp) rfl)) ?_)
                refine gl_op (op_rd rfl (rd_move rfl) ?_)
                refine gl_op (op_rd rfl (rd_sliceLo Try.underlying33 ty_99 rfl rfl (by omega) (by omega)) ?_)
                refine gl_op (op_appendOf 1 (fun w ho => by have h := slDrop (q := i) (cap := cL) (ho.rowSl 5 rfl) (by omega) hcL; rw [flat_dropL] at h; exact h) Try.underlying33 ty_99 rfl (by decide) rfl rfl rfl rfl rv_one (by omega) (by omega) (fun _ => (by first | rfl | (simp only [List.set_cons_succ, List.set_cons_zero]; exact rfl))) (fun rz cz => ?_))
                refine gl_op (op_rd rfl (rd_nilCheck rfl) ?_)
                refine gl_op (op_rd rfl (rd_fieldAddr rfl (fa_35_1 _)) ?_)
                first | refine gl_op (op_store 2 ty_33 rfl rfl rfl rfl rfl (by first | rfl | (simp only [List.set_cons_succ, List.set_cons_zero]; exact rfl)) (by first | rfl | (simp only [List.set_cons_succ, List.set_cons_zero]; exact rfl)) ?_) | refine gl_op (op_store 4 ty_33 rfl rfl rfl rfl rfl (by first | rfl | (simp only [List.set_cons_succ, List.set_cons_zero]; exact rfl)) (by first | rfl | (simp only [List.set_cons_succ, List.set_cons_zero]; exact rfl)) ?_) | refine gl_op (op_storeRow 0 ty_33 rfl rfl rfl rfl (by simp; omega) (by first | rfl | (simp only [List.set_cons_succ, List.set_cons_zero]; exact rfl)) ?_) | refine gl_op (op_storeRow 1 ty_33 rfl rfl rfl rfl (by simp; omega) (by first | rfl | (simp only [List.set_cons_succ, List.set_cons_zero]; exact rfl)) ?_) | refine gl_op (op_storeRow 3 ty_33 rfl rfl rfl rfl (by simp; omega) (by first | rfl | (simp only [List.set_cons_succ, List.set_cons_zero]; exact rfl)) ?_) | refine gl_op (op_storeRow 5 ty_33 rfl rfl rfl rfl (by simp; omega) (by first | rfl | (simp only [List.set_cons_succ, List.set_cons_zero]; exact rfl)) ?_)
                refine gl_nil ?_
                refine gx_then ?_
                refine gc_seq ?_
                refine gc_region ?_
                refine gl_op (op_rd rfl (rd_assign rfl) ?_)
                refine gl_nil ?_
                refine gx_then ?_
                refine gc_ret ?_
                refine gx_ret1 (.inl rfl) Try.results18 rfl [4, 1, 3] (by decide) ?_
                rw [Int.toNat_natCast, ins_len L ⟨key, vs, r26, c26⟩ hi]
                exact .inr ⟨by unfold rputE; rw [if_neg (by omega), hpn]; simp only; rw [if_neg (by omega)], r26, c26, rz, cz, L.take i ++ ⟨key, vs, r26, c26⟩ :: L.drop i, rfl, .inr ⟨hpn, i, hi, rfl, hb, hge⟩, by rw [show (L.take i).flatMap Rv.cells ++ [Value.int .i64 (key : Int), .slice (rowA r26) vs.length c26] ++ (L.drop i).flatMap Rv.cells = (L.take i ++ (⟨key, vs, r26, c26⟩ : Rv) :: L.drop i).flatMap Rv.cells by simp [Rv.cells]]; rfl⟩
            · skip
              have hge : ∀ y, L[i]? = some y → ¬ y.key < key := fun y hy => by rw [List.getElem?_eq_none (by omega)] at hy; cases hy
              refine gl_op (op_rd rfl (rd_move rfl) ?_)
              refine gl_no rfl rfl rfl ?_
              refine gl_no rfl rfl rfl ?_
              refine gl_no rfl rfl rfl ?_
              refine gl_no rfl rfl rfl ?_
              refine gl_no rfl rfl rfl ?_
              refine gl_no rfl rfl rfl ?_
              refine gl_no rfl rfl rfl ?_
              refine gl_no rfl rfl rfl ?_
              refine gl_no rfl rfl rfl ?_
              refine gl_no rfl rfl rfl ?_
              refine gl_op (op_rd rfl (rd_pick_f rfl rfl) ?_)
              refine gl_nil ?_
              refine gx_then ?_
              refine gc_cond_f rfl ?_
              refine gc_exit ?_
              refine gx_then_exit ?_
              refine gx_then_exit ?_
              refine gx_block_exit ?_
              refine gx_then ?_
              refine gc_seq ?_
              refine gc_region ?_
              refine gl_op (op_rd rfl (rd_move rfl) ?_)
              refine gl_op (op_rd rfl (rd_lenSlice Try.underlying33 rfl) ?_)
              refine gl_op (op_rd rfl (rd_assign rfl) ?_)
              refine gl_nil ?_
              refine gx_then ?_
              refine gc_seq ?_
              refine gc_region ?_
              refine gl_op (op_rd rfl (rd_move rfl) ?_)
              refine gl_op (op_rd rfl (rd_loadAgg Try.underlying99 rfl ty_99 rfl (by first | exact cs_blk 1 (off := 0) (k := 2) rfl rfl | exact cs_blk 3 (off := 0) (k := 2) rfl rfl | exact cs_old (by assumption) (by simp)) rfl) ?_)
              refine gl_op (op_buildSlice (sz := 2) rfl rfl (fun _ => bs_33_1_0 _ _ _ _) rfl rfl (fun b87 => ?_))
              refine gl_op (op_appendRow 1 0 Try.underlying33 ty_99 rfl (by decide) rfl rfl rfl rfl rfl (by simp [Value.oneCell']) (by omega) (by omega) (fun _ => (by first | rfl | (simp only [List.set_cons_succ, List.set_cons_zero]; exact rfl))) (fun r88 c88 => ?_))
              refine gl_op (op_rd rfl (rd_assign rfl) ?_)
              refine gl_nil ?_
              refine gx_then ?_
              refine gc_seq ?_
              refine gc_region ?_
              refine gl_op (op_rd rfl (rd_move rfl) ?_)
              refine gl_op (op_rd rfl (rd_move rfl) ?_)
              refine gl_op (op_rd rfl (rd_move rfl) ?_)
              refine gl_op (op_rd rfl (rd_nilCheck rfl) ?_)
              refine gl_op (op_rd rfl (rd_fieldAddr rfl (fa_35_1 _)) ?_)
              refine gl_op (op_rd rfl (rd_load Try.underlying33 rfl rfl (by first | exact ld_blk 2 rfl rfl | exact ld_blk 4 rfl rfl | exact ld_old (by assumption) (by simp) | exact ld_cells (by assumption) (by simp) rfl)) ?_)
              refine gl_op (op_rd rfl (rd_move rfl) ?_)
              refine gl_op (op_rd rfl (rd_sliceLo Try.underlying33 ty_99 rfl rfl (by omega) (by omega)) ?_)
              refine gl_op (op_appendOf 1 (fun w ho => by have h := slDrop (q := i) (cap := cL) (ho.rowSl 5 rfl) (by omega) hcL; rw [flat_dropL] at h; exact h) Try.underlying33 ty_99 rfl (by decide) rfl rfl rfl rfl rv_one (by omega) (by omega) (fun _ => (by first | rfl | (simp only [List.set_cons_succ, List.set_cons_zero]; exact rfl))) (fun rz cz => ?_))
              refine gl_op (op_rd rfl (rd_nilCheck rfl) ?_)
              refine gl_op (op_rd rfl (rd_fieldAddr rfl (fa_35_1 _)) ?_)
              first | refine gl_op (op_store 2 ty_33 rfl rfl rfl rfl rfl (by first | rfl | (simp only [List.set_cons_succ, List.set_cons_zero]; exact rfl)) (by first | rfl | (simp only [List.set_cons_succ, List.set_cons_zero]; exact rfl)) ?_) | refine gl_op (op_store 4 ty_33 rfl rfl rfl rfl rfl (by first | rfl | (simp only [List.set_cons_succ, List.set_cons_zero]; exact rfl)) (by first | rfl | (simp only [List.set_cons_succ, List.set_cons_zero]; exact rfl)) ?_) | refine gl_op (op_storeRow 0 ty_33 rfl rfl rfl rfl (by simp; omega) (by first | rfl | (simp only [List.set_cons_succ, List.set_cons_zero]; exact rfl)) ?_) | refine gl_op (op_storeRow 1 ty_33 rfl rfl rfl rfl (by simp; omega) (by first | rfl | (simp only [List.set_cons_succ, List.set_cons_zero]; exact rfl)) ?_) | refine gl_op (op_storeRow 3 ty_33 rfl rfl rfl rfl (by simp; omega) (by first | rfl | (simp only [List.set_cons_succ, List.set_cons_zero]; exact rfl)) ?_) | refine gl_op (op_storeRow 5 ty_33 rfl rfl rfl rfl (by simp; omega) (by first | rfl | (simp only [List.set_cons_succ, List.set_cons_zero]; exact rfl)) ?_)
              refine gl_nil ?_
              refine gx_then ?_
              refine gc_seq ?_
              refine gc_region ?_
              refine gl_op (op_rd rfl (rd_assign rfl) ?_)
              refine gl_nil ?_
              refine gx_then ?_
              refine gc_ret ?_
              refine gx_ret1 (.inl rfl) Try.results18 rfl [4, 1, 3] (by decide) ?_
              rw [Int.toNat_natCast, ins_len L ⟨key, vs, r26, c26⟩ hi]
              exact .inr ⟨by unfold rputE; rw [if_neg (by omega), hpn]; simp only; rw [if_neg (by omega)], r26, c26, rz, cz, L.take i ++ ⟨key, vs, r26, c26⟩ :: L.drop i, rfl, .inr ⟨hpn, i, hi, rfl, hb, hge⟩, by rw [show (L.take i).flatMap Rv.cells ++ [Value.int .i64 (key : Int), .slice (rowA r26) vs.length c26] ++ (L.drop i).flatMap Rv.cells = (L.take i ++ (⟨key, vs, r26, c26⟩ : Rv) :: L.drop i).flatMap Rv.cells by simp [Rv.cells]]; rfl⟩

end Go.Proofs.Ythcbcdjkfefnlaa

set_option autoImplicit false
set_option linter.unusedVariables false
namespace Go.Proofs.Ythcbcdjkfefnlaa
open Go.Gv
open Go.RowKit
open Iv
namespace Iv
/-- a store that is at work -/
structure StOk (f : Fl) (id : Nat) (m : List (ME He)) (nb : Nat) (T : List HL) (num fb : Nat) (V : Vals) : Prop where
  ok : f.Ok
  dn : f.down = false
  hid : id = f.st
  ms : MSt m nb T
  si : SI f.b (plain m) num fb V
  cap : m.length ≤ 10 * (f.b.length / 256 - 2)
/-- the reference's store says the same -/
structure RfOk (L : List Rv) (T : List HL) (V : Vals) : Prop where
  row : ∀ x ∈ L, x.row ∈ T
  key : ∀ x ∈ L, x.key ≤ 999
  len : ∀ x ∈ L, x.val.length ≤ 16
  val : ∀ x ∈ L, ∀ z ∈ x.val, z < 256
  sort : (L.map Rv.key).Pairwise (· < ·)
  v1 : ∀ x ∈ L, ∃ m, V x.key = some (m, x.val)
  v2 : ∀ k, (V k).isSome = true → k ∈ L.map Rv.key
theorem StOk.ready {f : Fl} {id : Nat} {m : List (ME He)} {nb : Nat} {T : List HL} {num fb : Nat} {V : Vals} (h : StOk f id m nb T num fb V) : readyP f id = 0 := by
  unfold readyP; rw [if_neg (by rw [h.dn]; decide), if_neg (by rw [h.hid]; simp)]
theorem StOk.mono {f : Fl} {id : Nat} {m : List (ME He)} {nb : Nat} {T T' : List HL} {num fb : Nat} {V : Vals} (h : StOk f id m nb T num fb V) (hT : ∀ y ∈ T, y ∈ T') : StOk f id m nb T' num fb V := ⟨h.ok, h.dn, h.hid, h.ms.mono hT, h.si, h.cap⟩
theorem RfOk.mono {L : List Rv} {T T' : List HL} {V : Vals} (h : RfOk L T V) (hT : ∀ y ∈ T, y ∈ T') : RfOk L T' V := ⟨fun x hx => hT _ (h.row x hx), h.key, h.len, h.val, h.sort, h.v1, h.v2⟩
theorem pget_hit {k : Nat} {x : En} : ∀ {Q : List En}, pget k Q = some x → k ∈ Q.map En.key
  | [], h => by cases h
  | y :: l, h => by
    unfold pget at h
    split at h
    · rename_i e; rw [e]; simp
    · exact List.mem_cons_of_mem _ (pget_hit h)
theorem same_keys {f : Fl} {id : Nat} {m : List (ME He)} {nb : Nat} {T T2 : List HL} {num fb : Nat} {V : Vals} {L : List Rv} (h : StOk f id m nb T num fb V) (hr : RfOk L T2 V) : keysP (plain m) = L.map Rv.key ∧ m.length = L.length := by
  have hn : (L.map Rv.key).Nodup := hr.sort.imp fun h => Nat.ne_of_lt h
  have hp : (keysP (plain m)).Perm (L.map Rv.key) := by
    refine (srt_perm _).trans ((List.perm_ext_iff_of_nodup h.si.nd hn).2 fun k => ⟨fun hk => ?_, fun hk => ?_⟩)
    · refine hr.v2 k ?_
      obtain ⟨x, hx⟩ := Option.isSome_iff_exists.1 (pget_mem hk)
      rw [(h.si.so k x hx).2.2]; rfl
    · obtain ⟨x, hx, rfl⟩ := List.mem_map.1 hk
      obtain ⟨mm, hv⟩ := hr.v1 x hx
      cases e : pget x.key (plain m) with
      | none => rw [h.si.no _ e] at hv; cases hv
      | some y => exact pget_hit e
  refine ⟨List.Perm.eq_of_pairwise (le := (· ≤ ·)) (fun a b _ _ h1 h2 => Nat.le_antisymm h1 h2) (srt_sorted _) (hr.sort.imp fun h => Nat.le_of_lt h) hp, ?_⟩
  have := hp.length_eq
  rw [keysP_len] at this
  simpa [plain] using this
/-- what Get says -/
def sgetP (key : Int) (V : Vals) : List Nat × Int := if key < 0 ∨ 999 < key then ([], 2) else match V key.toNat with | none => ([], 0) | some p => (p.2, 0)
theorem RfOk.plN {L : List Rv} {T : List HL} {V : Vals} (h : RfOk L T V) {i : Nat} {x : Rv} (hx : L[i]? = some x) : plN (x.key : Int) L = some i := by
  refine plN_some hx rfl fun j y hj hy e => ?_
  have hi : i < L.length := by
    rcases Nat.lt_or_ge i L.length with h | h
    · exact h
    · rw [List.getElem?_eq_none h] at hx; cases hx
  have h1 := List.pairwise_iff_getElem.1 h.sort j i (by simp; omega) (by simp; omega) hj
  have ex : L[i] = x := by rw [List.getElem?_eq_getElem hi] at hx; exact Option.some.inj hx
  have ey : L[j]'(by omega) = y := by rw [List.getElem?_eq_getElem (by omega)] at hy; exact Option.some.inj hy
  simp only [List.getElem_map, ex, ey] at h1
  omega
theorem rget_sget {L : List Rv} {T : List HL} {V : Vals} (h : RfOk L T V) (key : Int) : rgetP key L = sgetP key V := by
  unfold rgetP sgetP
  split
  · rfl
  · rename_i hk
    obtain ⟨k, rfl⟩ : ∃ k : Nat, key = k := ⟨key.toNat, by omega⟩
    rw [Int.toNat_natCast]
    cases hp : Iv.plN (k : Int) L with
    | none =>
      cases hv : V k with
      | none => rfl
      | some p =>
        have := h.v2 k (by rw [hv]; rfl)
        obtain ⟨x, hx, e⟩ := List.mem_map.1 this
        exact absurd (by rw [e]) (plN_no hp x hx)
    | some i =>
      obtain ⟨x, hx, e⟩ := plN_at hp
      obtain ⟨mm, hv⟩ := h.v1 x (List.mem_of_getElem? hx)
      rw [show k = x.key by omega, hv]
      simp only
      rw [getD_at hx]
end Iv

set_option maxRecDepth 100000 in
set_option maxHeartbeats 2000000 in
theorem GetM_ok (f : Fl) (bs bf : Nat) (rb : Option Nat) (cb : Nat) (rp : Option Nat) (cp : Nat) (id bm num fb : Nat) (m : List (ME He)) (nb : Nat) (T : List HL) (V : Vals) (hst : StOk f id m nb T num fb V) (S : List Nat) (w0 : World) (hown : Own w0 S w0 (.blk bs [.bool true, .pointer (some ⟨bf, 0, none⟩), natV id, .map (some bm), .int .u32 ((num : Nat) : Int), .int .i64 ((fb : Nat) : Int)] 81 :: .obj bm (mapO HV m nb) :: (FlH bf rb cb rp cp f ++ T))) (key : Int) : Sp Try.prog 12 [.pointer (some ⟨bs, 0, none⟩), .int .i64 key] w0 S (fun v L => ∃ (r : Option Nat) (c : Nat), v = .tuple #[.slice (rowA r) (sgetP key V).1.length c, .int .i64 (sgetP key V).2] ∧ L = .row 5 1 r (sgetP key V).1.length c ((sgetP key V).1.map u8V) :: (.blk bs [.bool true, .pointer (some ⟨bf, 0, none⟩), natV id, .map (some bm), .int .u32 ((num : Nat) : Int), .int .i64 ((fb : Nat) : Int)] 81 :: .obj bm (mapO HV m nb) :: (FlH bf rb cb rp cp f ++ T))) := by
  refine spec_enter Try.func12 rfl Try.ntmps12 rfl hown ?_
  simp only [argEnv]
  refine gc_seq ?_
  refine gc_region ?_
  refine gl_op (op_rd rfl (rd_assign rfl) ?_)
  refine gl_op (op_rd rfl (rd_assign rfl) ?_)
  refine gl_nil ?_
  refine gx_then ?_
  refine gc_seq ?_
  refine gc_seq ?_
  refine gc_region ?_
  refine gl_op (op_rd rfl (rd_move rfl) ?_)
  refine gl_op (op_rd rfl (rd_eqlNilPt eg_29 Try.underlying29 rfl rfl) ?_)
  refine gl_op (op_rd rfl (rd_move rfl) ?_)
  refine gl_yes rfl rfl (op_rd rfl (rd_move rfl) ?_)
  refine gl_yes rfl rfl (op_rd rfl (rd_nilCheck rfl) ?_)
  refine gl_yes rfl rfl (op_rd rfl (rd_fieldAddr rfl (fa_81_0 _)) ?_)
  refine gl_yes rfl rfl (op_rd rfl (rd_load Try.underlying4 rfl rfl (by first | exact ld_blk 0 rfl rfl | exact ld_blk 2 rfl rfl | exact ld_rowN 3 rfl (get_bools (by omega)) | exact ld_rowN 4 rfl (get_bools (by omega)) | exact ld_slN (by assumption) (get_bools (by omega)) | exact ld_old (by assumption) (by simp) | exact ld_cells (by assumption) (by simp) rfl)) ?_)
  refine gl_yes rfl rfl (op_rd rfl (rd_not rfl) ?_)
  refine gl_op (op_rd rfl (rd_pick_f rfl rfl) ?_)
  refine gl_nil ?_
  refine gx_then ?_
  refine gc_cond_f rfl ?_
  refine gc_skip ?_
  refine gx_then ?_
  refine gc_seq ?_
  refine gc_seq ?_
  refine gc_region ?_
  refine gl_op (op_rd rfl (rd_move rfl) ?_)
  refine gl_op (op_rd rfl (rd_lss rfl rfl) (gk_dec (fun h17 => ?_) (fun h17 => ?_)))
  · skip
    refine gl_op (op_rd rfl (rd_move rfl) ?_)
    refine gl_no rfl rfl rfl ?_
    refine gl_no rfl rfl rfl ?_
    refine gl_op (op_rd rfl (rd_pick_t rfl rfl) ?_)
    refine gl_nil ?_
    refine gx_then ?_
    refine gc_cond_t rfl ?_
    refine gc_seq ?_
    refine gk_nil 5 1 ?_
    refine gc_region ?_
    refine gl_op (op_rd rfl (rd_assign rfl) ?_)
    refine gl_op (op_rd rfl (rd_assign rfl) ?_)
    refine gl_nil ?_
    refine gx_then ?_
    refine gc_ret ?_
    refine gx_then_ret ?_
    refine gx_ret2S (.inl rfl) Try.results12 rfl rfl (sub_tail (A := [_, _, _, _, _, _]) (B := [_, _, _, _, _, _]) (T := T) [0, 1, 2, 3, 4, 5] 6 (by decide) (by decide) rfl rfl) ?_
    rw [show sgetP key V = ([], 2) by unfold sgetP; rw [if_pos (by omega)]]
    exact ⟨none, 0, rfl, rfl⟩
  · skip
    refine gl_op (op_rd rfl (rd_move rfl) ?_)
    refine gl_yes rfl rfl (op_rd rfl (rd_move rfl) ?_)
    refine gl_yes rfl rfl (op_rd rfl (rd_gtr rfl rfl) (gk_dec (fun h20 => ?_) (fun h20 => ?_)))
    · skip
      refine gl_op (op_rd rfl (rd_pick_f rfl rfl) ?_)
      refine gl_nil ?_
      refine gx_then ?_
      refine gc_cond_t rfl ?_
      refine gc_seq ?_
      refine gk_nil 5 1 ?_
      refine gc_region ?_
      refine gl_op (op_rd rfl (rd_assign rfl) ?_)
      refine gl_op (op_rd rfl (rd_assign rfl) ?_)
      refine gl_nil ?_
      refine gx_then ?_
      refine gc_ret ?_
      refine gx_then_ret ?_
      refine gx_ret2S (.inl rfl) Try.results12 rfl rfl (sub_tail (A := [_, _, _, _, _, _]) (B := [_, _, _, _, _, _]) (T := T) [0, 1, 2, 3, 4, 5] 6 (by decide) (by decide) rfl rfl) ?_
      rw [show sgetP key V = ([], 2) by unfold sgetP; rw [if_pos (by omega)]]
      exact ⟨none, 0, rfl, rfl⟩
    · skip
      refine gl_op (op_rd rfl (rd_pick_f rfl rfl) ?_)
      refine gl_nil ?_
      refine gx_then ?_
      refine gc_cond_f rfl ?_
      refine gc_skip ?_
      refine gx_then ?_
      refine gc_seq ?_
      refine gc_seq ?_
      refine gc_region ?_
      refine gl_op (op_rd rfl (rd_move rfl) ?_)
      refine gl_op (op_call rfl (vf := []) (vc := []) rfl rfl Try.call41 (fun w1 ho => ready_q f hst.ok bs bf rb cb rp cp id bm num fb w1 (ho.blkCells 0 rfl) (ho.blkCells 2 rfl)) ?_)
      rintro _ _ ⟨rfl, rfl⟩
      rw [hst.ready]
      refine gl_op (op_rd rfl (rd_assign rfl) ?_)
      refine gl_nil ?_
      refine gx_then ?_
      refine gc_seq ?_
      refine gc_region ?_
      refine gl_op (op_rd rfl (rd_move rfl) ?_)
      refine gl_op (op_rd rfl (rd_neq rfl rfl) (gk_dec (fun h25 => ?_) (fun h25 => ?_)))
      · skip
        exact absurd rfl h25
      · skip
        refine gl_nil ?_
        refine gx_then ?_
        refine gc_cond_f rfl ?_
        refine gc_skip ?_
        refine gx_then ?_
        refine gc_seq ?_
        obtain ⟨k, rfl⟩ : ∃ k : Nat, key = k := ⟨key.toNat, by omega⟩
        rcases hg : mget ((k : Nat) : Int) m with _ | o
        · skip
          refine gc_region ?_
          refine gl_op (op_rd rfl (rd_move rfl) ?_)
          refine gl_op (op_rd rfl (rd_nilCheck rfl) ?_)
          refine gl_op (op_rd rfl (rd_fieldAddr rfl (fa_81_3 _)) ?_)
          refine gl_op (op_rd rfl (rd_load Try.underlying78 rfl rfl (by first | exact ld_blk 0 rfl rfl | exact ld_blk 2 rfl rfl | exact ld_old (by assumption) (by simp) | exact ld_cells (by assumption) (by simp) rfl)) ?_)
          refine gl_op (op_rd rfl (rd_move rfl) ?_)
          have hV : V k = none := hst.si.no k (hst.ms.none hg)
          refine gl_op (op_rd rfl (rd_lookupM 1 HV rfl Try.underlying78 Try.underlying3 ty_96 rfl rfl) ?_)
          rw [hg, Option.map_none, Option.getD_none]
          refine gl_op (op_rd rfl (rd_field rfl (fd_96_0 _ _ _ _ _ _ _)) ?_)
          refine gl_op (op_rd rfl (rd_field rfl (fd_92_2 _ _ _ _ _)) ?_)
          refine gl_op (op_call rfl (vf := []) (vc := []) rfl rfl Try.call42 (fun w2 ho => Clone_ok [] none 0 w2 (oldNil _ _ 1) (by decide)) ?_)
          rintro _ _ ⟨rc, cc, rfl, rfl⟩
          refine gl_op (op_rd rfl (rd_assign rfl) ?_)
          refine gl_op (op_rd rfl (rd_assign rfl) ?_)
          refine gl_nil ?_
          refine gx_then ?_
          refine gc_ret ?_
          refine gx_ret2S (.inl rfl) Try.results12 rfl rfl (sub_tail (A := [_, _, _, _, _, _]) (B := [_, _, _, _, _, _]) (T := T) [0, 1, 2, 3, 4, 5] 6 (by decide) (by decide) rfl rfl) ?_
          rw [show sgetP ((k : Nat) : Int) V = ([], 0) by unfold sgetP; rw [if_neg (by omega), Int.toNat_natCast, hV]]
          exact ⟨rc, cc, rfl, rfl⟩
        · skip
          refine gc_region ?_
          refine gl_op (op_rd rfl (rd_move rfl) ?_)
          refine gl_op (op_rd rfl (rd_nilCheck rfl) ?_)
          refine gl_op (op_rd rfl (rd_fieldAddr rfl (fa_81_3 _)) ?_)
          refine gl_op (op_rd rfl (rd_load Try.underlying78 rfl rfl (by first | exact ld_blk 0 rfl rfl | exact ld_blk 2 rfl rfl | exact ld_old (by assumption) (by simp) | exact ld_cells (by assumption) (by simp) rfl)) ?_)
          refine gl_op (op_rd rfl (rd_move rfl) ?_)
          obtain ⟨hoe, hor, hok, hpg⟩ := hst.ms.get hg
          have hV : V k = some (o.en.num, o.en.val) := (hst.si.so k o.en hpg).2.2
          have ho16 := hoe.len
          refine gl_op (op_rd rfl (rd_lookupM 1 HV rfl Try.underlying78 Try.underlying3 ty_96 rfl rfl) ?_)
          rw [hg, Option.map_some, Option.getD_some]
          refine gl_op (op_rd rfl (rd_field rfl (fd_96_0 _ _ _ _ _ _ _)) ?_)
          refine gl_op (op_rd rfl (rd_field rfl (fd_92_2 _ _ _ _ _)) ?_)
          refine gl_op (op_call rfl (vf := []) (vc := []) rfl rfl Try.call42 (fun w2 ho => Clone_ok o.en.val (rowA o.r) o.c w2 (ho.memSl (show o.row ∈ _ from by simp [hor])) (by omega)) ?_)
          rintro _ _ ⟨rc, cc, rfl, rfl⟩
          refine gl_op (op_rd rfl (rd_assign rfl) ?_)
          refine gl_op (op_rd rfl (rd_assign rfl) ?_)
          refine gl_nil ?_
          refine gx_then ?_
          refine gc_ret ?_
          refine gx_ret2S (.inl rfl) Try.results12 rfl rfl (sub_tail (A := [_, _, _, _, _, _]) (B := [_, _, _, _, _, _]) (T := T) [0, 1, 2, 3, 4, 5] 6 (by decide) (by decide) rfl rfl) ?_
          rw [show sgetP ((k : Nat) : Int) V = (o.en.val, 0) by unfold sgetP; rw [if_neg (by omega), Int.toNat_natCast, hV]]
          exact ⟨rc, cc, rfl, rfl⟩

set_option maxRecDepth 100000 in
set_option maxHeartbeats 1000000 in
theorem Keys_ok (f : Fl) (bs bf : Nat) (rb : Option Nat) (cb : Nat) (rp : Option Nat) (cp : Nat) (id bm num fb : Nat) (m : List (ME He)) (nb : Nat) (T : List HL) (V : Vals) (hst : StOk f id m nb T num fb V) (S : List Nat) (w0 : World) (hown : Own w0 S w0 (.blk bs [.bool true, .pointer (some ⟨bf, 0, none⟩), natV id, .map (some bm), .int .u32 ((num : Nat) : Int), .int .i64 ((fb : Nat) : Int)] 81 :: .obj bm (mapO HV m nb) :: FlH bf rb cb rp cp f)) : Sp Try.prog 24 [.pointer (some ⟨bs, 0, none⟩)] w0 S (fun v L => ∃ (r : Option Nat) (c : Nat), v = .tuple #[.slice (rowA r) (keysP (plain m)).length c, .int .i64 0] ∧ L = (.blk bs [.bool true, .pointer (some ⟨bf, 0, none⟩), natV id, .map (some bm), .int .u32 ((num : Nat) : Int), .int .i64 ((fb : Nat) : Int)] 81 :: .obj bm (mapO HV m nb) :: FlH bf rb cb rp cp f) ++ [.row 3 1 r (keysP (plain m)).length c ((keysP (plain m)).map natV)]) := by
  have hbl := hst.ok.hi
  have hcap := hst.cap
  refine spec_enter Try.func24 rfl Try.ntmps24 rfl hown ?_
  simp only [argEnv]
  refine gc_seq ?_
  refine gc_region ?_
  refine gl_op (op_rd rfl (rd_assign rfl) ?_)
  refine gl_op (op_rd rfl (rd_assign rfl) ?_)
  refine gl_nil ?_
  refine gx_then ?_
  refine gc_seq ?_
  refine gc_seq ?_
  refine gc_region ?_
  refine gl_op (op_rd rfl (rd_move rfl) ?_)
  refine gl_op (op_call rfl (vf := []) (vc := []) rfl rfl Try.call41 (fun w1 ho => ready_q f hst.ok bs bf rb cb rp cp id bm num fb w1 (ho.blkCells 0 rfl) (ho.blkCells 2 rfl)) ?_)
  rintro _ _ ⟨rfl, rfl⟩
  rw [hst.ready]
  refine gl_op (op_rd rfl (rd_assign rfl) ?_)
  refine gl_nil ?_
  refine gx_then ?_
  refine gc_seq ?_
  refine gc_region ?_
  refine gl_op (op_rd rfl (rd_move rfl) ?_)
  refine gl_op (op_rd rfl (rd_neq rfl rfl) (gk_dec (fun h8 => ?_) (fun h8 => ?_)))
  · skip
    exact absurd rfl h8
  · skip
    refine gl_nil ?_
    refine gx_then ?_
    refine gc_cond_f rfl ?_
    refine gc_skip ?_
    refine gx_then ?_
    refine gc_seq ?_
    refine gc_region ?_
    refine gl_op (op_rd rfl (rd_move rfl) ?_)
    refine gl_op (op_callM [0, 1, 2, 3, 4] [] rfl (vf := []) (vc := []) rfl rfl Try.call53 (by decide) rfl (fun w how hc => keys_ok f hst.ok bs bf rb cb rp cp id bm num fb m nb T hst.ms _ w hc (by omega)) ?_)
    rintro _ _ ⟨rk, ck, rfl, rfl⟩
    refine gl_op (op_rd rfl (rd_assign rfl) ?_)
    refine gl_op (op_rd rfl (rd_assign rfl) ?_)
    refine gl_nil ?_
    refine gx_then ?_
    refine gc_ret ?_
    refine gx_ret2 (.inl rfl) Try.results24 rfl rfl [0, 1, 2, 3, 4, 5] (by decide) ?_
    exact ⟨rk, ck, rfl, rfl⟩

end Go.Proofs.Ythcbcdjkfefnlaa

set_option autoImplicit false
set_option linter.unusedVariables false
namespace Go.Proofs.Ythcbcdjkfefnlaa
open Go.Gv
open Go.RowKit
open Iv
namespace Iv
theorem si_len {b b' : List Nat} {P P' : List En} {n n' fb fb' : Nat} {V : Vals} (h : SI b P n fb V) (h' : SI b' P' n' fb' V) : P.length = P'.length := by
  have hp : (P.map En.key).Perm (P'.map En.key) := by
    refine (List.perm_ext_iff_of_nodup h.nd h'.nd).2 fun k => ⟨fun hk => ?_, fun hk => ?_⟩
    · obtain ⟨x, hx⟩ := Option.isSome_iff_exists.1 (pget_mem hk)
      cases e : pget k P' with
      | some y => exact pget_hit e
      | none => have := (h.so k x hx).2.2; rw [h'.no k e] at this; cases this
    · obtain ⟨x, hx⟩ := Option.isSome_iff_exists.1 (pget_mem hk)
      cases e : pget k P with
      | some y => exact pget_hit e
      | none => have := (h'.so k x hx).2.2; rw [h.no k e] at this; cases this
  simpa using hp.length_eq
/-- so many keys at most -/
def CapV (V : Vals) (c : Nat) : Prop := ∀ b P n fb, SI b P n fb V → P.length ≤ c
theorem StOk.capV {f : Fl} {id : Nat} {m : List (ME He)} {nb : Nat} {T : List HL} {num fb : Nat} {V : Vals} (h : StOk f id m nb T num fb V) : CapV V (10 * (f.b.length / 256 - 2)) := fun b P n fb h2 => by
  rw [si_len h2 h.si]
  have := h.cap
  simpa [plain] using this
structure OpenG (f : Fl) (N : Nat) (V : Vals) (f2 : Fl) (m : List (ME He)) (nb : Nat) (T : List HL) (num bk : Nat) : Prop where
  st : StOk f2 (f.st + 1) m nb T num bk V
  num : num ≤ N
  len : f2.b.length = f.b.length
  hst : f2.st = f.st + 1
  er : f2.er ≤ f.er + 1
  pr : f2.pr = f.pr
  no : f.left = -1 → f2.left = -1
structure OpenT (f : Fl) (N : Nat) (V : Vals) (f2 : Fl) : Prop where
  ok : f2.Ok
  dn : f2.down = true
  fi : FI f2.b N V
  sp : ∃ q, q < f.b.length / 256 ∧ Spare f2.b q
  len : f2.b.length = f.b.length
  hst : f2.st = f.st + 1
  er : f2.er ≤ f.er + 1
  pr : f2.pr = f.pr
  no : f.left ≠ -1
theorem OpenG_ok (f : Fl) (hf : f.Ok) (bf : Nat) (rb : Option Nat) (cb : Nat) (rp : Option Nat) (cp : Nat) (N : Nat) (V : Vals) (hfi : FI f.b N V) (hsp : ∃ q, q < f.b.length / 256 ∧ Spare f.b q) (hcap : CapV V (10 * (f.b.length / 256 - 2))) (S : List Nat) (w0 : World) (hown : Own w0 S w0 (FlH bf rb cb rp cp f)) (hst : f.st + 1 < 4611686018427387904) (her : f.er + 2 < 4611686018427387904) (hdn : f.down = false) :
    Sp Try.prog 11 [.pointer (some ⟨bf, 0, none⟩)] w0 S (fun v L => (∃ (bs bm : Nat) (m : List (ME He)) (nb : Nat) (T : List HL) (num : Nat) (f2 : Fl) (bk : Nat), v = .tuple #[.pointer (some ⟨bs, 0, none⟩), .int .i64 0] ∧ OpenG f N V f2 m nb T num bk ∧ L = (.blk bs [.bool true, .pointer (some ⟨bf, 0, none⟩), natV (f.st + 1), .map (some bm), .int .u32 ((num : Nat) : Int), .int .i64 ((bk : Nat) : Int)] 81 :: .obj bm (mapO HV m nb) :: (FlH bf rb cb rp cp f2 ++ T))) ∨ (∃ f2, v = .tuple #[.pointer none, .int .i64 9] ∧ OpenT f N V f2 ∧ L = FlH bf rb cb rp cp f2)) := by
  refine (Open_ok f hf bf rb cb rp cp S w0 hown hst her hdn).mono ?_
  rintro v L (⟨bs, bm, m, nb, T, num, num0, f2, bk, rfl, hop, hf2, hl2, hn0, hsc, hnum, hms, rfl⟩ | ⟨bk, hbk, _, hsb, hne, rfl, rfl⟩ | ⟨_, hno, _⟩)
  · have h := open_is hf hst (by omega) hdn hfi hop hn0 hsc
    refine .inl ⟨bs, bm, m, nb, T, num, f2, bk, rfl, ⟨⟨hf2, h.down, h.st.symm, hms, h.si, ?_⟩, h.num, hl2, h.st, h.er, h.pr, h.no⟩, rfl⟩
    have := hcap _ _ _ _ h.si
    rw [hl2]
    simpa [plain] using this
  · obtain ⟨hE, h1, h2⟩ := open_torn hf hst (by omega) hdn hfi hbk hsb
    have hr := hE.res.resolve_left fun h => hne h.1
    refine .inr ⟨_, by rw [hr.1], ⟨hE.ok, hr.2, h1, ⟨bk, hbk, h2⟩, hE.len, hE.st, hE.er, hE.pr, fun h => hne (hE.no h).1⟩, rfl⟩
  · obtain ⟨q, hq, h⟩ := hsp
    have := hno q hq
    rw [spareB_of hq h] at this; cases this
end Iv

set_option maxRecDepth 100000 in
set_option maxHeartbeats 4000000 in
theorem all_ok (f : Fl) (bs bf : Nat) (rb : Option Nat) (cb : Nat) (rp : Option Nat) (cp : Nat) (id bm num fb : Nat) (m : List (ME He)) (nb : Nat) (T : List HL) (V : Vals) (hst : StOk f id m nb T num fb V) (L : List Rv) (br : Nat) (rL : Option Nat) (cL : Nat) (hrf : RfOk L T V) (S : List Nat) (w0 : World) (hown : Own w0 S w0 (.blk bs [.bool true, .pointer (some ⟨bf, 0, none⟩), natV id, .map (some bm), .int .u32 ((num : Nat) : Int), .int .i64 ((fb : Nat) : Int)] 81 :: .obj bm (mapO HV m nb) :: (FlH bf rb cb rp cp f ++ (RsH br (f.b.length / 256) rL cL L ++ T)))) : Sp Try.prog 14 [.pointer (some ⟨bs, 0, none⟩), .pointer (some ⟨br, 0, none⟩)] w0 S (fun v L0 => v = .bool true ∧ L0 = (.blk bs [.bool true, .pointer (some ⟨bf, 0, none⟩), natV id, .map (some bm), .int .u32 ((num : Nat) : Int), .int .i64 ((fb : Nat) : Int)] 81 :: .obj bm (mapO HV m nb) :: (FlH bf rb cb rp cp f ++ (RsH br (f.b.length / 256) rL cL L ++ T)))) := by
  have hbl := hst.ok.hi
  have hbl0 := hst.ok.lo
  obtain ⟨hkeys, hlen⟩ := same_keys hst hrf
  have hcap := hst.cap
  have hLb : L.length ≤ 100000 := by omega
  refine spec_enter Try.func14 rfl Try.ntmps14 rfl hown ?_
  simp only [argEnv]
  refine gc_seq ?_
  refine gc_region ?_
  refine gl_op (op_rd rfl (rd_assign rfl) ?_)
  refine gl_nil ?_
  refine gx_then ?_
  refine gc_seq ?_
  refine gc_region ?_
  refine gl_op (op_rd rfl (rd_move rfl) ?_)
  refine gl_op (op_callMT [_, _, _, _, _, _, _] T [0, 1, 2, 3, 4] [5, 6] 7 rfl rfl rfl (vf := []) (vc := []) rfl rfl Try.call24 (by decide) (by decide) rfl (fun w how hc => Keys_ok f bs bf rb cb rp cp id bm num fb m nb T V hst _ w hc) ?_)
  rintro _ _ ⟨rk, ck, rfl, rfl⟩
  rw [hkeys]
  refine gl_op (op_rd rfl (rd_move rfl) ?_)
  refine gl_op (op_rd rfl (rd_extract rfl rfl) ?_)
  refine gl_op (op_rd rfl (rd_extract rfl rfl) ?_)
  refine gl_op (op_rd rfl (rd_assign rfl) ?_)
  refine gl_op (op_rd rfl (rd_assign rfl) ?_)
  refine gl_nil ?_
  refine gx_then ?_
  refine gc_seq ?_
  refine gc_region ?_
  refine gl_op (op_rd rfl (rd_move rfl) ?_)
  refine gl_op (op_callMT [_, _, _, _, _, _, _, _] T [0, 1, 2, 3, 4] [5, 6, 7] 8 rfl rfl rfl (vf := []) (vc := []) rfl rfl Try.call34 (by decide) (by decide) rfl (fun w how hc => Room_ok f hst.ok bs bf rb cb rp cp id bm num fb (m.map (ME.ent HV)) nb _ (mkv HV m) _ w hc hst.ready (by rw [List.length_map]; exact hst.cap)) ?_)
  rintro _ _ ⟨rfl, rfl⟩
  rw [List.length_map, hlen]
  refine gl_op (op_rd rfl (rd_move rfl) ?_)
  refine gl_op (op_rd rfl (rd_extract rfl rfl) ?_)
  refine gl_op (op_rd rfl (rd_extract rfl rfl) ?_)
  refine gl_op (op_rd rfl (rd_assign rfl) ?_)
  refine gl_op (op_rd rfl (rd_assign rfl) ?_)
  refine gl_nil ?_
  refine gx_then ?_
  refine gc_seq ?_
  refine gc_seq ?_
  refine gc_region ?_
  refine gl_op (op_rd rfl (rd_move rfl) ?_)
  refine gl_op (op_rd rfl (rd_neq rfl rfl) (gk_dec (fun h25 => ?_) (fun h25 => ?_)))
  · skip
    exact absurd rfl h25
  · skip
    refine gl_op (op_rd rfl (rd_move rfl) ?_)
    refine gl_yes rfl rfl (op_rd rfl (rd_move rfl) ?_)
    refine gl_yes rfl rfl (op_rd rfl (rd_neq rfl rfl) (gk_dec (fun h28 => ?_) (fun h28 => ?_)))
    · skip
      exact absurd rfl h28
    · skip
      refine gl_op (op_rd rfl (rd_pick_f rfl rfl) ?_)
      refine gl_op (op_rd rfl (rd_move rfl) ?_)
      refine gl_yes rfl rfl (op_rd rfl (rd_move rfl) ?_)
      refine gl_yes rfl rfl (op_rd rfl (rd_move rfl) ?_)
      refine gl_yes rfl rfl (op_call rfl (vf := []) (vc := []) rfl rfl Try.call44 (fun w1 ho => rRoom_q L br (f.b.length / 256) rL cL hLb w1 (ho.blkCells 6 rfl) (ho.rowSl 7 rfl) (by omega) (by rw [← hlen]; exact hst.cap) (by omega)) ?_)
      rintro _ _ ⟨rfl, rfl⟩
      refine gl_yes rfl rfl (op_rd rfl (rd_neq rfl rfl) (gk_dec (fun h34 => ?_) (fun h34 => ?_)))
      · skip
        exact absurd rfl h34
      · skip
        refine gl_op (op_rd rfl (rd_pick_f rfl rfl) ?_)
        refine gl_op (op_rd rfl (rd_move rfl) ?_)
        refine gl_yes rfl rfl (op_rd rfl (rd_move rfl) ?_)
        refine gl_yes rfl rfl (op_rd rfl (rd_move rfl) ?_)
        refine gl_yes rfl rfl (op_call rfl (vf := []) (vc := []) rfl rfl Try.call46 (fun w1 ho => rKeys_q L br (f.b.length / 256) rL cL hLb w1 (ho.blkCells 6 rfl) (ho.rowSl 7 rfl)) ?_)
        rintro _ _ ⟨rk2, ck2, rfl, rfl⟩
        refine gl_yes rfl rfl (op_call rfl (vf := []) (vc := []) rfl rfl Try.call45 (fun w1 ho => SameInts_q (L.map Rv.key) _ _ ck ck2 w1 (ho.rowSl 6 rfl) (ho.rowSl 0 rfl) (by simp; omega)) ?_)
        rintro _ _ ⟨rfl, rfl⟩
        refine gl_yes rfl rfl (op_rd rfl (rd_not rfl) ?_)
        refine gl_op (op_rd rfl (rd_pick_f rfl rfl) ?_)
        refine gl_nil ?_
        refine gx_then ?_
        refine gc_cond_f rfl ?_
        refine gc_skip ?_
        refine gx_then ?_
        refine gc_seq ?_
        refine gc_seq ?_
        refine gc_region ?_
        refine gl_op (op_rd rfl (rd_assign rfl) ?_)
        refine gl_nil ?_
        refine gx_then ?_
        refine gc_block ?_
        refine gc_loopF (ι := Nat) [(0, _), (1, _), (5, _)] (_ :: _ :: _ :: _ :: _ :: _ :: _ :: _ :: _ :: T) (fun i => i ≤ L.length) (fun i Fr0 => ((9, natV i) :: Fr0)) (fun i Fr0 => Fr0) (fun i => L.length - i) 0 (Nat.zero_le _) ⟨rfl, rfl, rfl, rfl, trivial⟩ (sub_tail (A := [_, _, _, _, _, _, _, _, _]) (B := [_, _, _, _, _, _, _, _, _]) (T := T) [0, 1, 2, 3, 4, 5, 6, 7, 8] 9 (by decide) (by decide) rfl rfl) ?_
        rintro i hi
        refine gc_seq ?_
        refine gc_seq ?_
        refine gc_region ?_
        refine gl_op (op_rd rfl (rd_move rfl) ?_)
        refine gl_op (op_rd rfl (rd_move rfl) ?_)
        refine gl_op (op_rd rfl (rd_lenSlice Try.underlying55 rfl) ?_)
        refine gl_op (op_rd rfl (rd_lss rfl rfl) (gk_dec (fun h46 => ?_) (fun h46 => ?_)))
        · skip
          obtain ⟨x, hx⟩ := get_some (show i < L.length by simp at h46; omega)
          have hkx : (L.map Rv.key)[i]? = some x.key := by rw [List.getElem?_map, hx]; rfl
          have hkl : (L.map Rv.key).length = L.length := List.length_map _
          obtain ⟨mm, hVx⟩ := hrf.v1 x (List.mem_of_getElem? hx)
          have hsg : sgetP (x.key : Int) V = (x.val, 0) := by unfold sgetP; rw [if_neg (by have := hrf.key x (List.mem_of_getElem? hx); omega), Int.toNat_natCast, hVx]
          refine gl_nil ?_
          refine gx_then ?_
          refine gc_cond_t rfl ?_
          refine gc_skip ?_
          refine gx_then ?_
          refine gc_seq ?_
          refine gc_block ?_
          refine gc_seq ?_
          refine gc_region ?_
          refine gl_op (op_rd rfl (rd_move rfl) ?_)
          refine gl_op (op_rd rfl (rd_move rfl) ?_)
          refine gl_op (op_rd rfl (rd_move rfl) ?_)
          refine gl_op (op_rd rfl (rd_indexRow1 6 rfl Try.underlying55 ty_3 rfl rfl (by omega) (by omega)) ?_)
          refine gl_op (op_rd rfl (rd_load Try.underlying3 rfl rfl (ld_rowN 6 rfl (get_natsL hkx))) ?_)
          refine gl_op (op_callMW [_, _, _, _, _, _, _, _, _] T [1, 2, 3, 4, 5] [0, 6, 7, 8] 9 rfl rfl rfl (vf := []) (vc := []) rfl rfl Try.call12 (by decide) (by decide) rfl (fun w how hc => GetM_ok f bs bf rb cb rp cp id bm num fb m nb T V hst _ w hc (x.key : Int)) ?_)
          rintro _ _ ⟨rg, cg, rfl, rfl⟩
          refine gk_mid [_, _, _, _, _, _] T [_, _, _, _] ?_
          rw [hsg]
          refine gl_op (op_rd rfl (rd_move rfl) ?_)
          refine gl_op (op_rd rfl (rd_extract rfl rfl) ?_)
          refine gl_op (op_rd rfl (rd_extract rfl rfl) ?_)
          refine gl_op (op_rd rfl (rd_assign rfl) ?_)
          refine gl_op (op_rd rfl (rd_assign rfl) ?_)
          refine gl_nil ?_
          refine gx_then ?_
          refine gc_seq ?_
          refine gc_region ?_
          refine gl_op (op_rd rfl (rd_move rfl) ?_)
          refine gl_op (op_rd rfl (rd_move rfl) ?_)
          refine gl_op (op_rd rfl (rd_move rfl) ?_)
          refine gl_op (op_rd rfl (rd_indexRow1 7 rfl Try.underlying55 ty_3 rfl rfl (by omega) (by omega)) ?_)
          refine gl_op (op_rd rfl (rd_load Try.underlying3 rfl rfl (ld_rowN 7 rfl (get_natsL hkx))) ?_)
          refine gl_op (op_call rfl (vf := []) (vc := []) rfl rfl Try.call13 (fun w1 ho => rGet_q L br (f.b.length / 256) rL cL hLb w1 (ho.blkCells 8 rfl) (ho.rowSl 9 rfl) (fun x hx => ho.memSl (show x.row ∈ _ from by simp [hrf.row x hx])) hrf.len (x.key : Int)) ?_)
          rintro _ _ ⟨rh, ch, rfl, rfl⟩
          rw [rget_sget hrf (x.key : Int), hsg]
          refine gl_op (op_rd rfl (rd_move rfl) ?_)
          refine gl_op (op_rd rfl (rd_extract rfl rfl) ?_)
          refine gl_op (op_rd rfl (rd_extract rfl rfl) ?_)
          refine gl_op (op_rd rfl (rd_assign rfl) ?_)
          refine gl_op (op_rd rfl (rd_assign rfl) ?_)
          refine gl_nil ?_
          refine gx_then ?_
          refine gc_seq ?_
          refine gc_region ?_
          refine gl_op (op_rd rfl (rd_move rfl) ?_)
          refine gl_op (op_rd rfl (rd_neq rfl rfl) (gk_dec (fun h68 => ?_) (fun h68 => ?_)))
          · skip
            exact absurd rfl h68
          · skip
            refine gl_op (op_rd rfl (rd_move rfl) ?_)
            refine gl_yes rfl rfl (op_rd rfl (rd_move rfl) ?_)
            refine gl_yes rfl rfl (op_rd rfl (rd_toStr (zs := x.val) Try.underlying36 Try.underlying5 Try.underlying9 rfl (fun w ho => ho.rowSl 1 rfl)) ?_)
            refine gl_yes rfl rfl (op_rd rfl (rd_move rfl) ?_)
            refine gl_yes rfl rfl (op_rd rfl (rd_toStr (zs := x.val) Try.underlying36 Try.underlying5 Try.underlying9 rfl (fun w ho => ho.rowSl 0 rfl)) ?_)
            refine gl_yes rfl rfl (op_rd rfl (rd_neqStr Try.underlying9 eg_9 rfl rfl) ?_)
            rw [show (!((strN x.val).toList == (strN x.val).toList)) = false by simp]
            refine gl_op (op_rd rfl (rd_pick_f rfl rfl) ?_)
            refine gl_nil ?_
            refine gx_then ?_
            refine gc_cond_f rfl ?_
            refine gc_skip ?_
            refine gx_block ?_
            refine gx_then ?_
            refine gc_region ?_
            refine gl_op (op_rd rfl (rd_move rfl) ?_)
            refine gl_op (op_rd rfl (by first | exact rd_addN (b := 1) rfl rfl (by omega) | exact rd_add rfl rfl (by omega) (by omega)) ?_)
            refine gl_op (op_rd rfl (rd_assign rfl) ?_)
            refine gl_nil ?_
            refine gx_then ?_
            exact gx_cut (i + 1) ⟨by omega, by omega⟩ ⟨rfl, rfl, rfl, rfl, trivial⟩ (sub_tail (A := [_, _, _, _, _, _, _, _, _]) (B := [_, _, _, _, _, _, _, _, _, _, _]) (T := T) [7, 2, 3, 4, 5, 6, 8, 9, 10] 11 (by decide) (by decide) rfl rfl)
        · skip
          refine gl_nil ?_
          refine gx_then ?_
          refine gc_cond_f rfl ?_
          refine gc_exit ?_
          refine gx_then_exit ?_
          refine gx_then_exit ?_
          refine gx_block_exit ?_
          refine gx_then ?_
          refine gc_seq ?_
          refine gc_region ?_
          refine gl_op (op_rd rfl (rd_assign rfl) ?_)
          refine gl_nil ?_
          refine gx_then ?_
          refine gc_ret ?_
          refine gx_ret1S (.inl rfl) Try.results14 rfl (sub_tail (A := [_, _, _, _, _, _, _]) (B := [_, _, _, _, _, _, _, _, _]) (T := T) [1, 2, 3, 4, 5, 7, 8] 9 (by decide) (by decide) rfl rfl) ?_
          exact ⟨rfl, rfl⟩

end Go.Proofs.Ythcbcdjkfefnlaa

set_option autoImplicit false
set_option linter.unusedVariables false
namespace Go.Proofs.Ythcbcdjkfefnlaa
open Go.Gv
open Go.RowKit
open Iv
namespace Iv
def FullV (V : Vals) (key : Nat) (c len : Nat) : Prop := V key = none ∧ c ≤ len
structure PutF (f : Fl) (k : Nat) (f2 : Fl) : Prop where
  ok : f2.Ok
  len : f2.b.length = f.b.length
  st : f2.st = f.st
  er : f2.er ≤ f.er + 1
  pr : f2.pr ≤ f.pr + 24 * k + 24
  no : f.left = -1 → f2.left = -1
structure PutT (f : Fl) (num : Nat) (V : Vals) (key : Nat) (vs : List Nat) (f2 : Fl) : Prop where
  dn : f2.down = true
  no : f.left ≠ -1
  fi : ∃ V', (V' = V ∨ V' = updV V key (num + 1) vs) ∧ FI f2.b (num + 1) V'
  sp : ∃ q, q < f.b.length / 256 ∧ Spare f2.b q
theorem StOk.pgetV {f : Fl} {id : Nat} {m : List (ME He)} {nb : Nat} {T : List HL} {num fb : Nat} {V : Vals} (h : StOk f id m nb T num fb V) (k : Nat) : pget k (plain m) = none ↔ V k = none := by
  constructor
  · exact h.si.no k
  · intro hv
    cases e : pget k (plain m) with
    | none => rfl
    | some x => have := (h.si.so k x e).2.2; rw [hv] at this; cases this
theorem PutG_ok (f : Fl) (bs bf : Nat) (rb : Option Nat) (cb : Nat) (rp : Option Nat) (cp : Nat) (id bm num fb : Nat) (m : List (ME He)) (nb : Nat) (T : List HL) (V : Vals) (hst : StOk f id m nb T num fb V) (S : List Nat) (w0 : World) (hown : Own w0 S w0 (.blk bs [.bool true, .pointer (some ⟨bf, 0, none⟩), natV id, .map (some bm), .int .u32 ((num : Nat) : Int), .int .i64 ((fb : Nat) : Int)] 81 :: .obj bm (mapO HV m nb) :: (FlH bf rb cb rp cp f ++ T))) (hpr : f.pr + 100000 < 4611686018427387904) (her : f.er + 1 < 4611686018427387904) (hnum : num + 1 < 4294967296) (key : Nat) (hkey : key ≤ 999) (vs : List Nat) (hvs : ∀ z ∈ vs, z < 256) (hv16 : vs.length ≤ 16) (a : Option Addr) (ca : Nat) (hsl : OldSl w0 S a vs.length 1 (vs.map u8V)) :
    Sp Try.prog 17 [.pointer (some ⟨bs, 0, none⟩), natV key, .slice a vs.length ca] w0 S (fun v L =>
      (FullV V key (10 * (f.b.length / 256 - 2)) m.length ∧ v = .int .i64 5 ∧ L = (.blk bs [.bool true, .pointer (some ⟨bf, 0, none⟩), natV id, .map (some bm), .int .u32 ((num : Nat) : Int), .int .i64 ((fb : Nat) : Int)] 81 :: .obj bm (mapO HV m nb) :: (FlH bf rb cb rp cp f ++ T))) ∨
      (¬ FullV V key (10 * (f.b.length / 256 - 2)) m.length ∧ ∃ (f2 : Fl) (m2 : List (ME He)) (nb2 fb2 : Nat) (T2 : List HL), v = .int .i64 0 ∧ PutF f m.length f2 ∧ StOk f2 id m2 nb2 T2 (num + 1) fb2 (updV V key (num + 1) vs) ∧ (∀ y ∈ T, y ∈ T2) ∧ L = (.blk bs [.bool true, .pointer (some ⟨bf, 0, none⟩), natV id, .map (some bm), .int .u32 (((num + 1) : Nat) : Int), .int .i64 ((fb2 : Nat) : Int)] 81 :: .obj bm (mapO HV m2 nb2) :: (FlH bf rb cb rp cp f2 ++ T2))) ∨
      (¬ FullV V key (10 * (f.b.length / 256 - 2)) m.length ∧ ∃ (f2 : Fl) (m2 : List (ME He)) (nb2 fb2 num2 id2 : Nat) (T2 : List HL), v = .int .i64 9 ∧ PutF f m.length f2 ∧ PutT f num V key vs f2 ∧ (∀ y ∈ T, y ∈ T2) ∧ L = (.blk bs [.bool true, .pointer (some ⟨bf, 0, none⟩), natV id2, .map (some bm), .int .u32 ((num2 : Nat) : Int), .int .i64 ((fb2 : Nat) : Int)] 81 :: .obj bm (mapO HV m2 nb2) :: (FlH bf rb cb rp cp f2 ++ T2)))) := by
  have hbl := hst.ok.hi
  have hcap := hst.cap
  have hpml : (plain m).length = m.length := by simp [plain]
  have hfull : Full (plain m) (f.b.length / 256) key ↔ FullV V key (10 * (f.b.length / 256 - 2)) m.length := by
    unfold Full FullV; rw [hst.pgetV, hpml]
  refine (Put_ok f hst.ok bs bf rb cb rp cp id bm num fb m nb T hst.ms S w0 hown (by omega) hst.si.hfb (fun x hx => ?_) (by omega) her hnum key hkey vs hvs hv16 a ca hsl).mono ?_
  · have hmem : x.v.en ∈ plain m := List.mem_map_of_mem hx
    exact (hst.si.so _ _ (pget_of_mem hst.si.nd hmem)).1.bk
  · rintro v L (⟨h, _⟩ | ⟨_, h, rfl, rfl⟩ | ⟨_, h, e, f2, m2, nb2, fb2, num2, id2, T2, rfl, hgo, hms2, hT, hf2, hl2, hp2, rfl⟩)
    · exact absurd hst.ready h
    · exact .inl ⟨hfull.1 h, rfl, rfl⟩
    · have hp := put_is hst.ok hst.dn hst.si (by rw [hpml]; exact hcap) (by rw [hpml]; omega) her ⟨hkey, hnum, hv16, hvs⟩ hgo
      have hF : PutF f m.length f2 := ⟨hp.ok, hp.len, hp.st, hp.er, hp2, fun h => (hp.no h).2⟩
      have hnf : ¬ FullV V key (10 * (f.b.length / 256 - 2)) m.length := fun h2 => h (hfull.2 h2)
      have hpml2 : (plain m2).length = m2.length := by simp [plain]
      rcases hp.res with ⟨r1, r2, r3, r4, r5, r6, r7⟩ | ⟨r1, r2, V', r3, r4, r5⟩
      · subst r1 r3 r4
        refine .inr (.inl ⟨hnf, f2, m2, nb2, fb2, T2, rfl, hF, ⟨hp.ok, r2, by rw [hp.st]; exact hst.hid, hms2, r5, ?_⟩, hT, rfl⟩)
        rw [hp.len]
        cases e : pget key (plain m) with
        | none =>
          have h6 := r6 e
          have : ¬ 10 * (f.b.length / 256 - 2) ≤ m.length := fun h2 => hnf ⟨(hst.pgetV key).1 e, h2⟩
          omega
        | some x => have h7 := r7 x e; omega
      · subst r1
        exact .inr (.inr ⟨hnf, f2, m2, nb2, fb2, num2, id2, T2, rfl, hF, ⟨r2, fun h => absurd (hp.no h).1 (by decide), ⟨V', r3, r4⟩, r5⟩, hT, rfl⟩)
theorem rs_put {L L' : List Rv} {T T' : List HL} {V : Vals} {key num : Nat} {x : Rv} (h : RfOk L T V) (hi : RIns key x L L') (hk : x.key = key) (hk9 : key ≤ 999) (hl : x.val.length ≤ 16) (hv : ∀ z ∈ x.val, z < 256) (hT : ∀ y ∈ T, y ∈ T') (hx : x.row ∈ T') : RfOk L' T' (updV V key num x.val) := by
  have hmem : ∀ y ∈ L', y = x ∨ (y ∈ L ∧ y.key ≠ key) := by
    intro y hy
    rcases hi with ⟨i, hp, rfl⟩ | ⟨hp, q, hq, rfl, _⟩
    · obtain ⟨z, hz, hzk⟩ := plN_at hp
      obtain ⟨j, hj⟩ := List.getElem?_of_mem hy
      rw [List.getElem?_set] at hj
      split at hj
      · split at hj
        · cases hj; exact .inl rfl
        · cases hj
      · rename_i hne
        refine .inr ⟨List.mem_of_getElem? hj, fun e => ?_⟩
        have h1 := h.plN hj
        rw [e, hp] at h1
        cases h1; exact hne rfl
    · rcases List.mem_append.1 hy with hy | hy
      · have hy2 := List.mem_of_mem_take hy
        exact .inr ⟨hy2, fun e => plN_no hp y hy2 (by rw [e])⟩
      · rcases List.mem_cons.1 hy with rfl | hy
        · exact .inl rfl
        · have hy2 := List.mem_of_mem_drop hy
          exact .inr ⟨hy2, fun e => plN_no hp y hy2 (by rw [e])⟩
  refine ⟨fun y hy => ?_, fun y hy => ?_, fun y hy => ?_, fun y hy => ?_, ?_, fun y hy => ?_, fun k hkk => ?_⟩
  · rcases hmem y hy with rfl | ⟨h1, _⟩
    · exact hx
    · exact hT _ (h.row y h1)
  · rcases hmem y hy with rfl | ⟨h1, _⟩
    · omega
    · exact h.key y h1
  · rcases hmem y hy with rfl | ⟨h1, _⟩
    · exact hl
    · exact h.len y h1
  · rcases hmem y hy with rfl | ⟨h1, _⟩
    · exact hv
    · exact h.val y h1
  · rcases hi with ⟨i, hp, rfl⟩ | ⟨hp, q, hq, rfl, hlt, hge⟩
    · obtain ⟨z, hz, hzk⟩ := plN_at hp
      have : (L.set i x).map Rv.key = L.map Rv.key := by
        rw [List.map_set]
        apply List.ext_getElem?
        intro j
        rw [List.getElem?_set, List.getElem?_map]
        split
        · rename_i e; subst e
          rw [hz]
          split
          · simp; omega
          · rename_i hn; rw [List.length_map] at hn; rw [List.getElem?_eq_none (by omega)] at hz; cases hz
        · rfl
      rw [this]; exact h.sort
    · rw [List.map_append, List.map_cons, List.pairwise_append, List.pairwise_cons]
      have hs := h.sort
      have hd : ∀ y ∈ L.drop q, key < y.key := fun y hy => by
        obtain ⟨j, hj⟩ := List.getElem?_of_mem hy
        rw [List.getElem?_drop] at hj
        have hjl : q + j < L.length := by
          rcases Nat.lt_or_ge (q + j) L.length with h | h
          · exact h
          · rw [List.getElem?_eq_none h] at hj; cases hj
        have h0 := hge (L[q]'(by omega)) (List.getElem?_eq_getElem (by omega))
        have hne : y.key ≠ key := fun e => plN_no hp y (List.mem_of_mem_drop hy) (by rw [e])
        have hyy : L[q + j] = y := by rw [List.getElem?_eq_getElem hjl] at hj; exact Option.some.inj hj
        rcases Nat.eq_zero_or_pos j with e | e
        · subst e
          simp only [Nat.add_zero] at hyy
          rw [hyy] at h0; omega
        · have := List.pairwise_iff_getElem.1 hs q (q + j) (by simp; omega) (by simp; omega) (by omega)
          simp only [List.getElem_map, hyy] at this
          omega
      have ht : ∀ y ∈ L.take q, y.key < key := fun y hy => by
        obtain ⟨j, hj⟩ := List.getElem?_of_mem hy
        rw [List.getElem?_take] at hj
        split at hj
        · rename_i hjq; exact hlt j y hjq hj
        · cases hj
      refine ⟨?_, ⟨fun a ha => ?_, ?_⟩, fun a ha b hb => ?_⟩
      · rw [List.map_take]; exact hs.sublist (List.take_sublist _ _)
      · obtain ⟨y, hy, rfl⟩ := List.mem_map.1 ha
        rw [hk]; exact hd y hy
      · rw [List.map_drop]; exact hs.sublist (List.drop_sublist _ _)
      · obtain ⟨y, hy, rfl⟩ := List.mem_map.1 ha
        rcases List.mem_cons.1 hb with rfl | hb
        · rw [hk]; exact ht y hy
        · obtain ⟨z, hz, rfl⟩ := List.mem_map.1 hb
          exact Nat.lt_trans (ht y hy) (hd z hz)
  · simp only [updV]
    rcases hmem y hy with rfl | ⟨h1, h2⟩
    · rw [if_pos hk]; exact ⟨_, rfl⟩
    · rw [if_neg h2]; exact h.v1 y h1
  · simp only [updV] at hkk
    have hin : ∀ y, y ∈ L → y.key ≠ key → y ∈ L' := fun y hy hne => by
      rcases hi with ⟨i, hp, rfl⟩ | ⟨hp, q, hq, rfl, _⟩
      · obtain ⟨z, hz, hzk⟩ := plN_at hp
        obtain ⟨j, hj⟩ := List.getElem?_of_mem hy
        refine List.mem_of_getElem? (i := j) ?_
        rw [List.getElem?_set, if_neg (fun e => ?_)]
        · exact hj
        · subst e; rw [hz] at hj; cases hj; omega
      · have : y ∈ L.take q ++ L.drop q := by rw [List.take_append_drop]; exact hy
        rcases List.mem_append.1 this with h1 | h1
        · exact List.mem_append_left _ h1
        · exact List.mem_append_right _ (List.mem_cons_of_mem _ h1)
    have hxin : x ∈ L' := by
      rcases hi with ⟨i, hp, rfl⟩ | ⟨hp, q, hq, rfl, _⟩
      · obtain ⟨z, hz, hzk⟩ := plN_at hp
        have hil : i < L.length := by
          rcases Nat.lt_or_ge i L.length with h | h
          · exact h
          · rw [List.getElem?_eq_none h] at hz; cases hz
        refine List.mem_of_getElem? (i := i) ?_
        rw [List.getElem?_set, if_pos rfl, if_pos hil]
      · simp
    by_cases e : k = key
    · subst e
      exact List.mem_map.2 ⟨x, hxin, hk⟩
    · rw [if_neg e] at hkk
      obtain ⟨y, hy, rfl⟩ := List.mem_map.1 (h.v2 k hkk)
      exact List.mem_map_of_mem (hin y hy e)
theorem plN_V {L : List Rv} {T : List HL} {V : Vals} (h : RfOk L T V) (k : Nat) : plN (k : Int) L = none ↔ V k = none := by
  constructor
  · intro hp
    cases hv : V k with
    | none => rfl
    | some p =>
      obtain ⟨x, hx, e⟩ := List.mem_map.1 (h.v2 k (by rw [hv]; rfl))
      exact absurd (by rw [e]) (plN_no hp x hx)
  · intro hv
    refine plN_none fun y hy e => ?_
    obtain ⟨mm, h1⟩ := h.v1 y hy
    rw [show y.key = k by omega, hv] at h1; cases h1
theorem rput_full {L : List Rv} {T : List HL} {V : Vals} (h : RfOk L T V) {n key len : Nat} (hk : key ≤ 999) (hl : len ≤ 16) (hf : FullV V key (10 * (n - 2)) L.length) : rputE n key len L = 5 := by
  unfold rputE
  rw [if_neg (by omega), (plN_V h key).2 hf.1]
  simp only
  rw [if_pos hf.2]
theorem rput_go {L : List Rv} {T : List HL} {V : Vals} (h : RfOk L T V) {n key len : Nat} (hk : key ≤ 999) (hl : len ≤ 16) (hf : ¬ FullV V key (10 * (n - 2)) L.length) : rputE n key len L = 0 := by
  unfold rputE
  rw [if_neg (by omega)]
  cases e : plN (key : Int) L with
  | some i => rfl
  | none =>
    simp only
    rw [if_neg fun h2 => hf ⟨(plN_V h key).1 e, h2⟩]
theorem capV_none (c : Nat) : CapV (fun _ => none) c := fun b P n fb h => by
  cases P with
  | nil => exact Nat.zero_le _
  | cons x l => have := (h.so x.key x (pget_of_mem h.nd List.mem_cons_self)).2.2; cases this
theorem rf_nil (T : List HL) : RfOk [] T (fun _ => none) := ⟨(fun _ h => by cases h), (fun _ h => by cases h), (fun _ h => by cases h), (fun _ h => by cases h), List.Pairwise.nil, (fun _ h => by cases h), (fun _ h => by cases h)⟩
theorem rPut_full (L : List Rv) (br n : Nat) (rL : Option Nat) (cL : Nat) (hL : L.length ≤ 100000) (S : List Nat) (w0 : World) (hown : Own w0 S w0 (RsH br n rL cL L)) (hn : n ≤ 64) (hn3 : 2 ≤ n) (key : Nat) (vs : List Nat) (a : Option Addr) (ca : Nat) (hsl : OldSl w0 S a vs.length 1 (vs.map u8V)) (hvl : vs.length ≤ 140737488355328) (hE : rputE n key vs.length L = 5) : Sp Try.prog 18 [.pointer (some ⟨br, 0, none⟩), natV key, .slice a vs.length ca] w0 S (fun v Lh => v = .int .i64 5 ∧ Lh = RsH br n rL cL L) := by
  refine (rPut_ok L br n rL cL hL S w0 hown hn hn3 key vs a ca hsl hvl).mono ?_
  rintro v Lh (⟨_, h1, h2⟩ | ⟨h, _⟩)
  · rw [hE] at h1; exact ⟨h1, h2⟩
  · rw [hE] at h; cases h
theorem rPut_go (L : List Rv) (br n : Nat) (rL : Option Nat) (cL : Nat) (hL : L.length ≤ 100000) (S : List Nat) (w0 : World) (hown : Own w0 S w0 (RsH br n rL cL L)) (hn : n ≤ 64) (hn3 : 2 ≤ n) (key : Nat) (vs : List Nat) (a : Option Addr) (ca : Nat) (hsl : OldSl w0 S a vs.length 1 (vs.map u8V)) (hvl : vs.length ≤ 140737488355328) (hE : rputE n key vs.length L = 0) : Sp Try.prog 18 [.pointer (some ⟨br, 0, none⟩), natV key, .slice a vs.length ca] w0 S (fun v Lh => ∃ (r : Option Nat) (c : Nat) (rL' : Option Nat) (cL' : Nat) (L' : List Rv), v = .int .i64 0 ∧ RIns key ⟨key, vs, r, c⟩ L L' ∧ Lh = RsH br n rL' cL' L' ++ [.row 5 1 r vs.length c (vs.map u8V)]) := by
  refine (rPut_ok L br n rL cL hL S w0 hown hn hn3 key vs a ca hsl hvl).mono ?_
  rintro v Lh (⟨h, _⟩ | ⟨_, h⟩)
  · exact absurd hE h
  · exact h
end Iv

set_option maxRecDepth 100000 in
set_option maxHeartbeats 1000000 in
theorem rPut_arg (br : Nat) (key : Int) (a : Option Addr) (m c : Nat) (hbad : key < 0 ∨ 999 < key ∨ 16 < m) (w0 : World) : Sp Try.prog 18 [.pointer (some ⟨br, 0, none⟩), .int .i64 key, .slice a m c] w0 [] (RV (.int .i64 2)) := by
  refine spec_enter Try.func18 rfl Try.ntmps18 rfl (Own.refl _) ?_
  simp only [argEnv]
  refine gc_seq ?_
  refine gc_region ?_
  refine gl_op (op_rd rfl (rd_assign rfl) ?_)
  refine gl_nil ?_
  refine gx_then ?_
  refine gc_seq ?_
  refine gc_seq ?_
  refine gc_region ?_
  refine gl_op (op_rd rfl (rd_move rfl) ?_)
  refine gl_op (op_rd rfl (rd_lss rfl rfl) (gk_dec (fun h13 => ?_) (fun h13 => ?_)))
  · skip
    refine gl_op (op_rd rfl (rd_move rfl) ?_)
    refine gl_no rfl rfl rfl ?_
    refine gl_no rfl rfl rfl ?_
    refine gl_op (op_rd rfl (rd_pick_t rfl rfl) ?_)
    refine gl_op (op_rd rfl (rd_move rfl) ?_)
    refine gl_no rfl rfl rfl ?_
    refine gl_no rfl rfl rfl ?_
    refine gl_no rfl rfl rfl ?_
    refine gl_op (op_rd rfl (rd_pick_t rfl rfl) ?_)
    refine gl_nil ?_
    refine gx_then ?_
    refine gc_cond_t rfl ?_
    refine gc_seq ?_
    refine gc_region ?_
    refine gl_op (op_rd rfl (rd_assign rfl) ?_)
    refine gl_nil ?_
    refine gx_then ?_
    refine gc_ret ?_
    refine gx_then_ret ?_
    refine gx_ret1 (.inl rfl) Try.results18 rfl [] (by decide) ?_
    exact ⟨rfl, rfl⟩
  · skip
    refine gl_op (op_rd rfl (rd_move rfl) ?_)
    refine gl_yes rfl rfl (op_rd rfl (rd_move rfl) ?_)
    refine gl_yes rfl rfl (op_rd rfl (rd_gtr rfl rfl) (gk_dec (fun h16 => ?_) (fun h16 => ?_)))
    · skip
      refine gl_op (op_rd rfl (rd_pick_f rfl rfl) ?_)
      refine gl_op (op_rd rfl (rd_move rfl) ?_)
      refine gl_no rfl rfl rfl ?_
      refine gl_no rfl rfl rfl ?_
      refine gl_no rfl rfl rfl ?_
      refine gl_op (op_rd rfl (rd_pick_t rfl rfl) ?_)
      refine gl_nil ?_
      refine gx_then ?_
      refine gc_cond_t rfl ?_
      refine gc_seq ?_
      refine gc_region ?_
      refine gl_op (op_rd rfl (rd_assign rfl) ?_)
      refine gl_nil ?_
      refine gx_then ?_
      refine gc_ret ?_
      refine gx_then_ret ?_
      refine gx_ret1 (.inl rfl) Try.results18 rfl [] (by decide) ?_
      exact ⟨rfl, rfl⟩
    · skip
      refine gl_op (op_rd rfl (rd_pick_f rfl rfl) ?_)
      refine gl_op (op_rd rfl (rd_move rfl) ?_)
      refine gl_yes rfl rfl (op_rd rfl (rd_move rfl) ?_)
      refine gl_yes rfl rfl (op_rd rfl (rd_lenSlice Try.underlying36 rfl) ?_)
      refine gl_yes rfl rfl (op_rd rfl (rd_gtr rfl rfl) (gk_dec (fun h21 => ?_) (fun h21 => ?_)))
      · skip
        refine gl_op (op_rd rfl (rd_pick_f rfl rfl) ?_)
        refine gl_nil ?_
        refine gx_then ?_
        refine gc_cond_t rfl ?_
        refine gc_seq ?_
        refine gc_region ?_
        refine gl_op (op_rd rfl (rd_assign rfl) ?_)
        refine gl_nil ?_
        refine gx_then ?_
        refine gc_ret ?_
        refine gx_then_ret ?_
        refine gx_ret1 (.inl rfl) Try.results18 rfl [] (by decide) ?_
        exact ⟨rfl, rfl⟩
      · skip
        exfalso; omega

end Go.Proofs.Ythcbcdjkfefnlaa
