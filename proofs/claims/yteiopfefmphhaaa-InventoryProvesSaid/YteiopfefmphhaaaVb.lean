import Derived.Test.YteiopfefmphhaaaVa
import Derived.Test.YteiopfefmphhaaaGw
/- The table of prices and the assignment: what they compute, and their walks. -/
set_option linter.unusedSimpArgs false
set_option linter.unusedVariables false
set_option linter.unnecessarySimpa false
set_option autoImplicit false
set_option linter.unusedVariables false
namespace Go.Proofs.Yteiopfefmphhaaa
open Go.Gv
open Go.RowKit
namespace Iv
structure Pr where
  a : Int
  b : Int
  deriving Inhabited, DecidableEq
def Pr.cells (p : Pr) : List Value := [.int .i64 p.a, .int .i64 p.b]
abbrev Pr.val (p : Pr) : Value := .agg #[.int .i64 p.a, .int .i64 p.b]
def wr (z : Int) : Int := IntKind.i64.wrap z
def Pr.add (p q : Pr) : Pr := ⟨wr (p.a + q.a), wr (p.b + q.b)⟩
def Pr.sub (p q : Pr) : Pr := ⟨wr (p.a - q.a), wr (p.b - q.b)⟩
def Pr.lt (p q : Pr) : Bool := decide (p.a < q.a) || (decide (p.a = q.a) && decide (p.b < q.b))
def never : Pr := ⟨1000, 0⟩
def zeroP : Pr := ⟨0, 0⟩
/-- a row of prices -/
structure PRow where
  a : Option Addr
  c : Nat
  ps : List Pr
  deriving Inhabited
def PRow.cell (q : PRow) : Value := .slice q.a q.ps.length q.c
def pipeCol (x : Wish) (p : Pipe) : Pr := if fits p x then ⟨0, cost p x⟩ else never
def dumCol (i k : Nat) : Pr := if k = i then ⟨1, 0⟩ else never
def rowP (l : List Pipe) (n i : Nat) (x : Wish) : List Pr := l.map (pipeCol x) ++ (List.range n).map (dumCol i)
def tableP (l : List Pipe) (w : List Wish) : List (List Pr) := (List.range w.length).map fun i => rowP l w.length i (w.getD i default)
/-- a row of one's own -/
structure ORow where
  r : Option Nat
  c : Nat
  ps : List Pr
def ORow.p (o : ORow) : PRow := ⟨rowA o.r, o.c, o.ps⟩
def ORow.hl (o : ORow) : HL := .row 62 2 o.r o.ps.length o.c (o.ps.flatMap Pr.cells)
def rowsT (tb : List ORow) : List HL := tb.reverse.map ORow.hl
theorem rowsT_snoc (tb : List ORow) (o : ORow) : rowsT (tb ++ [o]) = o.hl :: rowsT tb := by simp [rowsT]
theorem tableP_succ (l : List Pipe) (w : List Wish) (i : Nat) : (List.range (i + 1)).map (fun i => rowP l w.length i (w.getD i default)) = (List.range i).map (fun i => rowP l w.length i (w.getD i default)) ++ [rowP l w.length i (w.getD i default)] := by
  rw [List.range_succ, List.map_append]; rfl
theorem snocP (xs : List Pr) (q : Pr) : xs.flatMap Pr.cells ++ q.cells = (xs ++ [q]).flatMap Pr.cells := by simp [List.flatMap_append]
theorem snocP' (xs : List Pr) (a b : Int) : xs.flatMap Pr.cells ++ [.int .i64 a, .int .i64 b] = (xs ++ [(⟨a, b⟩ : Pr)]).flatMap Pr.cells := by simp [List.flatMap_append, Pr.cells]
/-- the table in memory -/
structure TbIn (tb : List PRow) (a : Option Addr) (w : World) (S : List Nat) : Prop where
  o : OldSl w S a tb.length 1 (tb.map PRow.cell)
  r : ∀ q ∈ tb, OldSl w S q.a q.ps.length 2 (q.ps.flatMap Pr.cells)
theorem TbIn.at {tb : List PRow} {a : Option Addr} {w0 w : World} {S : List Nat} {l : List HL} (h : TbIn tb a w0 S) (ho : Own w0 S w l) : TbIn tb a w [] := ⟨h.o.at ho, fun q hq => (h.r q hq).at ho⟩
end Iv
end Go.Proofs.Yteiopfefmphhaaa

set_option autoImplicit false
set_option linter.unusedVariables false
namespace Go.Proofs.Yteiopfefmphhaaa
open Go.Gv
open Go.RowKit
open Iv
set_option maxRecDepth 100000 in
set_option maxHeartbeats 1000000 in
theorem plus_ok (p q : Pr) (w0 : World) : Sp Try.prog 32 [p.val, q.val] w0 [] (RV (p.add q).val) := by
  refine spec_enter Try.func32 rfl Try.ntmps32 rfl (Own.refl _) ?_
  simp only [argEnv]
  refine gc_seq ?_
  refine gc_region ?_
  refine gl_op (op_box rfl rfl rfl (fun b2 => ?_))
  refine gl_op (op_box rfl rfl rfl (fun b3 => ?_))
  refine gl_op (op_alloc ty_62 rfl rfl (fun b4 => ?_))
  refine gl_nil ?_
  refine gx_then ?_
  refine gc_seq ?_
  refine gc_region ?_
  refine gl_op (op_rd rfl (rd_indexArr Try.underlying62 ty_2 rfl rfl (by omega) (by omega)) ?_)
  refine gl_op (op_rd rfl (rd_load Try.underlying2 rfl rfl (by first | exact ld_blk 0 rfl rfl | exact ld_blk 1 rfl rfl | exact ld_blk 2 rfl rfl | exact ld_slN (by assumption) (get_nats (by omega)) | exact ld_slN (by assumption) (get_ints (by omega)) | exact ld_old (by assumption) (by simp) | exact ld_cells (by assumption) (by simp) rfl)) ?_)
  refine gl_op (op_rd rfl (rd_indexArr Try.underlying62 ty_2 rfl rfl (by omega) (by omega)) ?_)
  refine gl_op (op_rd rfl (rd_load Try.underlying2 rfl rfl (by first | exact ld_blk 0 rfl rfl | exact ld_blk 1 rfl rfl | exact ld_blk 2 rfl rfl | exact ld_slN (by assumption) (get_nats (by omega)) | exact ld_slN (by assumption) (get_ints (by omega)) | exact ld_old (by assumption) (by simp) | exact ld_cells (by assumption) (by simp) rfl)) ?_)
  refine gl_op (op_rd rfl (rd_addk rfl rfl) ?_)
  refine gl_op (op_rd rfl (rd_indexArr Try.underlying62 ty_2 rfl rfl (by omega) (by omega)) ?_)
  refine gl_op (op_rd rfl (rd_load Try.underlying2 rfl rfl (by first | exact ld_blk 0 rfl rfl | exact ld_blk 1 rfl rfl | exact ld_blk 2 rfl rfl | exact ld_slN (by assumption) (get_nats (by omega)) | exact ld_slN (by assumption) (get_ints (by omega)) | exact ld_old (by assumption) (by simp) | exact ld_cells (by assumption) (by simp) rfl)) ?_)
  refine gl_op (op_rd rfl (rd_indexArr Try.underlying62 ty_2 rfl rfl (by omega) (by omega)) ?_)
  refine gl_op (op_rd rfl (rd_load Try.underlying2 rfl rfl (by first | exact ld_blk 0 rfl rfl | exact ld_blk 1 rfl rfl | exact ld_blk 2 rfl rfl | exact ld_slN (by assumption) (get_nats (by omega)) | exact ld_slN (by assumption) (get_ints (by omega)) | exact ld_old (by assumption) (by simp) | exact ld_cells (by assumption) (by simp) rfl)) ?_)
  refine gl_op (op_rd rfl (rd_addk rfl rfl) ?_)
  refine gl_op (op_rd rfl (rd_build rfl (fun _ => bd_62_0_1 _ _)) ?_)
  first | refine gl_op (op_storeAgg 0 ty_62 rfl rfl rfl rfl rfl rfl (by first | rfl | (simp only [List.set_cons_succ, List.set_cons_zero]; exact rfl)) ?_) | refine gl_op (op_storeAgg 1 ty_62 rfl rfl rfl rfl rfl rfl (by first | rfl | (simp only [List.set_cons_succ, List.set_cons_zero]; exact rfl)) ?_) | refine gl_op (op_storeAgg 2 ty_62 rfl rfl rfl rfl rfl rfl (by first | rfl | (simp only [List.set_cons_succ, List.set_cons_zero]; exact rfl)) ?_)
  refine gl_nil ?_
  refine gx_then ?_
  refine gc_ret ?_
  refine gx_retV1 (.inl rfl) Try.results32 (rv_agg Try.underlying62 rfl ty_62 rfl (by rfl) (cs_blk 0 (off := 0) (k := 2) rfl rfl)) [] (by decide) ?_
  exact ⟨rfl, rfl⟩

set_option maxRecDepth 100000 in
set_option maxHeartbeats 1000000 in
theorem minus_ok (p q : Pr) (w0 : World) : Sp Try.prog 43 [p.val, q.val] w0 [] (RV (p.sub q).val) := by
  refine spec_enter Try.func43 rfl Try.ntmps43 rfl (Own.refl _) ?_
  simp only [argEnv]
  refine gc_seq ?_
  refine gc_region ?_
  refine gl_op (op_box rfl rfl rfl (fun b2 => ?_))
  refine gl_op (op_box rfl rfl rfl (fun b3 => ?_))
  refine gl_op (op_alloc ty_62 rfl rfl (fun b4 => ?_))
  refine gl_nil ?_
  refine gx_then ?_
  refine gc_seq ?_
  refine gc_region ?_
  refine gl_op (op_rd rfl (rd_indexArr Try.underlying62 ty_2 rfl rfl (by omega) (by omega)) ?_)
  refine gl_op (op_rd rfl (rd_load Try.underlying2 rfl rfl (by first | exact ld_blk 0 rfl rfl | exact ld_blk 1 rfl rfl | exact ld_blk 2 rfl rfl | exact ld_slN (by assumption) (get_nats (by omega)) | exact ld_slN (by assumption) (get_ints (by omega)) | exact ld_old (by assumption) (by simp) | exact ld_cells (by assumption) (by simp) rfl)) ?_)
  refine gl_op (op_rd rfl (rd_indexArr Try.underlying62 ty_2 rfl rfl (by omega) (by omega)) ?_)
  refine gl_op (op_rd rfl (rd_load Try.underlying2 rfl rfl (by first | exact ld_blk 0 rfl rfl | exact ld_blk 1 rfl rfl | exact ld_blk 2 rfl rfl | exact ld_slN (by assumption) (get_nats (by omega)) | exact ld_slN (by assumption) (get_ints (by omega)) | exact ld_old (by assumption) (by simp) | exact ld_cells (by assumption) (by simp) rfl)) ?_)
  refine gl_op (op_rd rfl (rd_subk rfl rfl) ?_)
  refine gl_op (op_rd rfl (rd_indexArr Try.underlying62 ty_2 rfl rfl (by omega) (by omega)) ?_)
  refine gl_op (op_rd rfl (rd_load Try.underlying2 rfl rfl (by first | exact ld_blk 0 rfl rfl | exact ld_blk 1 rfl rfl | exact ld_blk 2 rfl rfl | exact ld_slN (by assumption) (get_nats (by omega)) | exact ld_slN (by assumption) (get_ints (by omega)) | exact ld_old (by assumption) (by simp) | exact ld_cells (by assumption) (by simp) rfl)) ?_)
  refine gl_op (op_rd rfl (rd_indexArr Try.underlying62 ty_2 rfl rfl (by omega) (by omega)) ?_)
  refine gl_op (op_rd rfl (rd_load Try.underlying2 rfl rfl (by first | exact ld_blk 0 rfl rfl | exact ld_blk 1 rfl rfl | exact ld_blk 2 rfl rfl | exact ld_slN (by assumption) (get_nats (by omega)) | exact ld_slN (by assumption) (get_ints (by omega)) | exact ld_old (by assumption) (by simp) | exact ld_cells (by assumption) (by simp) rfl)) ?_)
  refine gl_op (op_rd rfl (rd_subk rfl rfl) ?_)
  refine gl_op (op_rd rfl (rd_build rfl (fun _ => bd_62_0_1 _ _)) ?_)
  first | refine gl_op (op_storeAgg 0 ty_62 rfl rfl rfl rfl rfl rfl (by first | rfl | (simp only [List.set_cons_succ, List.set_cons_zero]; exact rfl)) ?_) | refine gl_op (op_storeAgg 1 ty_62 rfl rfl rfl rfl rfl rfl (by first | rfl | (simp only [List.set_cons_succ, List.set_cons_zero]; exact rfl)) ?_) | refine gl_op (op_storeAgg 2 ty_62 rfl rfl rfl rfl rfl rfl (by first | rfl | (simp only [List.set_cons_succ, List.set_cons_zero]; exact rfl)) ?_)
  refine gl_nil ?_
  refine gx_then ?_
  refine gc_ret ?_
  refine gx_retV1 (.inl rfl) Try.results43 (rv_agg Try.underlying62 rfl ty_62 rfl (by rfl) (cs_blk 0 (off := 0) (k := 2) rfl rfl)) [] (by decide) ?_
  exact ⟨rfl, rfl⟩

set_option maxRecDepth 100000 in
set_option maxHeartbeats 1000000 in
theorem less_ok (p q : Pr) (w0 : World) : Sp Try.prog 44 [p.val, q.val] w0 [] (RV (.bool (p.lt q))) := by
  refine spec_enter Try.func44 rfl Try.ntmps44 rfl (Own.refl _) ?_
  simp only [argEnv]
  refine gc_seq ?_
  refine gc_region ?_
  refine gl_op (op_box rfl rfl rfl (fun b2 => ?_))
  refine gl_op (op_box rfl rfl rfl (fun b3 => ?_))
  refine gl_op (op_rd rfl (rd_assign rfl) ?_)
  refine gl_nil ?_
  refine gx_then ?_
  refine gc_seq ?_
  refine gc_region ?_
  refine gl_op (op_rd rfl (rd_indexArr Try.underlying62 ty_2 rfl rfl (by omega) (by omega)) ?_)
  refine gl_op (op_rd rfl (rd_load Try.underlying2 rfl rfl (by first | exact ld_blk 0 rfl rfl | exact ld_blk 1 rfl rfl | exact ld_slN (by assumption) (get_nats (by omega)) | exact ld_slN (by assumption) (get_ints (by omega)) | exact ld_old (by assumption) (by simp) | exact ld_cells (by assumption) (by simp) rfl)) ?_)
  refine gl_op (op_rd rfl (rd_indexArr Try.underlying62 ty_2 rfl rfl (by omega) (by omega)) ?_)
  refine gl_op (op_rd rfl (rd_load Try.underlying2 rfl rfl (by first | exact ld_blk 0 rfl rfl | exact ld_blk 1 rfl rfl | exact ld_slN (by assumption) (get_nats (by omega)) | exact ld_slN (by assumption) (get_ints (by omega)) | exact ld_old (by assumption) (by simp) | exact ld_cells (by assumption) (by simp) rfl)) ?_)
  refine gl_op (op_rd rfl (rd_lss rfl rfl) (gk_dec (fun h1 => ?_) (fun h1 => ?_)))
  · skip
    refine gl_op (op_rd rfl (rd_move rfl) ?_)
    refine gl_no rfl rfl rfl ?_
    refine gl_no rfl rfl rfl ?_
    refine gl_no rfl rfl rfl ?_
    refine gl_no rfl rfl rfl ?_
    refine gl_no rfl rfl rfl ?_
    refine gl_no rfl rfl rfl ?_
    refine gl_noU rfl rfl rfl ?_
    refine gl_noU rfl rfl rfl ?_
    refine gl_noU rfl rfl rfl ?_
    refine gl_noU rfl rfl rfl ?_
    refine gl_noU rfl rfl rfl ?_
    refine gl_no rfl rfl rfl ?_
    refine gl_op (op_rd rfl (rd_pick_t rfl rfl) ?_)
    refine gl_op (op_rd rfl (rd_assign rfl) ?_)
    refine gl_nil ?_
    refine gx_then ?_
    refine gc_ret ?_
    refine gx_ret1 (.inl rfl) Try.results44 rfl [] (by decide) ?_
    refine ⟨?_, rfl⟩
    unfold Pr.lt
    simp [*]
  · skip
    refine gl_op (op_rd rfl (rd_move rfl) ?_)
    refine gl_yes rfl rfl (op_rd rfl (rd_indexArr Try.underlying62 ty_2 rfl rfl (by omega) (by omega)) ?_)
    refine gl_yes rfl rfl (op_rd rfl (rd_load Try.underlying2 rfl rfl (by first | exact ld_blk 0 rfl rfl | exact ld_blk 1 rfl rfl | exact ld_slN (by assumption) (get_nats (by omega)) | exact ld_slN (by assumption) (get_ints (by omega)) | exact ld_old (by assumption) (by simp) | exact ld_cells (by assumption) (by simp) rfl)) ?_)
    refine gl_yes rfl rfl (op_rd rfl (rd_indexArr Try.underlying62 ty_2 rfl rfl (by omega) (by omega)) ?_)
    refine gl_yes rfl rfl (op_rd rfl (rd_load Try.underlying2 rfl rfl (by first | exact ld_blk 0 rfl rfl | exact ld_blk 1 rfl rfl | exact ld_slN (by assumption) (get_nats (by omega)) | exact ld_slN (by assumption) (get_ints (by omega)) | exact ld_old (by assumption) (by simp) | exact ld_cells (by assumption) (by simp) rfl)) ?_)
    refine gl_yes rfl rfl (op_rd rfl (rd_eql rfl rfl) (gk_dec (fun h2 => ?_) (fun h2 => ?_)))
    · skip
      refine gl_yes rfl rfl (op_rd rfl (rd_move rfl) ?_)
      refine gl_yes rfl rfl (op_rd rfl (rd_indexArr Try.underlying62 ty_2 rfl rfl (by omega) (by omega)) ?_)
      refine gl_yes rfl rfl (op_rd rfl (rd_load Try.underlying2 rfl rfl (by first | exact ld_blk 0 rfl rfl | exact ld_blk 1 rfl rfl | exact ld_slN (by assumption) (get_nats (by omega)) | exact ld_slN (by assumption) (get_ints (by omega)) | exact ld_old (by assumption) (by simp) | exact ld_cells (by assumption) (by simp) rfl)) ?_)
      refine gl_yes rfl rfl (op_rd rfl (rd_indexArr Try.underlying62 ty_2 rfl rfl (by omega) (by omega)) ?_)
      refine gl_yes rfl rfl (op_rd rfl (rd_load Try.underlying2 rfl rfl (by first | exact ld_blk 0 rfl rfl | exact ld_blk 1 rfl rfl | exact ld_slN (by assumption) (get_nats (by omega)) | exact ld_slN (by assumption) (get_ints (by omega)) | exact ld_old (by assumption) (by simp) | exact ld_cells (by assumption) (by simp) rfl)) ?_)
      refine gl_yes rfl rfl (op_rd rfl (rd_lss rfl rfl) ?_)
      refine gl_yes rfl rfl (op_rd rfl (rd_pick_t rfl rfl) ?_)
      refine gl_op (op_rd rfl (rd_pick_f rfl rfl) ?_)
      refine gl_op (op_rd rfl (rd_assign rfl) ?_)
      refine gl_nil ?_
      refine gx_then ?_
      refine gc_ret ?_
      refine gx_ret1 (.inl rfl) Try.results44 rfl [] (by decide) ?_
      refine ⟨?_, rfl⟩
      unfold Pr.lt
      simp [*]
    · skip
      refine gl_yes rfl rfl (op_rd rfl (rd_move rfl) ?_)
      refine gl_no rfl rfl rfl ?_
      refine gl_no rfl rfl rfl ?_
      refine gl_no rfl rfl rfl ?_
      refine gl_no rfl rfl rfl ?_
      refine gl_no rfl rfl rfl ?_
      refine gl_yes rfl rfl (op_rd rfl (rd_pick_f rfl rfl) ?_)
      refine gl_op (op_rd rfl (rd_pick_f rfl rfl) ?_)
      refine gl_op (op_rd rfl (rd_assign rfl) ?_)
      refine gl_nil ?_
      refine gx_then ?_
      refine gc_ret ?_
      refine gx_ret1 (.inl rfl) Try.results44 rfl [] (by decide) ?_
      refine ⟨?_, rfl⟩
      unfold Pr.lt
      simp [*]

set_option maxRecDepth 100000 in
set_option maxHeartbeats 1000000 in
theorem never_ok (w0 : World) : Sp Try.prog 31 [] w0 [] (RV never.val) := by
  refine spec_enter Try.func31 rfl Try.ntmps31 rfl (Own.refl _) ?_
  simp only [argEnv]
  refine gc_seq ?_
  refine gc_region ?_
  refine gl_op (op_alloc ty_62 rfl rfl (fun b0 => ?_))
  refine gl_nil ?_
  refine gx_then ?_
  refine gc_seq ?_
  refine gc_region ?_
  refine gl_op (op_rd rfl (rd_build rfl (fun _ => bd_62_0_1 _ _)) ?_)
  refine gl_op (op_storeAgg 0 ty_62 rfl rfl rfl rfl rfl rfl (by first | rfl | (simp only [List.set_cons_succ, List.set_cons_zero]; exact rfl)) ?_)
  refine gl_nil ?_
  refine gx_then ?_
  refine gc_ret ?_
  refine gx_retV1 (.inl rfl) Try.results31 (rv_agg Try.underlying62 rfl ty_62 rfl (by rfl) (cs_blk 0 (off := 0) (k := 2) rfl rfl)) [] (by decide) ?_
  exact ⟨rfl, rfl⟩

set_option maxRecDepth 100000 in
set_option maxHeartbeats 1000000 in
theorem table_ok (l : List Pipe) (w : List Wish) (a b : Option Addr) (ca cb : Nat) (w0 : World) (hl : OldSl w0 [] a l.length 3 (l.flatMap Pipe.cells)) (hw : OldSl w0 [] b w.length 5 (w.flatMap Wish.cells)) (hd : Dat l w) : Sp Try.prog 29 [.slice a l.length ca, .slice b w.length cb] w0 [] (fun v L => ∃ (tb : List ORow) (r : Option Nat) (cp : Nat), tb.map ORow.ps = tableP l w ∧ v = .slice (rowA r) tb.length cp ∧ L = .row 65 1 r tb.length cp (tb.map fun o => o.p.cell) :: rowsT tb) := by
  refine spec_enter Try.func29 rfl Try.ntmps29 rfl (Own.refl _) ?_
  simp only [argEnv]
  refine gc_seq ?_
  refine gc_region ?_
  refine gl_op (op_rd rfl (rd_assign rfl) ?_)
  refine gl_nil ?_
  refine gx_then ?_
  refine gc_seq ?_
  refine gc_region ?_
  refine gl_op (op_rd rfl (rd_assign rfl) ?_)
  refine gl_nil ?_
  refine gx_then ?_
  refine gc_seq ?_
  refine gc_seq ?_
  refine gc_region ?_
  refine gl_op (op_rd rfl (rd_move rfl) ?_)
  refine gl_op (op_rd rfl (rd_lenSlice Try.underlying23 rfl) ?_)
  refine gl_op (op_rd rfl (rd_move rfl) ?_)
  refine gl_nil ?_
  refine gx_then ?_
  refine gc_block ?_
  refine gk_nil 65 1 ?_
  refine gc_loopF (ι := Nat × List ORow × Option Nat × Nat) [(0, _), (1, _), (14, _), (15, _)] [] (fun j => j.1 ≤ w.length ∧ j.2.1.map ORow.ps = (List.range j.1).map fun i => rowP l w.length i (w.getD i default)) (fun j Fr0 => ((16, natV j.1) :: (5, .slice (rowA j.2.2.1) j.2.1.length j.2.2.2) :: Fr0)) (fun j Fr0 => (.row 65 1 j.2.2.1 j.2.1.length j.2.2.2 (j.2.1.map fun o => o.p.cell) :: (Fr0 ++ rowsT j.2.1))) (fun j => w.length - j.1) (0, [], none, 0) (⟨Nat.zero_le _, rfl⟩) ⟨rfl, rfl, rfl, rfl, rfl, rfl, trivial⟩ ⟨[0], by decide, rfl⟩ ?_
  rintro ⟨i, tb, r5, c5⟩ ⟨hi, htb⟩
  simp only at hi htb ⊢
  have htl : tb.length = i := by have := congrArg List.length htb; simpa using this
  refine gc_seq ?_
  refine gc_region ?_
  refine gl_op (op_rd rfl (rd_lss rfl rfl) (gk_dec (fun hlt => ?_) (fun hlt => ?_)))
  · skip
    obtain ⟨x, hx⟩ := get_some (show i < w.length by omega)
    have hwd : w.getD i default = x := getD_some hx
    have hxo := hd.w x (List.mem_of_getElem? hx)
    have hwn := hd.wn
    have hln := hd.ln
    refine gl_nil ?_
    refine gx_then ?_
    refine gc_seq ?_
    refine gc_cond_t rfl ?_
    refine gc_skip ?_
    refine gx_then ?_
    refine gc_seq ?_
    refine gc_block ?_
    refine gc_seq ?_
    refine gc_region ?_
    refine gl_op (op_rd rfl (rd_move rfl) ?_)
    refine gl_op (op_rd rfl (by first | exact rd_indexRow 0 rfl Try.underlying23 ty_29 rfl rfl (by omega) (by omega) | exact rd_indexS Try.underlying23 ty_29 rfl rfl (by omega) (by omega) | exact rd_indexOld (by assumption) Try.underlying23 ty_29 rfl rfl (by omega) (by omega) | exact rd_index Try.underlying23 ty_29 rfl rfl (by omega) (by omega)) ?_)
    refine gl_op (op_rd rfl (rd_loadAgg Try.underlying29 rfl ty_29 rfl (cs_slN hw (flat_drop_get Wish.cells 5 (fun _ => rfl) hx)) rfl) ?_)
    refine gl_op (op_alloc ty_29 rfl rfl (fun b7 => ?_))
    refine gl_op (op_rd rfl (rd_assign rfl) ?_)
    first | refine gl_op (op_storeAgg 0 ty_29 rfl rfl rfl rfl rfl rfl (by first | rfl | (simp only [List.set_cons_succ, List.set_cons_zero]; exact rfl)) ?_) | refine gl_op (op_storeRowAgg 1 ty_29 rfl rfl rfl rfl rfl (by simp; omega) (by first | rfl | (simp only [List.set_cons_succ, List.set_cons_zero]; exact rfl)) ?_)
    refine gl_nil ?_
    refine gx_then ?_
    refine gc_seq ?_
    refine gc_region ?_
    refine gl_op (op_rd rfl (rd_assign rfl) ?_)
    refine gl_nil ?_
    refine gx_then ?_
    refine gc_seq ?_
    refine gc_seq ?_
    refine gc_region ?_
    refine gl_op (op_rd rfl (rd_move rfl) ?_)
    refine gl_op (op_rd rfl (rd_lenSlice Try.underlying22 rfl) ?_)
    refine gl_op (op_rd rfl (rd_move rfl) ?_)
    refine gl_nil ?_
    refine gx_then ?_
    refine gc_block ?_
    refine gk_nil 62 2 ?_
    refine gc_loopF (ι := Nat × List Pr × Option Nat × Nat) [(0, _), (1, _), (5, _), (6, _), (7, _), (14, _), (15, _), (16, _), (21, _), (22, _)] (_ :: _ :: rowsT tb) (fun j => j.1 ≤ l.length ∧ j.2.1 = (l.take j.1).map (pipeCol x)) (fun j Fr0 => ((23, natV j.1) :: (8, .slice (rowA j.2.2.1) j.2.1.length j.2.2.2) :: Fr0)) (fun j Fr0 => (.row 62 2 j.2.2.1 j.2.1.length j.2.2.2 (j.2.1.flatMap Pr.cells) :: Fr0)) (fun j => l.length - j.1) (0, [], none, 0) (⟨Nat.zero_le _, rfl⟩) ⟨rfl, rfl, rfl, rfl, rfl, rfl, rfl, rfl, rfl, rfl, rfl, rfl, trivial⟩ (sub_tail (A := [_, _, _]) (B := [_, _, _]) (T := rowsT tb) [0, 1, 2] 3 (by decide) (by decide) rfl rfl) ?_
    rintro ⟨k, rs, r8, c8⟩ ⟨hk, hrs⟩
    simp only at hk hrs ⊢
    have hrl : rs.length = k := by rw [hrs]; simp; omega
    refine gc_seq ?_
    refine gc_region ?_
    refine gl_op (op_rd rfl (rd_lss rfl rfl) (gk_dec (fun hlt2 => ?_) (fun hlt2 => ?_)))
    · skip
      obtain ⟨p, hp⟩ := get_some (show k < l.length by omega)
      have hpo := hd.p p (List.mem_of_getElem? hp)
      refine gl_nil ?_
      refine gx_then ?_
      refine gc_seq ?_
      refine gc_cond_t rfl ?_
      refine gc_skip ?_
      refine gx_then ?_
      refine gc_seq ?_
      refine gc_block ?_
      refine gc_seq ?_
      refine gc_region ?_
      refine gl_op (op_rd rfl (by first | exact rd_indexRow 0 rfl Try.underlying22 ty_25 rfl rfl (by omega) (by omega) | exact rd_indexRow 2 rfl Try.underlying22 ty_25 rfl rfl (by omega) (by omega) | exact rd_indexS Try.underlying22 ty_25 rfl rfl (by omega) (by omega) | exact rd_indexOld (by assumption) Try.underlying22 ty_25 rfl rfl (by omega) (by omega) | exact rd_index Try.underlying22 ty_25 rfl rfl (by omega) (by omega)) ?_)
      refine gl_op (op_rd rfl (rd_loadAgg Try.underlying25 rfl ty_25 rfl (cs_slN hl (flat_drop_get Pipe.cells 3 (fun _ => rfl) hp)) rfl) ?_)
      refine gl_op (op_alloc ty_25 rfl rfl (fun b10 => ?_))
      first | refine gl_op (op_storeAgg 0 ty_25 rfl rfl rfl rfl rfl rfl (by first | rfl | (simp only [List.set_cons_succ, List.set_cons_zero]; exact rfl)) ?_) | refine gl_op (op_storeAgg 2 ty_25 rfl rfl rfl rfl rfl rfl (by first | rfl | (simp only [List.set_cons_succ, List.set_cons_zero]; exact rfl)) ?_) | refine gl_op (op_storeRowAgg 1 ty_25 rfl rfl rfl rfl rfl (by simp; omega) (by first | rfl | (simp only [List.set_cons_succ, List.set_cons_zero]; exact rfl)) ?_) | refine gl_op (op_storeRowAgg 3 ty_25 rfl rfl rfl rfl rfl (by simp; omega) (by first | rfl | (simp only [List.set_cons_succ, List.set_cons_zero]; exact rfl)) ?_)
      refine gl_nil ?_
      refine gx_then ?_
      refine gc_seq ?_
      refine gc_region ?_
      refine gl_op (op_rd rfl (rd_loadAgg Try.underlying25 rfl ty_25 rfl (by first | exact cs_blk 0 (off := 0) (k := 3) rfl rfl | exact cs_blk 2 (off := 0) (k := 3) rfl rfl | exact cs_old (by assumption) (by simp)) rfl) ?_)
      refine gl_op (op_rd rfl (rd_loadAgg Try.underlying29 rfl ty_29 rfl (by first | exact cs_blk 0 (off := 0) (k := 5) rfl rfl | exact cs_blk 2 (off := 0) (k := 5) rfl rfl | exact cs_old (by assumption) (by simp)) rfl) ?_)
      simp only [Pipe.cells, Wish.cells]
      refine gl_op (op_call rfl (vf := []) (vc := []) rfl rfl Try.call23 (fun w1 ho => fit_ok p x hpo hxo w1) ?_)
      rintro _ _ ⟨rfl, rfl⟩
      refine gl_op (op_rd rfl (rd_move rfl) ?_)
      refine gl_op (op_rd rfl (rd_extract rfl rfl) ?_)
      refine gl_op (op_rd rfl (rd_extract rfl rfl) ?_)
      refine gl_op (op_rd rfl (rd_assign rfl) ?_)
      refine gl_op (op_rd rfl (rd_assign rfl) ?_)
      refine gl_nil ?_
      refine gx_then ?_
      refine gc_seq ?_
      refine gc_region ?_
      refine gl_op (op_rd rfl (rd_move rfl) ?_)
      refine gk_bool (fun hfit => ?_) (fun hfit => ?_)
      · skip
        have hf : fits p x = true := by cases h : fits p x with
          | true => rfl
          | false => rw [fitP, h] at hfit; cases hfit
        rw [show (fitP p x).1 = cost p x by rw [fitP, if_pos hf]]
        refine gl_nil ?_
        refine gx_then ?_
        refine gc_cond_t rfl ?_
        refine gc_region ?_
        refine gl_op (op_rd rfl (rd_move rfl) ?_)
        refine gl_op (op_rd rfl (rd_move rfl) ?_)
        refine gl_op (op_rd rfl (rd_build rfl (fun _ => bd_62_0_1 _ _)) ?_)
        refine gl_op (op_buildSlice (sz := 2) rfl rfl (fun _ => bs_65_1_0 _ _) rfl rfl (fun b37 => ?_))
        refine gl_op (op_appendRow 2 0 Try.underlying65 ty_62 rfl (by decide) rfl rfl rfl rfl rfl (by simp [Value.oneCell']) (by omega) (by omega) (fun _ => (by first | rfl | (simp only [List.set_cons_succ, List.set_cons_zero]; exact rfl))) (fun r38 c38 => ?_))
        refine gl_op (op_rd rfl (rd_assign rfl) ?_)
        refine gl_nil ?_
        refine gx_block ?_
        refine gx_then ?_
        rw [snocP', snoc_len rs ⟨0, cost p x⟩]
        refine gc_region ?_
        refine gl_op (op_rd rfl (by first | exact rd_addN (b := 1) rfl rfl (by omega) | exact rd_add rfl rfl (by omega) (by omega)) ?_)
        refine gl_op (op_rd rfl (rd_move rfl) ?_)
        refine gl_nil ?_
        refine gx_then ?_
        exact gx_cut ((k + 1, rs ++ [⟨0, cost p x⟩], r38, c38)) ⟨⟨by simp only; omega, by simp only; rw [take_at hp, List.map_append, hrs]; simp [pipeCol, hf]⟩, by simp only; omega⟩ ⟨rfl, rfl, rfl, rfl, rfl, rfl, rfl, rfl, rfl, rfl, rfl, rfl, trivial⟩ (sub_tail (A := [_, _, _]) (B := [_, _, _, _, _]) (T := rowsT tb) [2, 3, 4] 5 (by decide) (by decide) rfl rfl)
      · skip
        have hf : fits p x = false := by cases h : fits p x with
          | false => rfl
          | true => rw [fitP, h] at hfit; cases hfit
        refine gl_nil ?_
        refine gx_then ?_
        refine gc_cond_f rfl ?_
        refine gc_region ?_
        refine gl_op (op_rd rfl (rd_move rfl) ?_)
        refine gl_op (op_call rfl (vf := []) (vc := []) rfl rfl Try.call31 (fun w1 ho => never_ok w1) ?_)
        rintro _ _ ⟨rfl, rfl⟩
        refine gl_op (op_buildSlice (sz := 2) rfl rfl (fun _ => bs_65_1_0 _ _) rfl rfl (fun b41 => ?_))
        refine gl_op (op_appendRow 2 0 Try.underlying65 ty_62 rfl (by decide) rfl rfl rfl rfl rfl (by simp [Value.oneCell']) (by omega) (by omega) (fun _ => (by first | rfl | (simp only [List.set_cons_succ, List.set_cons_zero]; exact rfl))) (fun r42 c42 => ?_))
        refine gl_op (op_rd rfl (rd_assign rfl) ?_)
        refine gl_nil ?_
        refine gx_block ?_
        refine gx_then ?_
        rw [snocP', snoc_len rs never]
        refine gc_region ?_
        refine gl_op (op_rd rfl (by first | exact rd_addN (b := 1) rfl rfl (by omega) | exact rd_add rfl rfl (by omega) (by omega)) ?_)
        refine gl_op (op_rd rfl (rd_move rfl) ?_)
        refine gl_nil ?_
        refine gx_then ?_
        exact gx_cut ((k + 1, rs ++ [never], r42, c42)) ⟨⟨by simp only; omega, by simp only; rw [take_at hp, List.map_append, hrs]; simp [pipeCol, hf]⟩, by simp only; omega⟩ ⟨rfl, rfl, rfl, rfl, rfl, rfl, rfl, rfl, rfl, rfl, rfl, rfl, trivial⟩ (sub_tail (A := [_, _, _]) (B := [_, _, _, _, _]) (T := rowsT tb) [2, 3, 4] 5 (by decide) (by decide) rfl rfl)
    · skip
      refine gl_nil ?_
      refine gx_then ?_
      refine gc_seq ?_
      refine gc_cond_f rfl ?_
      refine gc_exit ?_
      refine gx_then_exit ?_
      refine gx_then_exit ?_
      refine gx_block_exit ?_
      refine gx_then ?_
      refine gc_seq ?_
      refine gc_seq ?_
      have hrs1 : rs = l.map (pipeCol x) := by rw [hrs, show k = l.length by omega, List.take_length]
      refine gc_region ?_
      refine gl_op (op_rd rfl (rd_move rfl) ?_)
      refine gl_op (op_rd rfl (rd_lenSlice Try.underlying23 rfl) ?_)
      refine gl_op (op_rd rfl (rd_move rfl) ?_)
      refine gl_nil ?_
      refine gx_then ?_
      refine gc_block ?_
      refine gc_loopF (ι := Nat × List Pr × Option Nat × Nat) [(0, _), (1, _), (5, _), (6, _), (14, _), (15, _), (16, _), (45, _)] (_ :: _ :: rowsT tb) (fun j => j.1 ≤ w.length ∧ j.2.1 = l.map (pipeCol x) ++ (List.range j.1).map (dumCol i)) (fun j Fr0 => ((46, natV j.1) :: (8, .slice (rowA j.2.2.1) j.2.1.length j.2.2.2) :: Fr0)) (fun j Fr0 => (.row 62 2 j.2.2.1 j.2.1.length j.2.2.2 (j.2.1.flatMap Pr.cells) :: Fr0)) (fun j => w.length - j.1) (0, rs, r8, c8) (⟨Nat.zero_le _, by simp only; rw [hrs1]; simp⟩) ⟨rfl, rfl, rfl, rfl, rfl, rfl, rfl, rfl, rfl, rfl, trivial⟩ (sub_tail (A := [_, _, _]) (B := [_, _, _]) (T := rowsT tb) [0, 1, 2] 3 (by decide) (by decide) rfl rfl) ?_
      rintro ⟨k, rs, r8, c8⟩ ⟨hk, hrs⟩
      simp only at hk hrs ⊢
      have hrl : rs.length = l.length + k := by rw [hrs]; simp
      refine gc_seq ?_
      refine gc_region ?_
      refine gl_op (op_rd rfl (rd_lss rfl rfl) (gk_dec (fun hlt3 => ?_) (fun hlt3 => ?_)))
      · skip
        refine gl_nil ?_
        refine gx_then ?_
        refine gc_seq ?_
        refine gc_cond_t rfl ?_
        refine gc_skip ?_
        refine gx_then ?_
        refine gc_seq ?_
        refine gc_block ?_
        refine gc_seq ?_
        refine gc_region ?_
        refine gl_op (op_rd rfl (rd_move rfl) ?_)
        refine gl_op (op_rd rfl (rd_assign rfl) ?_)
        refine gl_nil ?_
        refine gx_then ?_
        refine gc_seq ?_
        refine gc_region ?_
        refine gl_op (op_rd rfl (rd_move rfl) ?_)
        refine gl_op (op_rd rfl (rd_move rfl) ?_)
        refine gl_op (op_rd rfl (rd_eql rfl rfl) (gk_dec (fun h51 => ?_) (fun h51 => ?_)))
        · skip
          have hki : k = i := by omega
          refine gl_nil ?_
          refine gx_then ?_
          refine gc_cond_t rfl ?_
          refine gc_region ?_
          refine gl_op (op_rd rfl (rd_move rfl) ?_)
          refine gl_op (op_rd rfl (rd_build rfl (fun _ => bd_62_0_1 _ _)) ?_)
          refine gl_op (op_buildSlice (sz := 2) rfl rfl (fun _ => bs_65_1_0 _ _) rfl rfl (fun b54 => ?_))
          refine gl_op (op_appendRow 1 0 Try.underlying65 ty_62 rfl (by decide) rfl rfl rfl rfl rfl (by simp [Value.oneCell']) (by omega) (by omega) (fun _ => (by first | rfl | (simp only [List.set_cons_succ, List.set_cons_zero]; exact rfl))) (fun r55 c55 => ?_))
          refine gl_op (op_rd rfl (rd_assign rfl) ?_)
          refine gl_nil ?_
          refine gx_block ?_
          refine gx_then ?_
          rw [snocP', snoc_len rs ⟨1, 0⟩]
          refine gc_region ?_
          refine gl_op (op_rd rfl (by first | exact rd_addN (b := 1) rfl rfl (by omega) | exact rd_add rfl rfl (by omega) (by omega)) ?_)
          refine gl_op (op_rd rfl (rd_move rfl) ?_)
          refine gl_nil ?_
          refine gx_then ?_
          exact gx_cut ((k + 1, rs ++ [⟨1, 0⟩], r55, c55)) ⟨⟨by simp only; omega, by simp only; rw [hrs, List.range_succ, List.map_append, List.append_assoc]; simp [dumCol, hki]⟩, by simp only; omega⟩ ⟨rfl, rfl, rfl, rfl, rfl, rfl, rfl, rfl, rfl, rfl, trivial⟩ (sub_tail (A := [_, _, _]) (B := [_, _, _, _]) (T := rowsT tb) [1, 2, 3] 4 (by decide) (by decide) rfl rfl)
        · skip
          have hki : ¬ k = i := by omega
          refine gl_nil ?_
          refine gx_then ?_
          refine gc_cond_f rfl ?_
          refine gc_region ?_
          refine gl_op (op_rd rfl (rd_move rfl) ?_)
          refine gl_op (op_call rfl (vf := []) (vc := []) rfl rfl Try.call31 (fun w1 ho => never_ok w1) ?_)
          rintro _ _ ⟨rfl, rfl⟩
          refine gl_op (op_buildSlice (sz := 2) rfl rfl (fun _ => bs_65_1_0 _ _) rfl rfl (fun b58 => ?_))
          refine gl_op (op_appendRow 1 0 Try.underlying65 ty_62 rfl (by decide) rfl rfl rfl rfl rfl (by simp [Value.oneCell']) (by omega) (by omega) (fun _ => (by first | rfl | (simp only [List.set_cons_succ, List.set_cons_zero]; exact rfl))) (fun r59 c59 => ?_))
          refine gl_op (op_rd rfl (rd_assign rfl) ?_)
          refine gl_nil ?_
          refine gx_block ?_
          refine gx_then ?_
          rw [snocP', snoc_len rs never]
          refine gc_region ?_
          refine gl_op (op_rd rfl (by first | exact rd_addN (b := 1) rfl rfl (by omega) | exact rd_add rfl rfl (by omega) (by omega)) ?_)
          refine gl_op (op_rd rfl (rd_move rfl) ?_)
          refine gl_nil ?_
          refine gx_then ?_
          exact gx_cut ((k + 1, rs ++ [never], r59, c59)) ⟨⟨by simp only; omega, by simp only; rw [hrs, List.range_succ, List.map_append, List.append_assoc]; simp [dumCol, hki]⟩, by simp only; omega⟩ ⟨rfl, rfl, rfl, rfl, rfl, rfl, rfl, rfl, rfl, rfl, trivial⟩ (sub_tail (A := [_, _, _]) (B := [_, _, _, _]) (T := rowsT tb) [1, 2, 3] 4 (by decide) (by decide) rfl rfl)
      · skip
        refine gl_nil ?_
        refine gx_then ?_
        refine gc_seq ?_
        refine gc_cond_f rfl ?_
        refine gc_exit ?_
        refine gx_then_exit ?_
        refine gx_then_exit ?_
        refine gx_block_exit ?_
        refine gx_then ?_
        have hrs2 : rs = rowP l w.length i x := by rw [hrs, show k = w.length by omega]; rfl
        refine gc_region ?_
        refine gl_op (op_rd rfl (rd_move rfl) ?_)
        refine gl_op (op_rd rfl (rd_move rfl) ?_)
        refine gl_op (op_buildSlice (sz := 1) rfl rfl (fun _ => bs_59_1_0 _ _ _) rfl rfl (fun b63 => ?_))
        refine gl_op (op_appendRow 3 0 Try.underlying59 ty_65 rfl (by decide) rfl rfl rfl rfl rfl (by simp [Value.oneCell']) (by omega) (by omega) (fun _ => (by first | rfl | (simp only [List.set_cons_succ, List.set_cons_zero]; exact rfl))) (fun r64 c64 => ?_))
        refine gl_op (op_rd rfl (rd_assign rfl) ?_)
        refine gl_nil ?_
        refine gx_block ?_
        refine gx_then ?_
        rw [show tb.map (fun o => o.p.cell) ++ [.slice (rowA r8) rs.length c8] = (tb ++ [(⟨r8, c8, rs⟩ : ORow)]).map (fun o => o.p.cell) by simp [ORow.p, PRow.cell], snoc_len tb (⟨r8, c8, rs⟩ : ORow)]
        refine gc_region ?_
        refine gl_op (op_rd rfl (by first | exact rd_addN (b := 1) rfl rfl (by omega) | exact rd_add rfl rfl (by omega) (by omega)) ?_)
        refine gl_op (op_rd rfl (rd_move rfl) ?_)
        refine gl_nil ?_
        refine gx_then ?_
        exact gx_cut ((i + 1, tb ++ [⟨r8, c8, rs⟩], r64, c64)) ⟨⟨by simp only; omega, by simp only; rw [List.map_append, htb, tableP_succ, hwd, List.map_singleton, hrs2]⟩, by simp only; omega⟩ ⟨rfl, rfl, rfl, rfl, rfl, rfl, trivial⟩ (by simp only [rowsT_snoc]; exact (sub_tail (A := [_, _]) (B := [_, _, _, _]) (T := rowsT tb) [3, 1] 4 (by decide) (by decide) rfl rfl))
  · skip
    refine gl_nil ?_
    refine gx_then ?_
    refine gc_seq ?_
    refine gc_cond_f rfl ?_
    refine gc_exit ?_
    refine gx_then_exit ?_
    refine gx_then_exit ?_
    refine gx_block_exit ?_
    refine gx_then ?_
    refine gc_seq ?_
    refine gc_region ?_
    refine gl_op (op_rd rfl (rd_move rfl) ?_)
    refine gl_op (op_rd rfl (rd_assign rfl) ?_)
    refine gl_nil ?_
    refine gx_then ?_
    refine gc_ret ?_
    refine gx_ret1S (.inl rfl) Try.results29 rfl (sub_tail (A := [_]) (B := [_]) (T := rowsT tb) [0] 1 (by decide) (by decide) rfl rfl) ?_
    exact ⟨tb, r5, c5, by rw [htb, show i = w.length by omega]; rfl, rfl, rfl⟩

end Go.Proofs.Yteiopfefmphhaaa

set_option autoImplicit false
set_option linter.unusedVariables false
namespace Go.Proofs.Yteiopfefmphhaaa
open Go.Gv
open Go.RowKit
namespace Iv
def big1 : Pr := ⟨1099511627776, 0⟩
def big2 : Pr := ⟨2199023255552, 0⟩
def gp (xs : List Pr) (i : Nat) : Pr := xs.getD i default
def gn (xs : List Nat) (i : Nat) : Nat := xs.getD i 0
def tbl (t : List (List Pr)) (r j : Nat) : Pr := gp (t.getD r []) j
theorem gp_get {xs : List Pr} {k : Nat} (h : k < xs.length) : xs[k]? = some (gp xs k) := by simp [gp, h]
theorem gp_set {xs : List Pr} {i k : Nat} {a : Pr} (h : i < xs.length) : gp (xs.set i a) k = if i = k then a else gp xs k := by unfold gp; exact getD_set xs i k a h
theorem gn_set {xs : List Nat} {i k a : Nat} (h : i < xs.length) : gn (xs.set i a) k = if i = k then a else gn xs k := by unfold gn; exact getD_set xs i k a h
/-- a statement that omega need not read -/
structure Bx (p : Prop) : Prop where
  out : p
structure Sc where
  low : List Pr
  way : List Nat
  step : Pr
  next : Nat
section
variable (t : List (List Pr)) (taken : List Bool)
def redP (u v : List Pr) (row : List Nat) (at_ j : Nat) : Pr := ((tbl t (gn row at_ - 1) (j - 1)).sub (gp u (gn row at_))).sub (gp v j)
def scanX (x : Pr) (at_ j : Nat) (s : Sc) : Sc := if x.lt (gp s.low j) then { s with low := s.low.set j x, way := s.way.set j at_ } else s
def scanN (j : Nat) (s : Sc) : Sc := if (gp s.low j).lt s.step then { s with step := gp s.low j, next := j } else s
def skipJ (used : List Nat) (j : Nat) : Bool := decide (j ∈ used) || taken.getD (j - 1) false
def scanOne (u v : List Pr) (row used : List Nat) (at_ : Nat) (s : Sc) (j : Nat) : Sc :=
  if skipJ taken used j then s else scanN j (scanX (redP t u v row at_ j) at_ j s)
def scanTo (u v : List Pr) (row used : List Nat) (at_ : Nat) (s : Sc) (q : Nat) : Sc := (List.range' 1 q).foldl (scanOne t taken u v row used at_) s
structure Up where
  u : List Pr
  v : List Pr
  low : List Pr
def updOne (row used : List Nat) (step : Pr) (s : Up) (j : Nat) : Up :=
  if j ∈ used then { s with u := s.u.set (gn row j) ((gp s.u (gn row j)).add step), v := s.v.set j ((gp s.v j).sub step) } else { s with low := s.low.set j ((gp s.low j).sub step) }
def updTo (row used : List Nat) (step : Pr) (s : Up) (q : Nat) : Up := (List.range q).foldl (updOne row used step) s
structure Inn where
  u : List Pr
  v : List Pr
  low : List Pr
  way : List Nat
  used : List Nat
  at_ : Nat
def innerStep (m : Nat) (row : List Nat) (s : Inn) : Inn :=
  let sc := scanTo t taken s.u s.v row (s.used ++ [s.at_]) s.at_ ⟨s.low, s.way, big2, 0⟩ m
  let up := updTo row (s.used ++ [s.at_]) sc.step ⟨s.u, s.v, sc.low⟩ (m + 1)
  ⟨up.u, up.v, up.low, sc.way, s.used ++ [s.at_], sc.next⟩
def innerGo (m : Nat) (row : List Nat) : Nat → Inn → Option Inn
  | 0, _ => none
  | f + 1, s => if (innerStep t taken m row s).at_ = 0 then none else if gn row (innerStep t taken m row s).at_ = 0 then some (innerStep t taken m row s) else innerGo m row f (innerStep t taken m row s)
def flipGo (way : List Nat) : Nat → List Nat → Nat → Option (List Nat)
  | 0, row, at_ => if at_ = 0 then some row else none
  | f + 1, row, at_ => if at_ = 0 then some row else flipGo way f (row.set at_ (gn row (gn way at_))) (gn way at_)
structure Ou where
  u : List Pr
  v : List Pr
  row : List Nat
  way : List Nat
def outerStep (m i : Nat) (s : Ou) : Option Ou :=
  match innerGo t taken m (s.row.set 0 i) (m + 2) ⟨s.u, s.v, List.replicate (m + 1) big1, s.way, [], 0⟩ with
  | none => none
  | some x => match flipGo x.way (m + 2) (s.row.set 0 i) x.at_ with
    | none => none
    | some row => some ⟨x.u, x.v, row, x.way⟩
def outerGo (m : Nat) : Nat → Nat → Ou → Option Ou
  | 0, _, s => some s
  | f + 1, i, s => match outerStep t taken m i s with
    | none => none
    | some s2 => outerGo m f (i + 1) s2
def resOne (row : List Nat) (o : List Nat × Pr) (j : Nat) : List Nat × Pr := if 0 < gn row j then (o.1.set (gn row j - 1) (j - 1), o.2.add (tbl t (gn row j - 1) (j - 1))) else o
def resTo (row : List Nat) (n q : Nat) : List Nat × Pr := (List.range' 1 q).foldl (resOne t row) (List.replicate n 0, zeroP)
def assignP : Option (List Nat × Pr) := if t = [] then some ([], zeroP) else
  match outerGo t taken (t.getD 0 []).length t.length 1 ⟨List.replicate (t.length + 1) zeroP, List.replicate ((t.getD 0 []).length + 1) zeroP, List.replicate ((t.getD 0 []).length + 1) 0, List.replicate ((t.getD 0 []).length + 1) 0⟩ with
  | none => none
  | some s => some (resTo t s.row t.length (t.getD 0 []).length)
end
section
variable {t : List (List Pr)} {taken : List Bool}
theorem scanTo_succ {u v : List Pr} {row used : List Nat} {at_ q : Nat} {s : Sc} : scanTo t taken u v row used at_ s (q + 1) = scanOne t taken u v row used at_ (scanTo t taken u v row used at_ s q) (q + 1) := by
  unfold scanTo
  rw [List.range'_1_concat, List.foldl_append, Nat.add_comm 1 q]; rfl
theorem updTo_succ {row used : List Nat} {step : Pr} {s : Up} {q : Nat} : updTo row used step s (q + 1) = updOne row used step (updTo row used step s q) q := by
  unfold updTo
  rw [List.range_succ, List.foldl_append]; rfl
theorem resTo_succ {row : List Nat} {n q : Nat} : resTo t row n (q + 1) = resOne t row (resTo t row n q) (q + 1) := by
  unfold resTo
  rw [List.range'_1_concat, List.foldl_append, Nat.add_comm 1 q]; rfl
end
theorem gn_repl (n k : Nat) : gn (List.replicate n 0) k = 0 := by
  unfold gn
  simp only [List.getD_eq_getElem?_getD, List.getElem?_replicate]
  by_cases h : k < n
  · rw [if_pos h]; rfl
  · rw [if_neg h]; rfl
theorem get_gn {zs : List Nat} {k : Nat} (h : k < zs.length) : (zs.map natV)[k]? = some (natV (gn zs k)) := by simp [gn, h]
theorem madeP (k : Nat) : (madeCells (Value.agg #[Value.int .i64 0, Value.int .i64 0]).cells (k * 2)).toList = (List.replicate k zeroP).flatMap Pr.cells := by
  apply List.ext_getElem?
  intro j
  by_cases hj : j < k * 2
  · have h1 : ((List.replicate k zeroP).flatMap Pr.cells)[j]? = some (.int .i64 0) := by
      have hj2 : j / 2 < (List.replicate k zeroP).length := by simp; omega
      have h2 := get_flat Pr.cells 2 (fun _ => rfl) (k := j / 2) (j := j % 2) (x := zeroP) (List.getElem?_replicate_of_lt (by simpa using hj2)) (Nat.mod_lt _ (by decide)) (v := .int .i64 0) (by
        have := Nat.mod_two_eq_zero_or_one j
        rcases this with h | h <;> rw [h] <;> rfl) (zs := List.replicate k zeroP)
      rwa [Nat.div_add_mod' j 2] at h2
    rw [h1]
    have h3 : ∀ q, (#[Value.int .i64 0, Value.int .i64 0] : Array Value).getD (q % 2) default = .int .i64 0 := fun q => by
      have := Nat.mod_two_eq_zero_or_one q
      rcases this with h | h <;> rw [h] <;> rfl
    simp [madeCells, Value.cells, hj]
    have := Nat.mod_two_eq_zero_or_one j
    rcases this with h | h <;> simp [h]
  · rw [List.getElem?_eq_none (by simp [size_madeCells]; omega), List.getElem?_eq_none (by rw [flat_len Pr.cells 2 (fun _ => rfl)]; simp; omega)]
theorem innerGo_succ {t : List (List Pr)} {taken : List Bool} {m : Nat} {row : List Nat} {f : Nat} {s x : Inn} (h : innerGo t taken m row (f + 1) s = some x) : (innerStep t taken m row s).at_ ≠ 0 ∧ ((gn row (innerStep t taken m row s).at_ = 0 ∧ innerStep t taken m row s = x) ∨ (gn row (innerStep t taken m row s).at_ ≠ 0 ∧ ∃ f', f = f' + 1 ∧ innerGo t taken m row (f' + 1) (innerStep t taken m row s) = some x)) := by
  rw [innerGo] at h
  split at h
  · cases h
  · rename_i h0
    split at h
    · rename_i h1; cases h; exact ⟨h0, .inl ⟨h1, rfl⟩⟩
    · rename_i h1
      cases f with
      | zero => cases h
      | succ f => exact ⟨h0, .inr ⟨h1, f, rfl, h⟩⟩
/-- the used columns as a map -/
def uKV (used : List Nat) : List (Int × Value) := used.map fun k : Nat => ((k : Int), Value.agg #[])
theorem lkv_u (used : List Nat) (k : Nat) : (lkv (k : Int) (uKV used)).isSome = decide (k ∈ used) := by
  induction used with
  | nil => rfl
  | cons a used ih =>
    by_cases h : k = a
    · subst h; simp [uKV, lkv]
    · have h1 : ¬ (k : Int) = (a : Int) := by omega
      have e1 : lkv (k : Int) (uKV (a :: used)) = lkv (k : Int) (uKV used) := by simp [uKV, lkv, h1]
      rw [e1, ih]; simp [h]
theorem lkv_un {used : List Nat} {k : Nat} (h : ¬ k ∈ used) : lkv (k : Int) (uKV used) = none := by
  have := lkv_u used k
  rw [decide_eq_false h] at this
  simpa using this
theorem lkv_uv (used : List Nat) (k : Nat) : (lkv (k : Int) (uKV used)).getD (.agg #[]) = .agg #[] := by
  induction used with
  | nil => rfl
  | cons a used ih =>
    by_cases h : k = a
    · subst h; simp [uKV, lkv]
    · have h1 : ¬ (k : Int) = (a : Int) := by omega
      have e1 : lkv (k : Int) (uKV (a :: used)) = lkv (k : Int) (uKV used) := by simp [uKV, lkv, h1]
      rw [e1, ih]
theorem uKV_snoc (used : List Nat) (k : Nat) : uKV (used ++ [k]) = uKV used ++ [((k : Int), .agg #[])] := by simp [uKV]
theorem get_row {tb : List PRow} {k : Nat} {q : PRow} (h : tb[k]? = some q) : (tb.map PRow.cell)[k]? = some (.slice q.a q.ps.length q.c) := by simp [h, PRow.cell]
theorem tbl_row {tb : List PRow} {k : Nat} {q : PRow} (h : tb[k]? = some q) (j : Nat) : tbl (tb.map PRow.ps) k j = gp q.ps j := by
  unfold tbl
  rw [getD_some (by rw [List.getElem?_map, h]; rfl)]
end Iv
end Go.Proofs.Yteiopfefmphhaaa

set_option autoImplicit false
set_option linter.unusedVariables false
namespace Go.Proofs.Yteiopfefmphhaaa
open Go.Gv
open Go.RowKit
open Iv
set_option maxRecDepth 100000 in
set_option maxHeartbeats 8000000 in
theorem assign_ok (tb : List PRow) (a : Option Addr) (ca : Nat) (taken : List Bool) (ta : Option Addr) (tc : Nat) (m : Nat) (ol : List Nat) (sum : Pr) (w0 : World) (ht : TbIn tb a w0 []) (htk : OldSl w0 [] ta taken.length 1 (taken.map boolV)) (hm : ∀ q ∈ tb, q.ps.length = m) (htl : tb ≠ [] → m ≤ taken.length) (hn : tb.length ≤ 1000) (hm1 : m ≤ 1000) (hres : assignP (tb.map PRow.ps) taken = some (ol, sum)) : Sp Try.prog 30 [.slice a tb.length ca, .slice ta taken.length tc] w0 [] (fun v L => ∃ (r : Option Nat) (cp : Nat), v = .tuple #[.slice (rowA r) ol.length cp, sum.val] ∧ L = [.row 3 1 r ol.length cp (ol.map natV)]) := by
  refine spec_enter Try.func30 rfl Try.ntmps30 rfl (Own.refl _) ?_
  simp only [argEnv]
  refine gc_seq ?_
  refine gc_region ?_
  refine gl_op (op_rd rfl (rd_assign rfl) ?_)
  refine gl_op (op_alloc ty_62 rfl rfl (fun b5 => ?_))
  refine gl_nil ?_
  refine gx_then ?_
  refine gc_seq ?_
  refine gc_seq ?_
  refine gc_region ?_
  refine gl_op (op_rd rfl (rd_move rfl) ?_)
  refine gl_op (op_rd rfl (rd_lenSlice Try.underlying59 rfl) ?_)
  refine gl_op (op_rd rfl (rd_eql rfl rfl) (gk_dec (fun h31 => ?_) (fun h31 => ?_)))
  · skip
    refine gl_nil ?_
    refine gx_then ?_
    refine gc_cond_t rfl ?_
    refine gc_seq ?_
    refine gk_nil 3 1 ?_
    refine gc_region ?_
    refine gl_op (op_rd rfl (rd_build rfl (fun _ => bd_62_)) ?_)
    refine gl_op (op_rd rfl (rd_assign rfl) ?_)
    first | refine gl_op (op_storeAgg 1 ty_62 rfl rfl rfl rfl rfl rfl (by first | rfl | (simp only [List.set_cons_succ, List.set_cons_zero]; exact rfl)) ?_) | refine gl_op (op_storeRowAgg 0 ty_62 rfl rfl rfl rfl rfl (by simp; omega) (by first | rfl | (simp only [List.set_cons_succ, List.set_cons_zero]; exact rfl)) ?_)
    refine gl_nil ?_
    refine gx_then ?_
    refine gc_ret ?_
    refine gx_then_ret ?_
    refine gx_retV2 (.inl rfl) Try.results30 (rv_tmp rfl) (rv_agg Try.underlying62 rfl ty_62 rfl (by rfl) (cs_blk 1 (off := 0) (k := 2) rfl rfl)) [0] (by decide) ?_
    have htb : tb = [] := List.length_eq_zero_iff.1 (by omega)
    subst htb
    have hres2 : some ((([] : List Nat)), zeroP) = some (ol, sum) := hres
    cases hres2
    exact ⟨none, 0, rfl, rfl⟩
  · skip
    have hn0 : 0 < tb.length := by omega
    have hne : tb ≠ [] := fun e => by rw [e] at hn0; exact absurd hn0 (by decide)
    obtain ⟨q0, hq0⟩ := get_some hn0
    have hq0m := hm q0 (List.mem_of_getElem? hq0)
    have htl2 := htl hne
    have hT0 : (tb.map PRow.ps).getD 0 [] = q0.ps := getD_some (by rw [List.getElem?_map, hq0]; rfl)
    have hTl : (tb.map PRow.ps).length = tb.length := List.length_map _
    unfold assignP at hres
    rw [if_neg (by simpa using hne), hT0, hq0m, hTl] at hres
    clear h31 hne htl hT0 hTl
    refine gl_nil ?_
    refine gx_then ?_
    refine gc_cond_f rfl ?_
    refine gc_skip ?_
    refine gx_then ?_
    refine gc_seq ?_
    refine gc_region ?_
    refine gl_op (op_rd rfl (rd_move rfl) ?_)
    refine gl_op (op_rd rfl (rd_indexOld1 ht.o Try.underlying59 ty_65 rfl rfl (by omega) (by omega)) ?_)
    refine gl_op (op_rd rfl (rd_load Try.underlying65 rfl rfl (ld_sl ht.o (off := 0) (get_row hq0))) ?_)
    refine gl_op (op_rd rfl (rd_lenSlice Try.underlying65 rfl) ?_)
    refine gl_op (op_rd rfl (rd_assign rfl) ?_)
    refine gl_nil ?_
    refine gx_then ?_
    refine gc_seq ?_
    refine gc_cut (ι := Nat × Nat) (fun j => True) (fun j => [(0, .slice a tb.length ca), (1, .slice ta taken.length tc), (5, .pointer (some ⟨b5, 0, none⟩)), (6, natV m), (7, .slice (rowA (some j.1)) (tb.length + 1) (tb.length + 1)), (8, .slice (rowA (some j.2)) (m + 1) (m + 1))]) (fun j => [.row 62 2 (some j.2) (m + 1) (m + 1) (madeCells (Value.agg #[Value.int .i64 0, Value.int .i64 0]).cells ((m + 1) * 2)).toList, .row 62 2 (some j.1) (tb.length + 1) (tb.length + 1) (madeCells (Value.agg #[Value.int .i64 0, Value.int .i64 0]).cells ((tb.length + 1) * 2)).toList, .blk b5 (Value.agg #[Value.int .i64 0, Value.int .i64 0]).cells.toList 62]) ?_ ?_
    · skip
      rw [hq0m]
      refine gc_drawP [0] true 8 rfl ?_
      refine ga_first 0 #[true, false, false, false, false, false, false, false, false] rfl rfl rfl rfl (by kernel_rfl) rfl ⟨[0], by decide, rfl⟩ (qt_rd (rd_move rfl)) ?_
      refine ga_first 1 #[true, true, false, false, false, false, false, false, false] rfl rfl rfl rfl (by kernel_rfl) rfl ⟨[0], by decide, rfl⟩ (qt_rd (rd_lenSlice Try.underlying59 rfl)) ?_
      refine ga_first 2 #[true, true, true, false, false, false, false, false, false] rfl rfl rfl rfl (by kernel_rfl) rfl ⟨[0], by decide, rfl⟩ (qt_rd (by first | exact rd_addN (b := 1) rfl rfl (by omega) | exact rd_add rfl rfl (by omega) (by omega))) ?_
      refine ga_first 4 #[true, true, true, false, true, false, false, false, false] rfl rfl rfl rfl (by kernel_rfl) rfl ⟨[0], by decide, rfl⟩ (qt_rd (rd_move rfl)) ?_
      refine ga_first 5 #[true, true, true, false, true, true, false, false, false] rfl rfl rfl rfl (by kernel_rfl) rfl ⟨[0], by decide, rfl⟩ (qt_rd (by first | exact rd_addN (b := 1) rfl rfl (by omega) | exact rd_add rfl rfl (by omega) (by omega))) ?_
      refine ga_two 3 6 #[true, true, true, true, true, true, false, false, false] #[true, true, true, false, true, true, true, false, false] rfl rfl rfl rfl (by kernel_rfl) rfl rfl (.inr ⟨[0], by decide, rfl⟩) ?_ ?_
      · skip
        refine (op_makeSlice (tb.length + 1) Try.underlying65 ty_62 rfl rfl rfl (by omega) (by omega) (by omega) (by omega) (fun b40 => ?_))
        refine ga_first 7 #[true, true, true, true, true, true, false, true, false] rfl rfl rfl rfl (by kernel_rfl) rfl ⟨[1], by decide, rfl⟩ (qt_rd (rd_assign rfl)) ?_
        refine ga_only 6 #[true, true, true, true, true, true, true, true, false] rfl rfl (by kernel_rfl) rfl (.inr ⟨[1], by decide, rfl⟩) (op_makeSlice (m + 1) Try.underlying65 ty_62 rfl rfl rfl (by omega) (by omega) (by omega) (by omega) (fun b43 => ?_))
        refine ga_first 8 #[true, true, true, true, true, true, true, true, true] rfl rfl rfl rfl (by kernel_rfl) rfl ⟨[2], by decide, rfl⟩ (qt_rd (rd_assign rfl)) ?_
        refine ga_end (by kernel_rfl) (.inr ⟨[2], by decide, rfl⟩) ?_
        refine gx_then ?_
        exact gx_cut (b40, b43) trivial ⟨rfl, rfl, rfl, rfl, rfl, rfl, trivial⟩ ⟨[0, 1, 2], by decide, rfl⟩
      · skip
        refine (op_makeSlice (m + 1) Try.underlying65 ty_62 rfl rfl rfl (by omega) (by omega) (by omega) (by omega) (fun b43 => ?_))
        refine ga_only 3 #[true, true, true, true, true, true, true, false, false] rfl rfl (by kernel_rfl) rfl (.inr ⟨[1], by decide, rfl⟩) (op_makeSlice (tb.length + 1) Try.underlying65 ty_62 rfl rfl rfl (by omega) (by omega) (by omega) (by omega) (fun b40 => ?_))
        refine ga_first 7 #[true, true, true, true, true, true, true, true, false] rfl rfl rfl rfl (by kernel_rfl) rfl ⟨[2], by decide, rfl⟩ (qt_rd (rd_assign rfl)) ?_
        refine ga_first 8 #[true, true, true, true, true, true, true, true, true] rfl rfl rfl rfl (by kernel_rfl) rfl ⟨[2], by decide, rfl⟩ (qt_rd (rd_assign rfl)) ?_
        refine ga_end (by kernel_rfl) (.inr ⟨[2], by decide, rfl⟩) ?_
        refine gx_then ?_
        exact gx_cut (b40, b43) trivial ⟨rfl, rfl, rfl, rfl, rfl, rfl, trivial⟩ ⟨[1, 0, 2], by decide, rfl⟩
    · rintro ⟨b40, b43⟩ _
      simp only
      refine gc_seq ?_
      refine gc_cut (ι := Nat × Nat) (fun j => True) (fun j => [(0, .slice a tb.length ca), (1, .slice ta taken.length tc), (5, .pointer (some ⟨b5, 0, none⟩)), (6, natV m), (7, .slice (rowA (some b40)) (tb.length + 1) (tb.length + 1)), (8, .slice (rowA (some b43)) (m + 1) (m + 1)), (9, .slice (rowA (some j.1)) (m + 1) (m + 1)), (10, .slice (rowA (some j.2)) (m + 1) (m + 1))]) (fun j => [.row 3 1 (some j.2) (m + 1) (m + 1) (madeCells (Value.int .i64 0).cells ((m + 1) * 1)).toList, .row 3 1 (some j.1) (m + 1) (m + 1) (madeCells (Value.int .i64 0).cells ((m + 1) * 1)).toList, .row 62 2 (some b43) (m + 1) (m + 1) (madeCells (Value.agg #[Value.int .i64 0, Value.int .i64 0]).cells ((m + 1) * 2)).toList, .row 62 2 (some b40) (tb.length + 1) (tb.length + 1) (madeCells (Value.agg #[Value.int .i64 0, Value.int .i64 0]).cells ((tb.length + 1) * 2)).toList, .blk b5 (Value.agg #[Value.int .i64 0, Value.int .i64 0]).cells.toList 62]) ?_ ?_
      · skip
        refine gc_drawP [0, 1, 2] true 7 rfl ?_
        refine ga_first 0 #[true, false, false, false, false, false, false, false] rfl rfl rfl rfl (by kernel_rfl) rfl ⟨[0, 1, 2], by decide, rfl⟩ (qt_rd (rd_move rfl)) ?_
        refine ga_first 1 #[true, true, false, false, false, false, false, false] rfl rfl rfl rfl (by kernel_rfl) rfl ⟨[0, 1, 2], by decide, rfl⟩ (qt_rd (by first | exact rd_addN (b := 1) rfl rfl (by omega) | exact rd_add rfl rfl (by omega) (by omega))) ?_
        refine ga_first 3 #[true, true, false, true, false, false, false, false] rfl rfl rfl rfl (by kernel_rfl) rfl ⟨[0, 1, 2], by decide, rfl⟩ (qt_rd (rd_move rfl)) ?_
        refine ga_first 4 #[true, true, false, true, true, false, false, false] rfl rfl rfl rfl (by kernel_rfl) rfl ⟨[0, 1, 2], by decide, rfl⟩ (qt_rd (by first | exact rd_addN (b := 1) rfl rfl (by omega) | exact rd_add rfl rfl (by omega) (by omega))) ?_
        refine ga_two 2 5 #[true, true, true, true, true, false, false, false] #[true, true, false, true, true, true, false, false] rfl rfl rfl rfl (by kernel_rfl) rfl rfl (.inr ⟨[0, 1, 2], by decide, rfl⟩) ?_ ?_
        · skip
          refine (op_makeSlice (m + 1) Try.underlying39 ty_3 rfl rfl rfl (by omega) (by omega) (by omega) (by omega) (fun b46 => ?_))
          refine ga_first 6 #[true, true, true, true, true, false, true, false] rfl rfl rfl rfl (by kernel_rfl) rfl ⟨[1, 2, 3], by decide, rfl⟩ (qt_rd (rd_assign rfl)) ?_
          refine ga_only 5 #[true, true, true, true, true, true, true, false] rfl rfl (by kernel_rfl) rfl (.inr ⟨[1, 2, 3], by decide, rfl⟩) (op_makeSlice (m + 1) Try.underlying39 ty_3 rfl rfl rfl (by omega) (by omega) (by omega) (by omega) (fun b49 => ?_))
          refine ga_first 7 #[true, true, true, true, true, true, true, true] rfl rfl rfl rfl (by kernel_rfl) rfl ⟨[2, 3, 4], by decide, rfl⟩ (qt_rd (rd_assign rfl)) ?_
          refine ga_end (by kernel_rfl) (.inr ⟨[2, 3, 4], by decide, rfl⟩) ?_
          refine gx_then ?_
          exact gx_cut (b46, b49) trivial ⟨rfl, rfl, rfl, rfl, rfl, rfl, rfl, rfl, trivial⟩ ⟨[0, 1, 2, 3, 4], by decide, rfl⟩
        · skip
          refine (op_makeSlice (m + 1) Try.underlying39 ty_3 rfl rfl rfl (by omega) (by omega) (by omega) (by omega) (fun b49 => ?_))
          refine ga_only 2 #[true, true, true, true, true, true, false, false] rfl rfl (by kernel_rfl) rfl (.inr ⟨[1, 2, 3], by decide, rfl⟩) (op_makeSlice (m + 1) Try.underlying39 ty_3 rfl rfl rfl (by omega) (by omega) (by omega) (by omega) (fun b46 => ?_))
          refine ga_first 6 #[true, true, true, true, true, true, true, false] rfl rfl rfl rfl (by kernel_rfl) rfl ⟨[2, 3, 4], by decide, rfl⟩ (qt_rd (rd_assign rfl)) ?_
          refine ga_first 7 #[true, true, true, true, true, true, true, true] rfl rfl rfl rfl (by kernel_rfl) rfl ⟨[2, 3, 4], by decide, rfl⟩ (qt_rd (rd_assign rfl)) ?_
          refine ga_end (by kernel_rfl) (.inr ⟨[2, 3, 4], by decide, rfl⟩) ?_
          refine gx_then ?_
          exact gx_cut (b46, b49) trivial ⟨rfl, rfl, rfl, rfl, rfl, rfl, rfl, rfl, trivial⟩ ⟨[1, 0, 2, 3, 4], by decide, rfl⟩
      · rintro ⟨b46, b49⟩ _
        simp only
        refine gc_seq ?_
        refine gc_region ?_
        refine gl_op (op_rd rfl (rd_move rfl) ?_)
        refine gl_op (op_rd rfl (by first | exact rd_addN (b := 1) rfl rfl (by omega) | exact rd_add rfl rfl (by omega) (by omega)) ?_)
        refine gl_op (op_makeSlice (m + 1) Try.underlying65 ty_62 rfl rfl rfl (by omega) (by omega) (by omega) (by omega) (fun b52 => ?_))
        refine gl_op (op_rd rfl (rd_assign rfl) ?_)
        refine gl_nil ?_
        refine gx_then ?_
        refine gc_seq ?_
        refine gc_region ?_
        refine gl_op (op_makeMapV rfl (fun b53 => ?_))
        refine gl_op (op_rd rfl (rd_assign rfl) ?_)
        refine gl_nil ?_
        refine gx_then ?_
        refine gc_seq ?_
        refine gc_seq ?_
        rw [madeP, madeP, made_one _ rfl, show (List.replicate (m + 1) (Value.int .i64 0)) = (List.replicate (m + 1) 0).map natV by simp]
        refine gc_region ?_
        refine gl_op (op_rd rfl (rd_assign rfl) ?_)
        refine gl_nil ?_
        refine gx_then ?_
        refine gc_block ?_
        obtain ⟨so, hso⟩ : ∃ so, outerGo (tb.map PRow.ps) taken m tb.length 1 ⟨List.replicate (tb.length + 1) zeroP, List.replicate (m + 1) zeroP, List.replicate (m + 1) 0, List.replicate (m + 1) 0⟩ = some so := by
          revert hres; cases outerGo (tb.map PRow.ps) taken m tb.length 1 ⟨List.replicate (tb.length + 1) zeroP, List.replicate (m + 1) zeroP, List.replicate (m + 1) 0, List.replicate (m + 1) 0⟩ with
          | none => intro h; cases h
          | some so => intro _; exact ⟨so, rfl⟩
        rw [hso] at hres
        simp only [Option.some.injEq] at hres
        refine gc_loopF (ι := Nat × Ou × List Pr × List MapEntry × Nat) [(0, _), (1, _), (5, _), (6, _), (7, _), (8, _), (9, _), (10, _), (11, _), (12, _)] [_] (fun j => j.1 ≤ tb.length ∧ outerGo (tb.map PRow.ps) taken m (tb.length - j.1) (j.1 + 1) j.2.1 = some so ∧ j.2.1.u.length = tb.length + 1 ∧ j.2.1.v.length = m + 1 ∧ j.2.1.row.length = m + 1 ∧ j.2.1.way.length = m + 1 ∧ (∀ k, gn j.2.1.row k ≤ tb.length) ∧ (∀ k, gn j.2.1.way k ≤ m) ∧ j.2.2.1.length = m + 1) (fun j Fr0 => ((13, natV (j.1 + 1)) :: Fr0)) (fun j Fr0 => (.row 62 2 (some b40) (tb.length + 1) (tb.length + 1) (j.2.1.u.flatMap Pr.cells) :: .row 62 2 (some b43) (m + 1) (m + 1) (j.2.1.v.flatMap Pr.cells) :: .row 3 1 (some b46) (m + 1) (m + 1) (j.2.1.row.map natV) :: .row 3 1 (some b49) (m + 1) (m + 1) (j.2.1.way.map natV) :: .row 62 2 (some b52) (m + 1) (m + 1) (j.2.2.1.flatMap Pr.cells) :: .obj b53 (.map j.2.2.2.1.toArray j.2.2.2.2) :: Fr0)) (fun j => tb.length - j.1) (0, ⟨List.replicate (tb.length + 1) zeroP, List.replicate (m + 1) zeroP, List.replicate (m + 1) 0, List.replicate (m + 1) 0⟩, List.replicate (m + 1) zeroP, [], 0) (⟨Nat.zero_le _, hso, by simp, by simp, by simp, by simp, fun k => by simp only [gn_repl]; omega, fun k => by simp only [gn_repl]; omega, by simp⟩) ⟨rfl, rfl, rfl, rfl, rfl, rfl, rfl, rfl, rfl, rfl, rfl, trivial⟩ ⟨[5, 4, 3, 2, 1, 0, 6], by decide, rfl⟩ ?_
        rintro ⟨i, so0, low, es, nb⟩ ⟨hi, hgo, hul, hvl, hrl, hwl, hrn, hwm, hll⟩
        obtain ⟨ou, ov, orow, oway⟩ := so0
        simp only at hi hgo hul hvl hrl hwl hrn hwm hll ⊢
        refine gc_seq ?_
        refine gc_seq ?_
        refine gc_region ?_
        refine gl_op (op_rd rfl (rd_move rfl) ?_)
        refine gl_op (op_rd rfl (rd_move rfl) ?_)
        refine gl_op (op_rd rfl (rd_lenSlice Try.underlying59 rfl) ?_)
        refine gl_op (op_rd rfl (rd_leq rfl rfl) (gk_dec (fun hlt => ?_) (fun hlt => ?_)))
        · skip
          have hil : i < tb.length := by omega
          rw [show tb.length - i = (tb.length - i - 1) + 1 by omega, outerGo] at hgo
          obtain ⟨x, hx, rowf, hflip, hgo3⟩ : ∃ x, innerGo (tb.map PRow.ps) taken m (orow.set 0 (i + 1)) (m + 2) ⟨ou, ov, List.replicate (m + 1) big1, oway, [], 0⟩ = some x ∧ ∃ rowf, flipGo x.way (m + 2) (orow.set 0 (i + 1)) x.at_ = some rowf ∧ outerGo (tb.map PRow.ps) taken m (tb.length - i - 1) (i + 1 + 1) ⟨x.u, x.v, rowf, x.way⟩ = some so := by
            unfold outerStep at hgo
            cases hx : innerGo (tb.map PRow.ps) taken m (orow.set 0 (i + 1)) (m + 2) ⟨ou, ov, List.replicate (m + 1) big1, oway, [], 0⟩ with
            | none => simp only [hx] at hgo; cases hgo
            | some x =>
              simp only [hx] at hgo
              cases hf : flipGo x.way (m + 2) (orow.set 0 (i + 1)) x.at_ with
              | none => simp only [hf] at hgo; cases hgo
              | some rowf => simp only [hf] at hgo; exact ⟨x, rfl, rowf, hf, hgo⟩
          obtain ⟨row, hrowe⟩ : ∃ r, orow.set 0 (i + 1) = r := ⟨_, rfl⟩
          rw [hrowe] at hx hflip
          have hrl2 : row.length = m + 1 := by rw [← hrowe]; simp [hrl]
          have hrn3 : ∀ k, gn row k ≤ tb.length := fun k => by rw [← hrowe, gn_set (by omega)]; have := hrn k; split <;> omega
          have hr0 : gn row 0 = i + 1 := by rw [← hrowe, gn_set (by omega), if_pos rfl]
          refine gl_nil ?_
          refine gx_then ?_
          refine gc_cond_t rfl ?_
          refine gc_skip ?_
          refine gx_then ?_
          refine gc_seq ?_
          refine gc_block ?_
          refine gc_seq ?_
          refine gc_region ?_
          refine gl_op (op_rd rfl (rd_move rfl) ?_)
          refine gl_op (op_clearMap 5 Try.underlying79 rfl rfl (by first | rfl | (simp only [List.set_cons_succ, List.set_cons_zero]; exact rfl)) ?_)
          refine gl_nil ?_
          refine gx_then ?_
          refine gc_seq ?_
          refine gc_seq ?_
          refine gc_region ?_
          refine gl_op (op_rd rfl (rd_move rfl) ?_)
          refine gl_op (op_rd rfl (rd_lenSlice Try.underlying65 rfl) ?_)
          refine gl_op (op_rd rfl (rd_move rfl) ?_)
          refine gl_nil ?_
          refine gx_then ?_
          refine gc_block ?_
          refine gc_loopF (ι := Nat × List Pr) [(0, _), (1, _), (5, _), (6, _), (7, _), (8, _), (9, _), (10, _), (11, _), (12, _), (13, _), (62, _)] [_, _, _, _, _, _] (fun j => j.1 ≤ m + 1 ∧ j.2.length = m + 1 ∧ ∀ k, k < j.1 → gp j.2 k = big1) (fun j Fr0 => ((63, natV j.1) :: Fr0)) (fun j Fr0 => (.row 62 2 (some b52) (m + 1) (m + 1) (j.2.flatMap Pr.cells) :: Fr0)) (fun j => m + 1 - j.1) (0, low) (⟨Nat.zero_le _, hll, fun k h => absurd h (Nat.not_lt_zero k)⟩) ⟨rfl, rfl, rfl, rfl, rfl, rfl, rfl, rfl, rfl, rfl, rfl, rfl, rfl, trivial⟩ ⟨[4, 0, 1, 2, 3, 5, 6], by decide, rfl⟩ ?_
          rintro ⟨k, low⟩ ⟨hk, hll2, hlo⟩
          simp only at hk hll2 hlo ⊢
          refine gc_seq ?_
          refine gc_region ?_
          refine gl_op (op_rd rfl (rd_lss rfl rfl) (gk_dec (fun hlt1 => ?_) (fun hlt1 => ?_)))
          · skip
            refine gl_nil ?_
            refine gx_then ?_
            refine gc_seq ?_
            refine gc_cond_t rfl ?_
            refine gc_skip ?_
            refine gx_then ?_
            refine gc_seq ?_
            refine gc_block ?_
            refine gc_seq ?_
            refine gc_region ?_
            refine gl_op (op_rd rfl (rd_move rfl) ?_)
            refine gl_op (op_rd rfl (rd_assign rfl) ?_)
            refine gl_nil ?_
            refine gx_then ?_
            refine gc_region ?_
            refine gl_op (op_rd rfl (rd_move rfl) ?_)
            refine gl_op (op_rd rfl (rd_move rfl) ?_)
            refine gl_op (op_rd rfl (rd_build rfl (fun _ => bd_62_0_1 _ _)) ?_)
            refine gl_op (op_rd rfl (rd_indexRow 0 rfl Try.underlying65 ty_62 rfl rfl (by omega) (by omega)) ?_)
            refine gl_op (op_storeRowP 0 ty_62 rfl rfl rfl rfl rfl (by rw [flat_len Pr.cells 2 (fun _ => rfl)]; omega) (putAt_flat Pr.cells 2 (fun _ => rfl) low k big1 (by omega)) (by first | rfl | (simp only [List.set_cons_succ, List.set_cons_zero]; exact rfl)) ?_)
            refine gl_nil ?_
            refine gx_block ?_
            refine gx_then ?_
            refine gc_region ?_
            refine gl_op (op_rd rfl (by first | exact rd_addN (b := 1) rfl rfl (by omega) | exact rd_add rfl rfl (by omega) (by omega)) ?_)
            refine gl_op (op_rd rfl (rd_move rfl) ?_)
            refine gl_nil ?_
            refine gx_then ?_
            exact gx_cut ((k + 1, low.set k big1)) ⟨⟨by simp only; omega, by simp [hll2], fun q hq => by simp only at hq ⊢; rw [gp_set (by omega)]; split; rfl; exact hlo q (by omega)⟩, by simp only; omega⟩ ⟨rfl, rfl, rfl, rfl, rfl, rfl, rfl, rfl, rfl, rfl, rfl, rfl, rfl, trivial⟩ ⟨[0, 1, 2, 3, 4, 5, 6], by decide, rfl⟩
          · skip
            refine gl_nil ?_
            refine gx_then ?_
            refine gc_seq ?_
            refine gc_cond_f rfl ?_
            refine gc_exit ?_
            refine gx_then_exit ?_
            refine gx_then_exit ?_
            refine gx_block_exit ?_
            refine gx_then ?_
            refine gc_seq ?_
            have hlow : low = List.replicate (m + 1) big1 := by
              apply List.ext_getElem (by simp [hll2])
              intro q h1 h2
              have := hlo q (by omega)
              simp only [gp, List.getD, List.getElem?_eq_getElem h1, Option.getD_some] at this
              simp [this]
            rw [hlow]
            clear hlow hlo hll2 hk hlt1
            refine gc_region ?_
            refine gl_op (op_rd rfl (rd_move rfl) ?_)
            refine gl_op (op_rd rfl (rd_move rfl) ?_)
            refine gl_op (op_rd rfl (rd_indexRow1 3 rfl Try.underlying39 ty_3 rfl rfl (by omega) (by omega)) ?_)
            refine gl_op (op_storeRowE 3 ty_3 rfl rfl rfl rfl (by simp; omega) ((setN orow 0 (i + 1)).trans (by rw [hrowe])) (by first | rfl | (simp only [List.set_cons_succ, List.set_cons_zero]; exact rfl)) ?_)
            refine gl_nil ?_
            refine gx_then ?_
            refine gc_seq ?_
            refine gc_region ?_
            refine gl_op (op_rd rfl (rd_assign rfl) ?_)
            refine gl_nil ?_
            refine gx_then ?_
            refine gc_seq ?_
            refine gc_seq ?_
            refine gc_region ?_
            refine gl_op (op_rd rfl (rd_assign rfl) ?_)
            refine gl_nil ?_
            refine gx_then ?_
            refine gc_block ?_
            refine gc_loopF (ι := Nat × Inn × List MapEntry × Nat × Bool) [(0, _), (1, _), (5, _), (6, _), (7, _), (8, _), (9, _), (10, _), (11, _), (12, _), (13, _)] [_, _] (fun j => Bx (j.2.2.2.2 = true → innerGo (tb.map PRow.ps) taken m row (j.1 + 1) j.2.1 = some x ∧ 1 ≤ gn row j.2.1.at_) ∧ Bx (j.2.2.2.2 = false → j.2.1 = x) ∧ j.2.1.u.length = tb.length + 1 ∧ j.2.1.v.length = m + 1 ∧ j.2.1.way.length = m + 1 ∧ j.2.1.low.length = m + 1 ∧ (∀ k, gn j.2.1.way k ≤ m) ∧ j.2.1.at_ ≤ m ∧ KV j.2.2.1 (uKV j.2.1.used) ∧ Bx (j.2.2.2.2 = true → ¬ j.2.1.at_ ∈ j.2.1.used)) (fun j Fr0 => ((15, natV j.2.1.at_) :: (16, .bool j.2.2.2.2) :: Fr0)) (fun j Fr0 => (.row 62 2 (some b40) (tb.length + 1) (tb.length + 1) (j.2.1.u.flatMap Pr.cells) :: .row 62 2 (some b43) (m + 1) (m + 1) (j.2.1.v.flatMap Pr.cells) :: .row 3 1 (some b49) (m + 1) (m + 1) (j.2.1.way.map natV) :: .row 62 2 (some b52) (m + 1) (m + 1) (j.2.1.low.flatMap Pr.cells) :: .obj b53 (.map j.2.2.1.toArray j.2.2.2.1) :: Fr0)) (fun j => (if j.2.2.2.2 then j.1 + 1 else 0)) (m + 1, ⟨ou, ov, List.replicate (m + 1) big1, oway, [], 0⟩, [], nb, true) (⟨⟨fun _ => ⟨hx, by simp only; omega⟩⟩, ⟨fun h => (by cases h)⟩, hul, hvl, hwl, by simp, hwm, Nat.zero_le _, KV.nil, ⟨fun _ => by simp⟩⟩) ⟨rfl, rfl, rfl, rfl, rfl, rfl, rfl, rfl, rfl, rfl, rfl, rfl, rfl, trivial⟩ ⟨[1, 2, 4, 0, 5, 3, 6], by decide, rfl⟩ ?_
            rintro ⟨f, s, es3, nb3, ok⟩ ⟨hok, hfin, hul2, hvl2, hwl2, hll3, hwm2, hat, hkv, hnu⟩
            simp only at hok hfin hul2 hvl2 hwl2 hll3 hwm2 hat hkv hnu ⊢
            clear hul hvl hwl hwm hll hr0 hi hlt hq0m
            refine gc_seq ?_
            refine gc_seq ?_
            refine gc_region ?_
            refine gl_op (op_rd rfl (rd_move rfl) ?_)
            refine gk_bool (fun hk74 => ?_) (fun hk74 => ?_)
            · skip
              obtain ⟨hgo2, hrow1⟩ := hok.out hk74
              obtain ⟨hat0, hfin2⟩ := innerGo_succ hgo2
              replace hat0 := Nat.pos_iff_ne_zero.2 hat0
              replace hfin2 := Bx.mk hfin2
              have hnu2 := hnu.out hk74
              obtain ⟨sc, hsc⟩ : ∃ sc, scanTo (tb.map PRow.ps) taken s.u s.v row (s.used ++ [s.at_]) s.at_ ⟨s.low, s.way, big2, 0⟩ m = sc := ⟨_, rfl⟩
              obtain ⟨up, hup⟩ : ∃ up, updTo row (s.used ++ [s.at_]) sc.step ⟨s.u, s.v, sc.low⟩ (m + 1) = up := ⟨_, rfl⟩
              have hst : innerStep (tb.map PRow.ps) taken m row s = ⟨up.u, up.v, up.low, sc.way, (s.used ++ [s.at_]), sc.next⟩ := by unfold innerStep; simp only [hsc, hup]
              rw [hst] at hat0 hfin2
              simp only at hat0 hfin2
              have hrs := hrn3 s.at_
              refine gl_nil ?_
              refine gx_then ?_
              refine gc_cond_t rfl ?_
              refine gc_skip ?_
              refine gx_then ?_
              refine gc_seq ?_
              refine gc_block ?_
              refine gc_seq ?_
              refine gc_region ?_
              refine gl_op (op_rd rfl (rd_move rfl) ?_)
              refine gl_op (op_rd rfl (rd_move rfl) ?_)
              refine gl_op (op_rd rfl (rd_build rfl (fun _ => bd_80_)) ?_)
              refine gl_op (op_mapInsertV 4 hkv Try.underlying79 Try.underlying3 rfl rfl rfl rfl (lkv_un hnu2) (by first | rfl | (simp only [List.set_cons_succ, List.set_cons_zero]; exact rfl)) ?_)
              refine gl_nil ?_
              refine gx_then ?_
              refine gc_seq ?_
              have hkv2 : KV (es3 ++ [⟨natV s.at_, .agg #[], nb3⟩]) (uKV (s.used ++ [s.at_])) := by rw [uKV_snoc]; exact hkv.snoc _ _ _
              refine gc_region ?_
              refine gl_op (op_rd rfl (rd_build rfl (fun _ => bd_62_0_1 _ _)) ?_)
              refine gl_op (op_alloc ty_62 rfl rfl (fun b17 => ?_))
              first | refine gl_op (op_storeAgg 0 ty_62 rfl rfl rfl rfl rfl rfl (by first | rfl | (simp only [List.set_cons_succ, List.set_cons_zero]; exact rfl)) ?_) | refine gl_op (op_storeAgg 7 ty_62 rfl rfl rfl rfl rfl rfl (by first | rfl | (simp only [List.set_cons_succ, List.set_cons_zero]; exact rfl)) ?_) | refine gl_op (op_storeRowAgg 1 ty_62 rfl rfl rfl rfl rfl (by simp; omega) (by first | rfl | (simp only [List.set_cons_succ, List.set_cons_zero]; exact rfl)) ?_) | refine gl_op (op_storeRowAgg 2 ty_62 rfl rfl rfl rfl rfl (by simp; omega) (by first | rfl | (simp only [List.set_cons_succ, List.set_cons_zero]; exact rfl)) ?_) | refine gl_op (op_storeRowAgg 3 ty_62 rfl rfl rfl rfl rfl (by simp; omega) (by first | rfl | (simp only [List.set_cons_succ, List.set_cons_zero]; exact rfl)) ?_) | refine gl_op (op_storeRowAgg 4 ty_62 rfl rfl rfl rfl rfl (by simp; omega) (by first | rfl | (simp only [List.set_cons_succ, List.set_cons_zero]; exact rfl)) ?_) | refine gl_op (op_storeRowAgg 6 ty_62 rfl rfl rfl rfl rfl (by simp; omega) (by first | rfl | (simp only [List.set_cons_succ, List.set_cons_zero]; exact rfl)) ?_)
              refine gl_op (op_rd rfl (rd_assign rfl) ?_)
              refine gl_nil ?_
              refine gx_then ?_
              refine gc_seq ?_
              refine gc_seq ?_
              refine gc_region ?_
              refine gl_op (op_rd rfl (rd_assign rfl) ?_)
              refine gl_nil ?_
              refine gx_then ?_
              refine gc_block ?_
              refine gc_loopF (ι := Nat × Sc) [(0, _), (1, _), (5, _), (6, _), (7, _), (8, _), (9, _), (10, _), (11, _), (12, _), (13, _), (15, _), (17, _)] [_, _, _, _, _] (fun j => j.1 ≤ m ∧ j.2 = scanTo (tb.map PRow.ps) taken s.u s.v row (s.used ++ [s.at_]) s.at_ ⟨s.low, s.way, big2, 0⟩ j.1 ∧ j.2.low.length = m + 1 ∧ j.2.way.length = m + 1 ∧ (∀ k, gn j.2.way k ≤ m) ∧ j.2.next ≤ m ∧ Bx (j.2.next ≠ 0 → ¬ j.2.next ∈ (s.used ++ [s.at_]))) (fun j Fr0 => ((18, natV j.2.next) :: (19, natV (j.1 + 1)) :: Fr0)) (fun j Fr0 => (.row 3 1 (some b49) (m + 1) (m + 1) (j.2.way.map natV) :: .row 62 2 (some b52) (m + 1) (m + 1) (j.2.low.flatMap Pr.cells) :: .blk b17 j.2.step.cells 62 :: Fr0)) (fun j => m - j.1) (0, ⟨s.low, s.way, big2, 0⟩) (⟨Nat.zero_le _, rfl, hll3, hwl2, hwm2, Nat.zero_le _, ⟨fun h => absurd rfl h⟩⟩) ⟨rfl, rfl, rfl, rfl, rfl, rfl, rfl, rfl, rfl, rfl, rfl, rfl, rfl, rfl, rfl, trivial⟩ ⟨[3, 4, 0, 1, 2, 5, 6, 7], by decide, rfl⟩ ?_
              rintro ⟨q, z⟩ ⟨hq, hz, hzl, hzw, hzwm, hzn, hznu⟩
              simp only at hq hz hzl hzw hzwm hzn hznu ⊢
              clear hwl2 hll3 hwm2 hq0 hrl hrn
              refine gc_seq ?_
              refine gc_seq ?_
              refine gc_region ?_
              refine gl_op (op_rd rfl (rd_move rfl) ?_)
              refine gl_op (op_rd rfl (rd_move rfl) ?_)
              refine gl_op (op_rd rfl (rd_leq rfl rfl) (gk_dec (fun hlt3 => ?_) (fun hlt3 => ?_)))
              · skip
                refine gl_nil ?_
                refine gx_then ?_
                refine gc_cond_t rfl ?_
                refine gc_skip ?_
                refine gx_then ?_
                refine gc_seq ?_
                refine gc_block ?_
                refine gc_seq ?_
                refine gc_seq ?_
                refine gc_region ?_
                refine gl_op (op_rd rfl (rd_move rfl) ?_)
                refine gl_op (op_rd rfl (rd_move rfl) ?_)
                refine gl_op (op_rd rfl (rd_lookupVOk 5 hkv2 rfl Try.underlying79 Try.underlying3 ty_80 rfl rfl) ?_)
                rw [lkv_uv, lkv_u]
                refine gl_op (op_rd rfl (rd_move rfl) ?_)
                refine gl_op (op_rd rfl (rd_extract rfl rfl) ?_)
                refine gl_op (op_rd rfl (rd_extract rfl rfl) ?_)
                refine gl_op (op_alloc ty_80 rfl rfl (fun b20 => ?_))
                first | refine gl_op (op_storeAgg 0 ty_80 rfl rfl rfl rfl rfl rfl (by first | rfl | (simp only [List.set_cons_succ, List.set_cons_zero]; exact rfl)) ?_) | refine gl_op (op_storeAgg 3 ty_80 rfl rfl rfl rfl rfl rfl (by first | rfl | (simp only [List.set_cons_succ, List.set_cons_zero]; exact rfl)) ?_) | refine gl_op (op_storeAgg 8 ty_80 rfl rfl rfl rfl rfl rfl (by first | rfl | (simp only [List.set_cons_succ, List.set_cons_zero]; exact rfl)) ?_) | refine gl_op (op_storeRowAgg 1 ty_80 rfl rfl rfl rfl rfl (by simp; omega) (by first | rfl | (simp only [List.set_cons_succ, List.set_cons_zero]; exact rfl)) ?_) | refine gl_op (op_storeRowAgg 2 ty_80 rfl rfl rfl rfl rfl (by simp; omega) (by first | rfl | (simp only [List.set_cons_succ, List.set_cons_zero]; exact rfl)) ?_) | refine gl_op (op_storeRowAgg 4 ty_80 rfl rfl rfl rfl rfl (by simp; omega) (by first | rfl | (simp only [List.set_cons_succ, List.set_cons_zero]; exact rfl)) ?_) | refine gl_op (op_storeRowAgg 5 ty_80 rfl rfl rfl rfl rfl (by simp; omega) (by first | rfl | (simp only [List.set_cons_succ, List.set_cons_zero]; exact rfl)) ?_) | refine gl_op (op_storeRowAgg 7 ty_80 rfl rfl rfl rfl rfl (by simp; omega) (by first | rfl | (simp only [List.set_cons_succ, List.set_cons_zero]; exact rfl)) ?_)
                refine gl_op (op_rd rfl (rd_assign rfl) ?_)
                refine gl_nil ?_
                refine gx_then ?_
                refine gc_seq ?_
                refine gc_region ?_
                refine gl_op (op_rd rfl (rd_move rfl) ?_)
                refine gk_bool (fun hin => ?_) (fun hin => ?_)
                · skip
                  have hzskip : z = scanTo (tb.map PRow.ps) taken s.u s.v row (s.used ++ [s.at_]) s.at_ ⟨s.low, s.way, big2, 0⟩ (q + 1) := by rw [scanTo_succ, ← hz]; unfold scanOne; rw [if_pos]; unfold skipJ; simp only [Bool.or_eq_true]; exact .inl hin
                  refine gl_op (op_rd rfl (rd_move rfl) ?_)
                  refine gl_no rfl rfl rfl ?_
                  refine gl_no rfl rfl rfl ?_
                  refine gl_no rfl rfl rfl ?_
                  refine gl_no rfl rfl rfl ?_
                  refine gl_no rfl rfl rfl ?_
                  refine gl_op (op_rd rfl (rd_pick_t rfl rfl) ?_)
                  refine gl_nil ?_
                  refine gx_then ?_
                  refine gc_cond_t rfl ?_
                  refine gc_exit ?_
                  refine gx_then_exit ?_
                  refine gx_block_exit ?_
                  refine gx_then ?_
                  refine gc_region ?_
                  refine gl_op (op_rd rfl (rd_move rfl) ?_)
                  refine gl_op (op_rd rfl (by first | exact rd_addN (b := 1) rfl rfl (by omega) | exact rd_add rfl rfl (by omega) (by omega)) ?_)
                  refine gl_op (op_rd rfl (rd_assign rfl) ?_)
                  refine gl_nil ?_
                  refine gx_then ?_
                  exact gx_cut ((q + 1, z)) ⟨⟨by simp only; omega, hzskip, hzl, hzw, hzwm, hzn, hznu⟩, by simp only; omega⟩ ⟨rfl, rfl, rfl, rfl, rfl, rfl, rfl, rfl, rfl, rfl, rfl, rfl, rfl, rfl, rfl, trivial⟩ ⟨[1, 2, 3, 4, 5, 6, 7, 8], by decide, rfl⟩
                · skip
                  have hnin : ¬ (q + 1) ∈ (s.used ++ [s.at_]) := of_decide_eq_false hin
                  refine gl_op (op_rd rfl (rd_move rfl) ?_)
                  refine gl_yes rfl rfl (op_rd rfl (rd_move rfl) ?_)
                  refine gl_yes rfl rfl (op_rd rfl (rd_move rfl) ?_)
                  refine gl_yes rfl rfl (op_rd rfl (by first | exact rd_subN (b := 1) rfl rfl (by omega) (by omega) | exact rd_sub rfl rfl (by omega) (by omega)) ?_)
                  refine gl_yes rfl rfl (op_rd rfl (rd_indexOld1 htk Try.underlying48 ty_4 rfl rfl (by omega) (by omega)) ?_)
                  refine gl_yes rfl rfl (op_rd rfl (rd_load Try.underlying4 rfl rfl (ld_slN htk (get_bools (by omega)))) ?_)
                  refine gk_bool (fun htkq => ?_) (fun htkq => ?_)
                  · skip
                    have hzskip : z = scanTo (tb.map PRow.ps) taken s.u s.v row (s.used ++ [s.at_]) s.at_ ⟨s.low, s.way, big2, 0⟩ (q + 1) := by rw [scanTo_succ, ← hz]; unfold scanOne; rw [if_pos]; unfold skipJ; simp only [Bool.or_eq_true]; exact .inr htkq
                    refine gl_op (op_rd rfl (rd_pick_f rfl rfl) ?_)
                    refine gl_nil ?_
                    refine gx_then ?_
                    refine gc_cond_t rfl ?_
                    refine gc_exit ?_
                    refine gx_then_exit ?_
                    refine gx_block_exit ?_
                    refine gx_then ?_
                    refine gc_region ?_
                    refine gl_op (op_rd rfl (rd_move rfl) ?_)
                    refine gl_op (op_rd rfl (by first | exact rd_addN (b := 1) rfl rfl (by omega) | exact rd_add rfl rfl (by omega) (by omega)) ?_)
                    refine gl_op (op_rd rfl (rd_assign rfl) ?_)
                    refine gl_nil ?_
                    refine gx_then ?_
                    exact gx_cut ((q + 1, z)) ⟨⟨by simp only; omega, hzskip, hzl, hzw, hzwm, hzn, hznu⟩, by simp only; omega⟩ ⟨rfl, rfl, rfl, rfl, rfl, rfl, rfl, rfl, rfl, rfl, rfl, rfl, rfl, rfl, rfl, trivial⟩ ⟨[1, 2, 3, 4, 5, 6, 7, 8], by decide, rfl⟩
                  · skip
                    have hns : skipJ taken (s.used ++ [s.at_]) (q + 1) = false := by unfold skipJ; rw [Bool.or_eq_false_iff]; exact ⟨hin, htkq⟩
                    obtain ⟨q1, hq1⟩ := get_some (show gn row s.at_ - 1 < tb.length by omega)
                    have hq1m := hm q1 (List.mem_of_getElem? hq1)
                    have hro1 := ht.r q1 (List.mem_of_getElem? hq1)
                    obtain ⟨x1, hx1e⟩ : ∃ x1, (((gp q1.ps (q + 1 - 1)).sub (gp s.u (gn row s.at_))).sub (gp s.v (q + 1))) = x1 := ⟨_, rfl⟩
                    have hx1 : redP (tb.map PRow.ps) s.u s.v row s.at_ (q + 1) = x1 := by unfold redP; rw [tbl_row hq1]; exact hx1e
                    refine gl_op (op_rd rfl (rd_pick_f rfl rfl) ?_)
                    refine gl_nil ?_
                    refine gx_then ?_
                    refine gc_cond_f rfl ?_
                    refine gc_skip ?_
                    refine gx_then ?_
                    refine gc_seq ?_
                    refine gc_seq ?_
                    refine gc_drawP [0, 1, 2, 3, 4, 5, 6, 7, 8] false 26 rfl ?_
                    refine ga_first 0 #[true, false, false, false, false, false, false, false, false, false, false, false, false, false, false, false, false, false, false, false, false, false, false, false, false, false, false] rfl rfl rfl rfl (by kernel_rfl) rfl ⟨[0, 1, 2, 3, 4, 5, 6, 7, 8], by decide, rfl⟩ (qt_rd (rd_move rfl)) ?_
                    refine ga_first 1 #[true, true, false, false, false, false, false, false, false, false, false, false, false, false, false, false, false, false, false, false, false, false, false, false, false, false, false] rfl rfl rfl rfl (by kernel_rfl) rfl ⟨[0, 1, 2, 3, 4, 5, 6, 7, 8], by decide, rfl⟩ (qt_rd (rd_move rfl)) ?_
                    refine ga_first 2 #[true, true, true, false, false, false, false, false, false, false, false, false, false, false, false, false, false, false, false, false, false, false, false, false, false, false, false] rfl rfl rfl rfl (by kernel_rfl) rfl ⟨[0, 1, 2, 3, 4, 5, 6, 7, 8], by decide, rfl⟩ (qt_rd (rd_move rfl)) ?_
                    refine ga_first 3 #[true, true, true, true, false, false, false, false, false, false, false, false, false, false, false, false, false, false, false, false, false, false, false, false, false, false, false] rfl rfl rfl rfl (by kernel_rfl) rfl ⟨[0, 1, 2, 3, 4, 5, 6, 7, 8], by decide, rfl⟩ (qt_rd (rd_indexRow1 7 rfl Try.underlying39 ty_3 rfl rfl (by omega) (by omega))) ?_
                    refine ga_first 4 #[true, true, true, true, true, false, false, false, false, false, false, false, false, false, false, false, false, false, false, false, false, false, false, false, false, false, false] rfl rfl rfl rfl (by kernel_rfl) rfl ⟨[0, 1, 2, 3, 4, 5, 6, 7, 8], by decide, rfl⟩ (qt_rd (rd_load Try.underlying3 rfl rfl (ld_rowN 7 rfl (get_gn (by omega))))) ?_
                    refine ga_first 5 #[true, true, true, true, true, true, false, false, false, false, false, false, false, false, false, false, false, false, false, false, false, false, false, false, false, false, false] rfl rfl rfl rfl (by kernel_rfl) rfl ⟨[0, 1, 2, 3, 4, 5, 6, 7, 8], by decide, rfl⟩ (qt_rd (by first | exact rd_subN (b := 1) rfl rfl (by omega) (by omega) | exact rd_sub rfl rfl (by omega) (by omega))) ?_
                    refine ga_first 6 #[true, true, true, true, true, true, true, false, false, false, false, false, false, false, false, false, false, false, false, false, false, false, false, false, false, false, false] rfl rfl rfl rfl (by kernel_rfl) rfl ⟨[0, 1, 2, 3, 4, 5, 6, 7, 8], by decide, rfl⟩ (qt_rd (rd_indexOld1 ht.o Try.underlying59 ty_65 rfl rfl (by omega) (by omega))) ?_
                    refine ga_first 7 #[true, true, true, true, true, true, true, true, false, false, false, false, false, false, false, false, false, false, false, false, false, false, false, false, false, false, false] rfl rfl rfl rfl (by kernel_rfl) rfl ⟨[0, 1, 2, 3, 4, 5, 6, 7, 8], by decide, rfl⟩ (qt_rd (rd_load Try.underlying65 rfl rfl (ld_slN ht.o (get_row hq1)))) ?_
                    refine ga_first 8 #[true, true, true, true, true, true, true, true, true, false, false, false, false, false, false, false, false, false, false, false, false, false, false, false, false, false, false] rfl rfl rfl rfl (by kernel_rfl) rfl ⟨[0, 1, 2, 3, 4, 5, 6, 7, 8], by decide, rfl⟩ (qt_rd (rd_move rfl)) ?_
                    refine ga_first 9 #[true, true, true, true, true, true, true, true, true, true, false, false, false, false, false, false, false, false, false, false, false, false, false, false, false, false, false] rfl rfl rfl rfl (by kernel_rfl) rfl ⟨[0, 1, 2, 3, 4, 5, 6, 7, 8], by decide, rfl⟩ (qt_rd (by first | exact rd_subN (b := 1) rfl rfl (by omega) (by omega) | exact rd_sub rfl rfl (by omega) (by omega))) ?_
                    refine ga_first 10 #[true, true, true, true, true, true, true, true, true, true, true, false, false, false, false, false, false, false, false, false, false, false, false, false, false, false, false] rfl rfl rfl rfl (by kernel_rfl) rfl ⟨[0, 1, 2, 3, 4, 5, 6, 7, 8], by decide, rfl⟩ (qt_rd (rd_indexOld hro1 Try.underlying65 ty_62 rfl rfl (by omega) (by omega))) ?_
                    refine ga_first 11 #[true, true, true, true, true, true, true, true, true, true, true, true, false, false, false, false, false, false, false, false, false, false, false, false, false, false, false] rfl rfl rfl rfl (by kernel_rfl) rfl ⟨[0, 1, 2, 3, 4, 5, 6, 7, 8], by decide, rfl⟩ (qt_rd (rd_loadAgg Try.underlying62 rfl ty_62 rfl (cs_slN hro1 (flat_drop_get Pr.cells 2 (fun _ => rfl) (gp_get (show q + 1 - 1 < q1.ps.length by omega)))) rfl)) ?_
                    refine ga_first 12 #[true, true, true, true, true, true, true, true, true, true, true, true, true, false, false, false, false, false, false, false, false, false, false, false, false, false, false] rfl rfl rfl rfl (by kernel_rfl) rfl ⟨[0, 1, 2, 3, 4, 5, 6, 7, 8], by decide, rfl⟩ (qt_rd (rd_move rfl)) ?_
                    refine ga_first 13 #[true, true, true, true, true, true, true, true, true, true, true, true, true, true, false, false, false, false, false, false, false, false, false, false, false, false, false] rfl rfl rfl rfl (by kernel_rfl) rfl ⟨[0, 1, 2, 3, 4, 5, 6, 7, 8], by decide, rfl⟩ (qt_rd (rd_move rfl)) ?_
                    refine ga_first 14 #[true, true, true, true, true, true, true, true, true, true, true, true, true, true, true, false, false, false, false, false, false, false, false, false, false, false, false] rfl rfl rfl rfl (by kernel_rfl) rfl ⟨[0, 1, 2, 3, 4, 5, 6, 7, 8], by decide, rfl⟩ (qt_rd (rd_move rfl)) ?_
                    refine ga_first 15 #[true, true, true, true, true, true, true, true, true, true, true, true, true, true, true, true, false, false, false, false, false, false, false, false, false, false, false] rfl rfl rfl rfl (by kernel_rfl) rfl ⟨[0, 1, 2, 3, 4, 5, 6, 7, 8], by decide, rfl⟩ (qt_rd (rd_indexRow1 7 rfl Try.underlying39 ty_3 rfl rfl (by omega) (by omega))) ?_
                    refine ga_first 16 #[true, true, true, true, true, true, true, true, true, true, true, true, true, true, true, true, true, false, false, false, false, false, false, false, false, false, false] rfl rfl rfl rfl (by kernel_rfl) rfl ⟨[0, 1, 2, 3, 4, 5, 6, 7, 8], by decide, rfl⟩ (qt_rd (rd_load Try.underlying3 rfl rfl (ld_rowN 7 rfl (get_gn (by omega))))) ?_
                    refine ga_first 17 #[true, true, true, true, true, true, true, true, true, true, true, true, true, true, true, true, true, true, false, false, false, false, false, false, false, false, false] rfl rfl rfl rfl (by kernel_rfl) rfl ⟨[0, 1, 2, 3, 4, 5, 6, 7, 8], by decide, rfl⟩ (qt_rd (rd_indexRow 4 rfl Try.underlying65 ty_62 rfl rfl (by omega) (by omega))) ?_
                    refine ga_first 18 #[true, true, true, true, true, true, true, true, true, true, true, true, true, true, true, true, true, true, true, false, false, false, false, false, false, false, false] rfl rfl rfl rfl (by kernel_rfl) rfl ⟨[0, 1, 2, 3, 4, 5, 6, 7, 8], by decide, rfl⟩ (qt_rd (rd_loadAgg Try.underlying62 rfl ty_62 rfl (cs_rowN 4 rfl (flat_drop_get Pr.cells 2 (fun _ => rfl) (gp_get (show gn row s.at_ < s.u.length by omega)))) rfl)) ?_
                    refine ga_first 19 #[true, true, true, true, true, true, true, true, true, true, true, true, true, true, true, true, true, true, true, true, false, false, false, false, false, false, false] rfl rfl rfl rfl (by kernel_rfl) rfl ⟨[0, 1, 2, 3, 4, 5, 6, 7, 8], by decide, rfl⟩ (qt_call (vf := []) (vc := []) rfl rfl Try.call43 (fun w1 ho => minus_ok (gp q1.ps (q + 1 - 1)) (gp s.u (gn row s.at_)) w1) (by rintro _ _ ⟨h, _⟩; exact h)) ?_
                    refine ga_first 20 #[true, true, true, true, true, true, true, true, true, true, true, true, true, true, true, true, true, true, true, true, true, false, false, false, false, false, false] rfl rfl rfl rfl (by kernel_rfl) rfl ⟨[0, 1, 2, 3, 4, 5, 6, 7, 8], by decide, rfl⟩ (qt_rd (rd_move rfl)) ?_
                    refine ga_first 21 #[true, true, true, true, true, true, true, true, true, true, true, true, true, true, true, true, true, true, true, true, true, true, false, false, false, false, false] rfl rfl rfl rfl (by kernel_rfl) rfl ⟨[0, 1, 2, 3, 4, 5, 6, 7, 8], by decide, rfl⟩ (qt_rd (rd_move rfl)) ?_
                    refine ga_first 22 #[true, true, true, true, true, true, true, true, true, true, true, true, true, true, true, true, true, true, true, true, true, true, true, false, false, false, false] rfl rfl rfl rfl (by kernel_rfl) rfl ⟨[0, 1, 2, 3, 4, 5, 6, 7, 8], by decide, rfl⟩ (qt_rd (rd_indexRow 5 rfl Try.underlying65 ty_62 rfl rfl (by omega) (by omega))) ?_
                    refine ga_first 23 #[true, true, true, true, true, true, true, true, true, true, true, true, true, true, true, true, true, true, true, true, true, true, true, true, false, false, false] rfl rfl rfl rfl (by kernel_rfl) rfl ⟨[0, 1, 2, 3, 4, 5, 6, 7, 8], by decide, rfl⟩ (qt_rd (rd_loadAgg Try.underlying62 rfl ty_62 rfl (cs_rowN 5 rfl (flat_drop_get Pr.cells 2 (fun _ => rfl) (gp_get (show q + 1 < s.v.length by omega)))) rfl)) ?_
                    refine ga_first 24 #[true, true, true, true, true, true, true, true, true, true, true, true, true, true, true, true, true, true, true, true, true, true, true, true, true, false, false] rfl rfl rfl rfl (by kernel_rfl) rfl ⟨[0, 1, 2, 3, 4, 5, 6, 7, 8], by decide, rfl⟩ (qt_call (vf := []) (vc := []) rfl rfl Try.call43 (fun w1 ho => minus_ok ((gp q1.ps (q + 1 - 1)).sub (gp s.u (gn row s.at_))) (gp s.v (q + 1)) w1) (by rintro _ _ ⟨h, _⟩; exact h)) ?_
                    rw [hx1e]
                    refine ga_only 25 #[true, true, true, true, true, true, true, true, true, true, true, true, true, true, true, true, true, true, true, true, true, true, true, true, true, true, false] rfl rfl (by kernel_rfl) rfl (.inr ⟨[0, 1, 2, 3, 4, 5, 6, 7, 8], by decide, rfl⟩) (op_alloc ty_62 rfl rfl (fun b22 => ?_))
                    first | refine ga_only 26 #[true, true, true, true, true, true, true, true, true, true, true, true, true, true, true, true, true, true, true, true, true, true, true, true, true, true, true] rfl rfl (by kernel_rfl) rfl (.inr ⟨[1, 2, 3, 4, 5, 6, 7, 8, 9], by decide, rfl⟩) (op_storeAgg 0 ty_62 rfl rfl rfl rfl rfl rfl (by first | rfl | (simp only [List.set_cons_succ, List.set_cons_zero]; exact rfl)) ?_) | refine ga_only 26 #[true, true, true, true, true, true, true, true, true, true, true, true, true, true, true, true, true, true, true, true, true, true, true, true, true, true, true] rfl rfl (by kernel_rfl) rfl (.inr ⟨[1, 2, 3, 4, 5, 6, 7, 8, 9], by decide, rfl⟩) (op_storeAgg 1 ty_62 rfl rfl rfl rfl rfl rfl (by first | rfl | (simp only [List.set_cons_succ, List.set_cons_zero]; exact rfl)) ?_) | refine ga_only 26 #[true, true, true, true, true, true, true, true, true, true, true, true, true, true, true, true, true, true, true, true, true, true, true, true, true, true, true] rfl rfl (by kernel_rfl) rfl (.inr ⟨[1, 2, 3, 4, 5, 6, 7, 8, 9], by decide, rfl⟩) (op_storeAgg 4 ty_62 rfl rfl rfl rfl rfl rfl (by first | rfl | (simp only [List.set_cons_succ, List.set_cons_zero]; exact rfl)) ?_) | refine ga_only 26 #[true, true, true, true, true, true, true, true, true, true, true, true, true, true, true, true, true, true, true, true, true, true, true, true, true, true, true] rfl rfl (by kernel_rfl) rfl (.inr ⟨[1, 2, 3, 4, 5, 6, 7, 8, 9], by decide, rfl⟩) (op_storeAgg 9 ty_62 rfl rfl rfl rfl rfl rfl (by first | rfl | (simp only [List.set_cons_succ, List.set_cons_zero]; exact rfl)) ?_) | refine ga_only 26 #[true, true, true, true, true, true, true, true, true, true, true, true, true, true, true, true, true, true, true, true, true, true, true, true, true, true, true] rfl rfl (by kernel_rfl) rfl (.inr ⟨[1, 2, 3, 4, 5, 6, 7, 8, 9], by decide, rfl⟩) (op_storeRowAgg 2 ty_62 rfl rfl rfl rfl rfl (by simp; omega) (by first | rfl | (simp only [List.set_cons_succ, List.set_cons_zero]; exact rfl)) ?_) | refine ga_only 26 #[true, true, true, true, true, true, true, true, true, true, true, true, true, true, true, true, true, true, true, true, true, true, true, true, true, true, true] rfl rfl (by kernel_rfl) rfl (.inr ⟨[1, 2, 3, 4, 5, 6, 7, 8, 9], by decide, rfl⟩) (op_storeRowAgg 3 ty_62 rfl rfl rfl rfl rfl (by simp; omega) (by first | rfl | (simp only [List.set_cons_succ, List.set_cons_zero]; exact rfl)) ?_) | refine ga_only 26 #[true, true, true, true, true, true, true, true, true, true, true, true, true, true, true, true, true, true, true, true, true, true, true, true, true, true, true] rfl rfl (by kernel_rfl) rfl (.inr ⟨[1, 2, 3, 4, 5, 6, 7, 8, 9], by decide, rfl⟩) (op_storeRowAgg 5 ty_62 rfl rfl rfl rfl rfl (by simp; omega) (by first | rfl | (simp only [List.set_cons_succ, List.set_cons_zero]; exact rfl)) ?_) | refine ga_only 26 #[true, true, true, true, true, true, true, true, true, true, true, true, true, true, true, true, true, true, true, true, true, true, true, true, true, true, true] rfl rfl (by kernel_rfl) rfl (.inr ⟨[1, 2, 3, 4, 5, 6, 7, 8, 9], by decide, rfl⟩) (op_storeRowAgg 6 ty_62 rfl rfl rfl rfl rfl (by simp; omega) (by first | rfl | (simp only [List.set_cons_succ, List.set_cons_zero]; exact rfl)) ?_) | refine ga_only 26 #[true, true, true, true, true, true, true, true, true, true, true, true, true, true, true, true, true, true, true, true, true, true, true, true, true, true, true] rfl rfl (by kernel_rfl) rfl (.inr ⟨[1, 2, 3, 4, 5, 6, 7, 8, 9], by decide, rfl⟩) (op_storeRowAgg 8 ty_62 rfl rfl rfl rfl rfl (by simp; omega) (by first | rfl | (simp only [List.set_cons_succ, List.set_cons_zero]; exact rfl)) ?_)
                    refine ga_end (by kernel_rfl) (.inl (by kernel_rfl)) ?_
                    refine gx_then ?_
                    refine gc_seq ?_
                    refine gc_drawP [0, 1, 2, 3, 4, 5, 6, 7, 8, 9] true 5 rfl ?_
                    refine ga_first 0 #[true, false, false, false, false, false] rfl rfl rfl rfl (by kernel_rfl) rfl ⟨[0, 1, 2, 3, 4, 5, 6, 7, 8, 9], by decide, rfl⟩ (qt_rd (rd_loadAgg Try.underlying62 rfl ty_62 rfl (by first | exact cs_blk 0 (off := 0) (k := 2) rfl rfl | exact cs_blk 1 (off := 0) (k := 2) rfl rfl | exact cs_blk 4 (off := 0) (k := 2) rfl rfl | exact cs_blk 9 (off := 0) (k := 2) rfl rfl | exact cs_old (by assumption) (by simp)) rfl)) ?_
                    refine ga_first 1 #[true, true, false, false, false, false] rfl rfl rfl rfl (by kernel_rfl) rfl ⟨[0, 1, 2, 3, 4, 5, 6, 7, 8, 9], by decide, rfl⟩ (qt_rd (rd_move rfl)) ?_
                    refine ga_first 2 #[true, true, true, false, false, false] rfl rfl rfl rfl (by kernel_rfl) rfl ⟨[0, 1, 2, 3, 4, 5, 6, 7, 8, 9], by decide, rfl⟩ (qt_rd (rd_move rfl)) ?_
                    refine ga_first 3 #[true, true, true, true, false, false] rfl rfl rfl rfl (by kernel_rfl) rfl ⟨[0, 1, 2, 3, 4, 5, 6, 7, 8, 9], by decide, rfl⟩ (qt_rd (rd_indexRow 3 rfl Try.underlying65 ty_62 rfl rfl (by omega) (by omega))) ?_
                    refine ga_first 4 #[true, true, true, true, true, false] rfl rfl rfl rfl (by kernel_rfl) rfl ⟨[0, 1, 2, 3, 4, 5, 6, 7, 8, 9], by decide, rfl⟩ (qt_rd (rd_loadAgg Try.underlying62 rfl ty_62 rfl (cs_rowN 3 rfl (flat_drop_get Pr.cells 2 (fun _ => rfl) (gp_get (show q + 1 < z.low.length by omega)))) rfl)) ?_
                    refine ga_first 5 #[true, true, true, true, true, true] rfl rfl rfl rfl (by kernel_rfl) rfl ⟨[0, 1, 2, 3, 4, 5, 6, 7, 8, 9], by decide, rfl⟩ (qt_call (vf := []) (vc := []) rfl rfl Try.call44 (fun w1 ho => less_ok x1 (gp z.low (q + 1)) w1) (by rintro _ _ ⟨h, _⟩; exact h)) ?_
                    refine ga_end (by kernel_rfl) (.inr ⟨[0, 1, 2, 3, 4, 5, 6, 7, 8, 9], by decide, rfl⟩) ?_
                    refine gx_then ?_
                    refine gc_cond rfl (fun h133 => ?_) (fun h133 => ?_)
                    · skip
                      refine gc_region ?_
                      refine gl_op (op_rd rfl (rd_move rfl) ?_)
                      refine gl_op (op_rd rfl (rd_move rfl) ?_)
                      refine gl_op (op_rd rfl (rd_move rfl) ?_)
                      refine gl_op (op_rd rfl (rd_move rfl) ?_)
                      refine gl_op (op_rd rfl (rd_loadAgg Try.underlying62 rfl ty_62 rfl (by first | exact cs_blk 0 (off := 0) (k := 2) rfl rfl | exact cs_blk 1 (off := 0) (k := 2) rfl rfl | exact cs_blk 4 (off := 0) (k := 2) rfl rfl | exact cs_blk 9 (off := 0) (k := 2) rfl rfl | exact cs_old (by assumption) (by simp)) rfl) ?_)
                      refine gl_op (op_rd rfl (rd_move rfl) ?_)
                      refine gl_op (op_rd rfl (rd_indexRow 3 rfl Try.underlying65 ty_62 rfl rfl (by omega) (by omega)) ?_)
                      refine gl_op (op_storeRowP 3 ty_62 rfl rfl rfl rfl rfl (by rw [flat_len Pr.cells 2 (fun _ => rfl)]; omega) (putAt_flat Pr.cells 2 (fun _ => rfl) z.low (q + 1) x1 (by omega)) (by first | rfl | (simp only [List.set_cons_succ, List.set_cons_zero]; exact rfl)) ?_)
                      refine gl_op (op_rd rfl (rd_indexRow1 2 rfl Try.underlying39 ty_3 rfl rfl (by omega) (by omega)) ?_)
                      refine gl_op (op_storeRowE 2 ty_3 rfl rfl rfl rfl (by simp; omega) (setN z.way (q + 1) s.at_) (by first | rfl | (simp only [List.set_cons_succ, List.set_cons_zero]; exact rfl)) ?_)
                      refine gl_nil ?_
                      refine gx_then ?_
                      refine gc_seq ?_
                      have hzl2 : (z.low.set (q + 1) x1).length = m + 1 := by simp [hzl]
                      refine gc_drawP [0, 1, 2, 3, 4, 5, 6, 7, 8, 9] true 5 rfl ?_
                      refine ga_first 0 #[true, false, false, false, false, false] rfl rfl rfl rfl (by kernel_rfl) rfl ⟨[0, 1, 2, 3, 4, 5, 6, 7, 8, 9], by decide, rfl⟩ (qt_rd (rd_move rfl)) ?_
                      refine ga_first 1 #[true, true, false, false, false, false] rfl rfl rfl rfl (by kernel_rfl) rfl ⟨[0, 1, 2, 3, 4, 5, 6, 7, 8, 9], by decide, rfl⟩ (qt_rd (rd_move rfl)) ?_
                      refine ga_first 2 #[true, true, true, false, false, false] rfl rfl rfl rfl (by kernel_rfl) rfl ⟨[0, 1, 2, 3, 4, 5, 6, 7, 8, 9], by decide, rfl⟩ (qt_rd (rd_indexRow 3 rfl Try.underlying65 ty_62 rfl rfl (by omega) (by omega))) ?_
                      refine ga_first 3 #[true, true, true, true, false, false] rfl rfl rfl rfl (by kernel_rfl) rfl ⟨[0, 1, 2, 3, 4, 5, 6, 7, 8, 9], by decide, rfl⟩ (qt_rd (rd_loadAgg Try.underlying62 rfl ty_62 rfl (cs_rowN 3 rfl (flat_drop_get Pr.cells 2 (fun _ => rfl) (gp_get (show q + 1 < (z.low.set (q + 1) x1).length by omega)))) rfl)) ?_
                      refine ga_first 4 #[true, true, true, true, true, false] rfl rfl rfl rfl (by kernel_rfl) rfl ⟨[0, 1, 2, 3, 4, 5, 6, 7, 8, 9], by decide, rfl⟩ (qt_rd (rd_loadAgg Try.underlying62 rfl ty_62 rfl (by first | exact cs_blk 0 (off := 0) (k := 2) rfl rfl | exact cs_blk 1 (off := 0) (k := 2) rfl rfl | exact cs_blk 4 (off := 0) (k := 2) rfl rfl | exact cs_blk 9 (off := 0) (k := 2) rfl rfl | exact cs_old (by assumption) (by simp)) rfl)) ?_
                      refine ga_first 5 #[true, true, true, true, true, true] rfl rfl rfl rfl (by kernel_rfl) rfl ⟨[0, 1, 2, 3, 4, 5, 6, 7, 8, 9], by decide, rfl⟩ (qt_call (vf := []) (vc := []) rfl rfl Try.call44 (fun w1 ho => less_ok (gp (z.low.set (q + 1) x1) (q + 1)) z.step w1) (by rintro _ _ ⟨h, _⟩; exact h)) ?_
                      refine ga_end (by kernel_rfl) (.inr ⟨[0, 1, 2, 3, 4, 5, 6, 7, 8, 9], by decide, rfl⟩) ?_
                      refine gx_then ?_
                      refine gc_cond rfl (fun h147 => ?_) (fun h147 => ?_)
                      · skip
                        refine gc_region ?_
                        refine gl_op (op_rd rfl (rd_move rfl) ?_)
                        refine gl_op (op_rd rfl (rd_move rfl) ?_)
                        refine gl_op (op_rd rfl (rd_indexRow 3 rfl Try.underlying65 ty_62 rfl rfl (by omega) (by omega)) ?_)
                        refine gl_op (op_rd rfl (rd_loadAgg Try.underlying62 rfl ty_62 rfl (cs_rowN 3 rfl (flat_drop_get Pr.cells 2 (fun _ => rfl) (gp_get (show q + 1 < (z.low.set (q + 1) x1).length by omega)))) rfl) ?_)
                        refine gl_op (op_rd rfl (rd_move rfl) ?_)
                        first | refine gl_op (op_storeAgg 0 ty_62 rfl rfl rfl rfl rfl rfl (by first | rfl | (simp only [List.set_cons_succ, List.set_cons_zero]; exact rfl)) ?_) | refine gl_op (op_storeAgg 1 ty_62 rfl rfl rfl rfl rfl rfl (by first | rfl | (simp only [List.set_cons_succ, List.set_cons_zero]; exact rfl)) ?_) | refine gl_op (op_storeAgg 4 ty_62 rfl rfl rfl rfl rfl rfl (by first | rfl | (simp only [List.set_cons_succ, List.set_cons_zero]; exact rfl)) ?_) | refine gl_op (op_storeAgg 9 ty_62 rfl rfl rfl rfl rfl rfl (by first | rfl | (simp only [List.set_cons_succ, List.set_cons_zero]; exact rfl)) ?_) | refine gl_op (op_storeRowAgg 2 ty_62 rfl rfl rfl rfl rfl (by simp; omega) (by first | rfl | (simp only [List.set_cons_succ, List.set_cons_zero]; exact rfl)) ?_) | refine gl_op (op_storeRowAgg 3 ty_62 rfl rfl rfl rfl rfl (by simp; omega) (by first | rfl | (simp only [List.set_cons_succ, List.set_cons_zero]; exact rfl)) ?_) | refine gl_op (op_storeRowAgg 5 ty_62 rfl rfl rfl rfl rfl (by simp; omega) (by first | rfl | (simp only [List.set_cons_succ, List.set_cons_zero]; exact rfl)) ?_) | refine gl_op (op_storeRowAgg 6 ty_62 rfl rfl rfl rfl rfl (by simp; omega) (by first | rfl | (simp only [List.set_cons_succ, List.set_cons_zero]; exact rfl)) ?_) | refine gl_op (op_storeRowAgg 8 ty_62 rfl rfl rfl rfl rfl (by simp; omega) (by first | rfl | (simp only [List.set_cons_succ, List.set_cons_zero]; exact rfl)) ?_)
                        refine gl_op (op_rd rfl (rd_assign rfl) ?_)
                        refine gl_nil ?_
                        refine gx_block ?_
                        refine gx_then ?_
                        refine gc_region ?_
                        refine gl_op (op_rd rfl (rd_move rfl) ?_)
                        refine gl_op (op_rd rfl (by first | exact rd_addN (b := 1) rfl rfl (by omega) | exact rd_add rfl rfl (by omega) (by omega)) ?_)
                        refine gl_op (op_rd rfl (rd_assign rfl) ?_)
                        refine gl_nil ?_
                        refine gx_then ?_
                        exact gx_cut ((q + 1, (⟨(z.low.set (q + 1) x1), (z.way.set (q + 1) s.at_), gp (z.low.set (q + 1) x1) (q + 1), (q + 1)⟩ : Sc))) ⟨⟨by simp only; omega, by simp only; rw [scanTo_succ, ← hz]; unfold scanOne; rw [if_neg (by rw [hns]; decide), hx1]; unfold scanX; simp only [h133, if_true, Bool.false_eq_true, if_false]; unfold scanN; simp only [h147, if_true, Bool.false_eq_true, if_false], by simp [hzl], by simp [hzw], fun k => by simp only; rw [gn_set (by omega)]; have := hzwm k; split <;> omega, by simp only; omega, ⟨fun _ => hnin⟩⟩, by simp only; omega⟩ ⟨rfl, rfl, rfl, rfl, rfl, rfl, rfl, rfl, rfl, rfl, rfl, rfl, rfl, rfl, rfl, trivial⟩ ⟨[2, 3, 4, 5, 6, 7, 8, 9], by decide, rfl⟩
                      · skip
                        refine gc_skip ?_
                        refine gx_block ?_
                        refine gx_then ?_
                        refine gc_region ?_
                        refine gl_op (op_rd rfl (rd_move rfl) ?_)
                        refine gl_op (op_rd rfl (by first | exact rd_addN (b := 1) rfl rfl (by omega) | exact rd_add rfl rfl (by omega) (by omega)) ?_)
                        refine gl_op (op_rd rfl (rd_assign rfl) ?_)
                        refine gl_nil ?_
                        refine gx_then ?_
                        exact gx_cut ((q + 1, (⟨(z.low.set (q + 1) x1), (z.way.set (q + 1) s.at_), z.step, z.next⟩ : Sc))) ⟨⟨by simp only; omega, by simp only; rw [scanTo_succ, ← hz]; unfold scanOne; rw [if_neg (by rw [hns]; decide), hx1]; unfold scanX; simp only [h133, if_true, Bool.false_eq_true, if_false]; unfold scanN; simp only [h147, if_true, Bool.false_eq_true, if_false], by simp [hzl], by simp [hzw], fun k => by simp only; rw [gn_set (by omega)]; have := hzwm k; split <;> omega, hzn, hznu⟩, by simp only; omega⟩ ⟨rfl, rfl, rfl, rfl, rfl, rfl, rfl, rfl, rfl, rfl, rfl, rfl, rfl, rfl, rfl, trivial⟩ ⟨[2, 3, 4, 5, 6, 7, 8, 9], by decide, rfl⟩
                    · skip
                      refine gc_skip ?_
                      refine gx_then ?_
                      refine gc_seq ?_
                      refine gc_drawP [0, 1, 2, 3, 4, 5, 6, 7, 8, 9] true 5 rfl ?_
                      refine ga_first 0 #[true, false, false, false, false, false] rfl rfl rfl rfl (by kernel_rfl) rfl ⟨[0, 1, 2, 3, 4, 5, 6, 7, 8, 9], by decide, rfl⟩ (qt_rd (rd_move rfl)) ?_
                      refine ga_first 1 #[true, true, false, false, false, false] rfl rfl rfl rfl (by kernel_rfl) rfl ⟨[0, 1, 2, 3, 4, 5, 6, 7, 8, 9], by decide, rfl⟩ (qt_rd (rd_move rfl)) ?_
                      refine ga_first 2 #[true, true, true, false, false, false] rfl rfl rfl rfl (by kernel_rfl) rfl ⟨[0, 1, 2, 3, 4, 5, 6, 7, 8, 9], by decide, rfl⟩ (qt_rd (rd_indexRow 3 rfl Try.underlying65 ty_62 rfl rfl (by omega) (by omega))) ?_
                      refine ga_first 3 #[true, true, true, true, false, false] rfl rfl rfl rfl (by kernel_rfl) rfl ⟨[0, 1, 2, 3, 4, 5, 6, 7, 8, 9], by decide, rfl⟩ (qt_rd (rd_loadAgg Try.underlying62 rfl ty_62 rfl (cs_rowN 3 rfl (flat_drop_get Pr.cells 2 (fun _ => rfl) (gp_get (show q + 1 < z.low.length by omega)))) rfl)) ?_
                      refine ga_first 4 #[true, true, true, true, true, false] rfl rfl rfl rfl (by kernel_rfl) rfl ⟨[0, 1, 2, 3, 4, 5, 6, 7, 8, 9], by decide, rfl⟩ (qt_rd (rd_loadAgg Try.underlying62 rfl ty_62 rfl (by first | exact cs_blk 0 (off := 0) (k := 2) rfl rfl | exact cs_blk 1 (off := 0) (k := 2) rfl rfl | exact cs_blk 4 (off := 0) (k := 2) rfl rfl | exact cs_blk 9 (off := 0) (k := 2) rfl rfl | exact cs_old (by assumption) (by simp)) rfl)) ?_
                      refine ga_first 5 #[true, true, true, true, true, true] rfl rfl rfl rfl (by kernel_rfl) rfl ⟨[0, 1, 2, 3, 4, 5, 6, 7, 8, 9], by decide, rfl⟩ (qt_call (vf := []) (vc := []) rfl rfl Try.call44 (fun w1 ho => less_ok (gp z.low (q + 1)) z.step w1) (by rintro _ _ ⟨h, _⟩; exact h)) ?_
                      refine ga_end (by kernel_rfl) (.inr ⟨[0, 1, 2, 3, 4, 5, 6, 7, 8, 9], by decide, rfl⟩) ?_
                      refine gx_then ?_
                      refine gc_cond rfl (fun h147 => ?_) (fun h147 => ?_)
                      · skip
                        refine gc_region ?_
                        refine gl_op (op_rd rfl (rd_move rfl) ?_)
                        refine gl_op (op_rd rfl (rd_move rfl) ?_)
                        refine gl_op (op_rd rfl (rd_indexRow 3 rfl Try.underlying65 ty_62 rfl rfl (by omega) (by omega)) ?_)
                        refine gl_op (op_rd rfl (rd_loadAgg Try.underlying62 rfl ty_62 rfl (cs_rowN 3 rfl (flat_drop_get Pr.cells 2 (fun _ => rfl) (gp_get (show q + 1 < z.low.length by omega)))) rfl) ?_)
                        refine gl_op (op_rd rfl (rd_move rfl) ?_)
                        first | refine gl_op (op_storeAgg 0 ty_62 rfl rfl rfl rfl rfl rfl (by first | rfl | (simp only [List.set_cons_succ, List.set_cons_zero]; exact rfl)) ?_) | refine gl_op (op_storeAgg 1 ty_62 rfl rfl rfl rfl rfl rfl (by first | rfl | (simp only [List.set_cons_succ, List.set_cons_zero]; exact rfl)) ?_) | refine gl_op (op_storeAgg 4 ty_62 rfl rfl rfl rfl rfl rfl (by first | rfl | (simp only [List.set_cons_succ, List.set_cons_zero]; exact rfl)) ?_) | refine gl_op (op_storeAgg 9 ty_62 rfl rfl rfl rfl rfl rfl (by first | rfl | (simp only [List.set_cons_succ, List.set_cons_zero]; exact rfl)) ?_) | refine gl_op (op_storeRowAgg 2 ty_62 rfl rfl rfl rfl rfl (by simp; omega) (by first | rfl | (simp only [List.set_cons_succ, List.set_cons_zero]; exact rfl)) ?_) | refine gl_op (op_storeRowAgg 3 ty_62 rfl rfl rfl rfl rfl (by simp; omega) (by first | rfl | (simp only [List.set_cons_succ, List.set_cons_zero]; exact rfl)) ?_) | refine gl_op (op_storeRowAgg 5 ty_62 rfl rfl rfl rfl rfl (by simp; omega) (by first | rfl | (simp only [List.set_cons_succ, List.set_cons_zero]; exact rfl)) ?_) | refine gl_op (op_storeRowAgg 6 ty_62 rfl rfl rfl rfl rfl (by simp; omega) (by first | rfl | (simp only [List.set_cons_succ, List.set_cons_zero]; exact rfl)) ?_) | refine gl_op (op_storeRowAgg 8 ty_62 rfl rfl rfl rfl rfl (by simp; omega) (by first | rfl | (simp only [List.set_cons_succ, List.set_cons_zero]; exact rfl)) ?_)
                        refine gl_op (op_rd rfl (rd_assign rfl) ?_)
                        refine gl_nil ?_
                        refine gx_block ?_
                        refine gx_then ?_
                        refine gc_region ?_
                        refine gl_op (op_rd rfl (rd_move rfl) ?_)
                        refine gl_op (op_rd rfl (by first | exact rd_addN (b := 1) rfl rfl (by omega) | exact rd_add rfl rfl (by omega) (by omega)) ?_)
                        refine gl_op (op_rd rfl (rd_assign rfl) ?_)
                        refine gl_nil ?_
                        refine gx_then ?_
                        exact gx_cut ((q + 1, (⟨z.low, z.way, gp z.low (q + 1), (q + 1)⟩ : Sc))) ⟨⟨by simp only; omega, by simp only; rw [scanTo_succ, ← hz]; unfold scanOne; rw [if_neg (by rw [hns]; decide), hx1]; unfold scanX; simp only [h133, if_true, Bool.false_eq_true, if_false]; unfold scanN; simp only [h147, if_true, Bool.false_eq_true, if_false], hzl, hzw, hzwm, by simp only; omega, ⟨fun _ => hnin⟩⟩, by simp only; omega⟩ ⟨rfl, rfl, rfl, rfl, rfl, rfl, rfl, rfl, rfl, rfl, rfl, rfl, rfl, rfl, rfl, trivial⟩ ⟨[2, 3, 4, 5, 6, 7, 8, 9], by decide, rfl⟩
                      · skip
                        refine gc_skip ?_
                        refine gx_block ?_
                        refine gx_then ?_
                        refine gc_region ?_
                        refine gl_op (op_rd rfl (rd_move rfl) ?_)
                        refine gl_op (op_rd rfl (by first | exact rd_addN (b := 1) rfl rfl (by omega) | exact rd_add rfl rfl (by omega) (by omega)) ?_)
                        refine gl_op (op_rd rfl (rd_assign rfl) ?_)
                        refine gl_nil ?_
                        refine gx_then ?_
                        exact gx_cut ((q + 1, (⟨z.low, z.way, z.step, z.next⟩ : Sc))) ⟨⟨by simp only; omega, by simp only; rw [scanTo_succ, ← hz]; unfold scanOne; rw [if_neg (by rw [hns]; decide), hx1]; unfold scanX; simp only [h133, if_true, Bool.false_eq_true, if_false]; unfold scanN; simp only [h147, if_true, Bool.false_eq_true, if_false], hzl, hzw, hzwm, hzn, hznu⟩, by simp only; omega⟩ ⟨rfl, rfl, rfl, rfl, rfl, rfl, rfl, rfl, rfl, rfl, rfl, rfl, rfl, rfl, rfl, trivial⟩ ⟨[2, 3, 4, 5, 6, 7, 8, 9], by decide, rfl⟩
              · skip
                have hzs : z = sc := by rw [hz, show q = m by omega]; exact hsc
                rw [hzs] at hzl hzw hzwm hzn hznu
                rw [hzs]
                refine gl_nil ?_
                refine gx_then ?_
                refine gc_cond_f rfl ?_
                refine gc_exit ?_
                refine gx_then_exit ?_
                refine gx_then_exit ?_
                refine gx_block_exit ?_
                refine gx_then ?_
                refine gc_seq ?_
                refine gc_seq ?_
                refine gc_region ?_
                refine gl_op (op_rd rfl (rd_assign rfl) ?_)
                refine gl_nil ?_
                refine gx_then ?_
                refine gc_block ?_
                refine gc_loopF (ι := Nat × Up) [(0, _), (1, _), (5, _), (6, _), (7, _), (8, _), (9, _), (10, _), (11, _), (12, _), (13, _), (17, _), (18, _)] [_, _, _, _, _] (fun j => j.1 ≤ m + 1 ∧ j.2 = updTo row (s.used ++ [s.at_]) sc.step ⟨s.u, s.v, sc.low⟩ j.1 ∧ j.2.u.length = tb.length + 1 ∧ j.2.v.length = m + 1 ∧ j.2.low.length = m + 1) (fun j Fr0 => ((23, natV j.1) :: Fr0)) (fun j Fr0 => (.row 62 2 (some b40) (tb.length + 1) (tb.length + 1) (j.2.u.flatMap Pr.cells) :: .row 62 2 (some b43) (m + 1) (m + 1) (j.2.v.flatMap Pr.cells) :: .row 62 2 (some b52) (m + 1) (m + 1) (j.2.low.flatMap Pr.cells) :: Fr0)) (fun j => m + 1 - j.1) (0, ⟨s.u, s.v, sc.low⟩) (⟨Nat.zero_le _, rfl, hul2, hvl2, hzl⟩) ⟨rfl, rfl, rfl, rfl, rfl, rfl, rfl, rfl, rfl, rfl, rfl, rfl, rfl, rfl, trivial⟩ ⟨[3, 4, 1, 0, 2, 5, 6, 7], by decide, rfl⟩ ?_
                rintro ⟨k, y⟩ ⟨hk, hy, hyu, hyv, hyl⟩
                simp only at hk hy hyu hyv hyl ⊢
                clear hul2 hvl2
                refine gc_seq ?_
                refine gc_seq ?_
                refine gc_region ?_
                refine gl_op (op_rd rfl (rd_move rfl) ?_)
                refine gl_op (op_rd rfl (rd_move rfl) ?_)
                refine gl_op (op_rd rfl (rd_leq rfl rfl) (gk_dec (fun hlt4 => ?_) (fun hlt4 => ?_)))
                · skip
                  have hrk := hrn3 k
                  refine gl_nil ?_
                  refine gx_then ?_
                  refine gc_cond_t rfl ?_
                  refine gc_skip ?_
                  refine gx_then ?_
                  refine gc_seq ?_
                  refine gc_block ?_
                  refine gc_seq ?_
                  refine gc_region ?_
                  refine gl_op (op_rd rfl (rd_move rfl) ?_)
                  refine gl_op (op_rd rfl (rd_move rfl) ?_)
                  refine gl_op (op_rd rfl (rd_lookupVOk 5 hkv2 rfl Try.underlying79 Try.underlying3 ty_80 rfl rfl) ?_)
                  rw [lkv_uv, lkv_u]
                  refine gl_op (op_rd rfl (rd_move rfl) ?_)
                  refine gl_op (op_rd rfl (rd_extract rfl rfl) ?_)
                  refine gl_op (op_rd rfl (rd_extract rfl rfl) ?_)
                  refine gl_op (op_alloc ty_80 rfl rfl (fun b24 => ?_))
                  first | refine gl_op (op_storeAgg 0 ty_80 rfl rfl rfl rfl rfl rfl (by first | rfl | (simp only [List.set_cons_succ, List.set_cons_zero]; exact rfl)) ?_) | refine gl_op (op_storeAgg 5 ty_80 rfl rfl rfl rfl rfl rfl (by first | rfl | (simp only [List.set_cons_succ, List.set_cons_zero]; exact rfl)) ?_) | refine gl_op (op_storeAgg 8 ty_80 rfl rfl rfl rfl rfl rfl (by first | rfl | (simp only [List.set_cons_succ, List.set_cons_zero]; exact rfl)) ?_) | refine gl_op (op_storeRowAgg 1 ty_80 rfl rfl rfl rfl rfl (by simp; omega) (by first | rfl | (simp only [List.set_cons_succ, List.set_cons_zero]; exact rfl)) ?_) | refine gl_op (op_storeRowAgg 2 ty_80 rfl rfl rfl rfl rfl (by simp; omega) (by first | rfl | (simp only [List.set_cons_succ, List.set_cons_zero]; exact rfl)) ?_) | refine gl_op (op_storeRowAgg 3 ty_80 rfl rfl rfl rfl rfl (by simp; omega) (by first | rfl | (simp only [List.set_cons_succ, List.set_cons_zero]; exact rfl)) ?_) | refine gl_op (op_storeRowAgg 4 ty_80 rfl rfl rfl rfl rfl (by simp; omega) (by first | rfl | (simp only [List.set_cons_succ, List.set_cons_zero]; exact rfl)) ?_) | refine gl_op (op_storeRowAgg 7 ty_80 rfl rfl rfl rfl rfl (by simp; omega) (by first | rfl | (simp only [List.set_cons_succ, List.set_cons_zero]; exact rfl)) ?_)
                  refine gl_op (op_rd rfl (rd_assign rfl) ?_)
                  refine gl_nil ?_
                  refine gx_then ?_
                  refine gc_seq ?_
                  refine gc_region ?_
                  refine gl_op (op_rd rfl (rd_move rfl) ?_)
                  refine gk_bool (fun hin3 => ?_) (fun hin3 => ?_)
                  · skip
                    have hin4 : k ∈ (s.used ++ [s.at_]) := of_decide_eq_true hin3
                    refine gl_nil ?_
                    refine gx_then ?_
                    refine gc_cond_t rfl ?_
                    refine gc_drawP [0, 1, 2, 3, 4, 5, 6, 7, 8] false 23 rfl ?_
                    refine ga_first 0 #[true, false, false, false, false, false, false, false, false, false, false, false, false, false, false, false, false, false, false, false, false, false, false, false, false, false] rfl rfl rfl rfl (by kernel_rfl) rfl ⟨[0, 1, 2, 3, 4, 5, 6, 7, 8], by decide, rfl⟩ (qt_rd (rd_move rfl)) ?_
                    refine ga_first 1 #[true, true, false, false, false, false, false, false, false, false, false, false, false, false, false, false, false, false, false, false, false, false, false, false, false, false] rfl rfl rfl rfl (by kernel_rfl) rfl ⟨[0, 1, 2, 3, 4, 5, 6, 7, 8], by decide, rfl⟩ (qt_rd (rd_move rfl)) ?_
                    refine ga_first 2 #[true, true, true, false, false, false, false, false, false, false, false, false, false, false, false, false, false, false, false, false, false, false, false, false, false, false] rfl rfl rfl rfl (by kernel_rfl) rfl ⟨[0, 1, 2, 3, 4, 5, 6, 7, 8], by decide, rfl⟩ (qt_rd (rd_move rfl)) ?_
                    refine ga_first 3 #[true, true, true, true, false, false, false, false, false, false, false, false, false, false, false, false, false, false, false, false, false, false, false, false, false, false] rfl rfl rfl rfl (by kernel_rfl) rfl ⟨[0, 1, 2, 3, 4, 5, 6, 7, 8], by decide, rfl⟩ (qt_rd (rd_indexRow1 7 rfl Try.underlying39 ty_3 rfl rfl (by omega) (by omega))) ?_
                    refine ga_first 4 #[true, true, true, true, true, false, false, false, false, false, false, false, false, false, false, false, false, false, false, false, false, false, false, false, false, false] rfl rfl rfl rfl (by kernel_rfl) rfl ⟨[0, 1, 2, 3, 4, 5, 6, 7, 8], by decide, rfl⟩ (qt_rd (rd_load Try.underlying3 rfl rfl (ld_rowN 7 rfl (get_gn (by omega))))) ?_
                    refine ga_first 7 #[true, true, true, true, true, false, false, true, false, false, false, false, false, false, false, false, false, false, false, false, false, false, false, false, false, false] rfl rfl rfl rfl (by kernel_rfl) rfl ⟨[0, 1, 2, 3, 4, 5, 6, 7, 8], by decide, rfl⟩ (qt_rd (rd_move rfl)) ?_
                    refine ga_first 8 #[true, true, true, true, true, false, false, true, true, false, false, false, false, false, false, false, false, false, false, false, false, false, false, false, false, false] rfl rfl rfl rfl (by kernel_rfl) rfl ⟨[0, 1, 2, 3, 4, 5, 6, 7, 8], by decide, rfl⟩ (qt_rd (rd_move rfl)) ?_
                    refine ga_first 9 #[true, true, true, true, true, false, false, true, true, true, false, false, false, false, false, false, false, false, false, false, false, false, false, false, false, false] rfl rfl rfl rfl (by kernel_rfl) rfl ⟨[0, 1, 2, 3, 4, 5, 6, 7, 8], by decide, rfl⟩ (qt_rd (rd_move rfl)) ?_
                    refine ga_first 10 #[true, true, true, true, true, false, false, true, true, true, true, false, false, false, false, false, false, false, false, false, false, false, false, false, false, false] rfl rfl rfl rfl (by kernel_rfl) rfl ⟨[0, 1, 2, 3, 4, 5, 6, 7, 8], by decide, rfl⟩ (qt_rd (rd_indexRow1 7 rfl Try.underlying39 ty_3 rfl rfl (by omega) (by omega))) ?_
                    refine ga_first 11 #[true, true, true, true, true, false, false, true, true, true, true, true, false, false, false, false, false, false, false, false, false, false, false, false, false, false] rfl rfl rfl rfl (by kernel_rfl) rfl ⟨[0, 1, 2, 3, 4, 5, 6, 7, 8], by decide, rfl⟩ (qt_rd (rd_load Try.underlying3 rfl rfl (ld_rowN 7 rfl (get_gn (by omega))))) ?_
                    refine ga_first 12 #[true, true, true, true, true, false, false, true, true, true, true, true, true, false, false, false, false, false, false, false, false, false, false, false, false, false] rfl rfl rfl rfl (by kernel_rfl) rfl ⟨[0, 1, 2, 3, 4, 5, 6, 7, 8], by decide, rfl⟩ (qt_rd (rd_indexRow 1 rfl Try.underlying65 ty_62 rfl rfl (by omega) (by omega))) ?_
                    refine ga_first 13 #[true, true, true, true, true, false, false, true, true, true, true, true, true, true, false, false, false, false, false, false, false, false, false, false, false, false] rfl rfl rfl rfl (by kernel_rfl) rfl ⟨[0, 1, 2, 3, 4, 5, 6, 7, 8], by decide, rfl⟩ (qt_rd (rd_loadAgg Try.underlying62 rfl ty_62 rfl (cs_rowN 1 rfl (flat_drop_get Pr.cells 2 (fun _ => rfl) (gp_get (show gn row k < y.u.length by omega)))) rfl)) ?_
                    refine ga_first 14 #[true, true, true, true, true, false, false, true, true, true, true, true, true, true, true, false, false, false, false, false, false, false, false, false, false, false] rfl rfl rfl rfl (by kernel_rfl) rfl ⟨[0, 1, 2, 3, 4, 5, 6, 7, 8], by decide, rfl⟩ (qt_rd (rd_loadAgg Try.underlying62 rfl ty_62 rfl (by first | exact cs_blk 0 (off := 0) (k := 2) rfl rfl | exact cs_blk 5 (off := 0) (k := 2) rfl rfl | exact cs_blk 8 (off := 0) (k := 2) rfl rfl | exact cs_old (by assumption) (by simp)) rfl)) ?_
                    refine ga_first 15 #[true, true, true, true, true, false, false, true, true, true, true, true, true, true, true, true, false, false, false, false, false, false, false, false, false, false] rfl rfl rfl rfl (by kernel_rfl) rfl ⟨[0, 1, 2, 3, 4, 5, 6, 7, 8], by decide, rfl⟩ (qt_call (vf := []) (vc := []) rfl rfl Try.call32 (fun w1 ho => plus_ok (gp y.u (gn row k)) sc.step w1) (by rintro _ _ ⟨h, _⟩; exact h)) ?_
                    refine ga_firstT 5 #[true, true, true, true, true, true, false, true, true, true, true, true, true, true, true, true, false, false, false, false, false, false, false, false, false, false] rfl rfl rfl rfl (by kernel_rfl) rfl (fun _ => rd_move rfl) ?_
                    refine ga_firstT 6 #[true, true, true, true, true, true, true, true, true, true, true, true, true, true, true, true, false, false, false, false, false, false, false, false, false, false] rfl rfl rfl rfl (by kernel_rfl) rfl (fun _ => rd_move rfl) ?_
                    refine ga_firstT 16 #[true, true, true, true, true, true, true, true, true, true, true, true, true, true, true, true, true, false, false, false, false, false, false, false, false, false] rfl rfl rfl rfl (by kernel_rfl) rfl (fun _ => rd_move rfl) ?_
                    refine ga_firstT 17 #[true, true, true, true, true, true, true, true, true, true, true, true, true, true, true, true, true, true, false, false, false, false, false, false, false, false] rfl rfl rfl rfl (by kernel_rfl) rfl (fun _ => rd_move rfl) ?_
                    refine ga_two 18 20 #[true, true, true, true, true, true, true, true, true, true, true, true, true, true, true, true, true, true, true, false, false, false, false, false, false, false] #[true, true, true, true, true, true, true, true, true, true, true, true, true, true, true, true, true, true, false, false, true, false, false, false, false, false] rfl rfl rfl rfl (by kernel_rfl) rfl rfl (.inr ⟨[0, 1, 2, 3, 4, 5, 6, 7, 8], by decide, rfl⟩) ?_ ?_
                    · skip
                      refine (op_rd rfl (rd_indexRow 2 rfl Try.underlying65 ty_62 rfl rfl (by omega) (by omega)) ?_)
                      refine ga_first 19 #[true, true, true, true, true, true, true, true, true, true, true, true, true, true, true, true, true, true, true, true, false, false, false, false, false, false] rfl rfl rfl rfl (by kernel_rfl) rfl ⟨[0, 1, 2, 3, 4, 5, 6, 7, 8], by decide, rfl⟩ (qt_rd (rd_loadAgg Try.underlying62 rfl ty_62 rfl (cs_rowN 2 rfl (flat_drop_get Pr.cells 2 (fun _ => rfl) (gp_get (show k < y.v.length by omega)))) rfl)) ?_
                      refine ga_only 20 #[true, true, true, true, true, true, true, true, true, true, true, true, true, true, true, true, true, true, true, true, true, false, false, false, false, false] rfl rfl (by kernel_rfl) rfl (.inr ⟨[0, 1, 2, 3, 4, 5, 6, 7, 8], by decide, rfl⟩) (op_rd rfl (rd_loadAgg Try.underlying62 rfl ty_62 rfl (by first | exact cs_blk 0 (off := 0) (k := 2) rfl rfl | exact cs_blk 5 (off := 0) (k := 2) rfl rfl | exact cs_blk 8 (off := 0) (k := 2) rfl rfl | exact cs_old (by assumption) (by simp)) rfl) ?_)
                      refine ga_first 21 #[true, true, true, true, true, true, true, true, true, true, true, true, true, true, true, true, true, true, true, true, true, true, false, false, false, false] rfl rfl rfl rfl (by kernel_rfl) rfl ⟨[0, 1, 2, 3, 4, 5, 6, 7, 8], by decide, rfl⟩ (qt_call (vf := []) (vc := []) rfl rfl Try.call43 (fun w1 ho => minus_ok (gp y.v k) sc.step w1) (by rintro _ _ ⟨h, _⟩; exact h)) ?_
                      refine ga_first 22 #[true, true, true, true, true, true, true, true, true, true, true, true, true, true, true, true, true, true, true, true, true, true, true, false, false, false] rfl rfl rfl rfl (by kernel_rfl) rfl ⟨[0, 1, 2, 3, 4, 5, 6, 7, 8], by decide, rfl⟩ (qt_rd (rd_indexRow 1 rfl Try.underlying65 ty_62 rfl rfl (by omega) (by omega))) ?_
                      refine ga_only 23 #[true, true, true, true, true, true, true, true, true, true, true, true, true, true, true, true, true, true, true, true, true, true, true, true, false, false] rfl rfl (by kernel_rfl) rfl (.inr ⟨[0, 1, 2, 3, 4, 5, 6, 7, 8], by decide, rfl⟩) (op_storeRowP 1 ty_62 rfl rfl rfl rfl rfl (by rw [flat_len Pr.cells 2 (fun _ => rfl)]; omega) (putAt_flat Pr.cells 2 (fun _ => rfl) y.u (gn row k) ((gp y.u (gn row k)).add sc.step) (by omega)) (by first | rfl | (simp only [List.set_cons_succ, List.set_cons_zero]; exact rfl)) ?_)
                      refine ga_only 24 #[true, true, true, true, true, true, true, true, true, true, true, true, true, true, true, true, true, true, true, true, true, true, true, true, true, false] rfl rfl (by kernel_rfl) rfl (.inl (by kernel_rfl)) (op_rd rfl (rd_indexRow 2 rfl Try.underlying65 ty_62 rfl rfl (by omega) (by omega)) ?_)
                      refine ga_only 25 #[true, true, true, true, true, true, true, true, true, true, true, true, true, true, true, true, true, true, true, true, true, true, true, true, true, true] rfl rfl (by kernel_rfl) rfl (.inl (by kernel_rfl)) (op_storeRowP 2 ty_62 rfl rfl rfl rfl rfl (by rw [flat_len Pr.cells 2 (fun _ => rfl)]; omega) (putAt_flat Pr.cells 2 (fun _ => rfl) y.v k ((gp y.v k).sub sc.step) (by omega)) (by first | rfl | (simp only [List.set_cons_succ, List.set_cons_zero]; exact rfl)) ?_)
                      refine ga_end (by kernel_rfl) (.inl (by kernel_rfl)) ?_
                      refine gx_block ?_
                      refine gx_then ?_
                      refine gc_region ?_
                      refine gl_op (op_rd rfl (rd_move rfl) ?_)
                      refine gl_op (op_rd rfl (by first | exact rd_addN (b := 1) rfl rfl (by omega) | exact rd_add rfl rfl (by omega) (by omega)) ?_)
                      refine gl_op (op_rd rfl (rd_assign rfl) ?_)
                      refine gl_nil ?_
                      refine gx_then ?_
                      exact gx_cut ((k + 1, (⟨y.u.set (gn row k) ((gp y.u (gn row k)).add sc.step), y.v.set k ((gp y.v k).sub sc.step), y.low⟩ : Up))) ⟨⟨by simp only; omega, by simp only; rw [updTo_succ, ← hy]; unfold updOne; rw [if_pos hin4], by simp [hyu], by simp [hyv], hyl⟩, by simp only; omega⟩ ⟨rfl, rfl, rfl, rfl, rfl, rfl, rfl, rfl, rfl, rfl, rfl, rfl, rfl, rfl, trivial⟩ ⟨[1, 2, 3, 4, 5, 6, 7, 8], by decide, rfl⟩
                    · skip
                      refine (op_rd rfl (rd_loadAgg Try.underlying62 rfl ty_62 rfl (by first | exact cs_blk 0 (off := 0) (k := 2) rfl rfl | exact cs_blk 5 (off := 0) (k := 2) rfl rfl | exact cs_blk 8 (off := 0) (k := 2) rfl rfl | exact cs_old (by assumption) (by simp)) rfl) ?_)
                      refine ga_only 18 #[true, true, true, true, true, true, true, true, true, true, true, true, true, true, true, true, true, true, true, false, true, false, false, false, false, false] rfl rfl (by kernel_rfl) rfl (.inr ⟨[0, 1, 2, 3, 4, 5, 6, 7, 8], by decide, rfl⟩) (op_rd rfl (rd_indexRow 2 rfl Try.underlying65 ty_62 rfl rfl (by omega) (by omega)) ?_)
                      refine ga_first 19 #[true, true, true, true, true, true, true, true, true, true, true, true, true, true, true, true, true, true, true, true, true, false, false, false, false, false] rfl rfl rfl rfl (by kernel_rfl) rfl ⟨[0, 1, 2, 3, 4, 5, 6, 7, 8], by decide, rfl⟩ (qt_rd (rd_loadAgg Try.underlying62 rfl ty_62 rfl (cs_rowN 2 rfl (flat_drop_get Pr.cells 2 (fun _ => rfl) (gp_get (show k < y.v.length by omega)))) rfl)) ?_
                      refine ga_first 21 #[true, true, true, true, true, true, true, true, true, true, true, true, true, true, true, true, true, true, true, true, true, true, false, false, false, false] rfl rfl rfl rfl (by kernel_rfl) rfl ⟨[0, 1, 2, 3, 4, 5, 6, 7, 8], by decide, rfl⟩ (qt_call (vf := []) (vc := []) rfl rfl Try.call43 (fun w1 ho => minus_ok (gp y.v k) sc.step w1) (by rintro _ _ ⟨h, _⟩; exact h)) ?_
                      refine ga_first 22 #[true, true, true, true, true, true, true, true, true, true, true, true, true, true, true, true, true, true, true, true, true, true, true, false, false, false] rfl rfl rfl rfl (by kernel_rfl) rfl ⟨[0, 1, 2, 3, 4, 5, 6, 7, 8], by decide, rfl⟩ (qt_rd (rd_indexRow 1 rfl Try.underlying65 ty_62 rfl rfl (by omega) (by omega))) ?_
                      refine ga_only 23 #[true, true, true, true, true, true, true, true, true, true, true, true, true, true, true, true, true, true, true, true, true, true, true, true, false, false] rfl rfl (by kernel_rfl) rfl (.inr ⟨[0, 1, 2, 3, 4, 5, 6, 7, 8], by decide, rfl⟩) (op_storeRowP 1 ty_62 rfl rfl rfl rfl rfl (by rw [flat_len Pr.cells 2 (fun _ => rfl)]; omega) (putAt_flat Pr.cells 2 (fun _ => rfl) y.u (gn row k) ((gp y.u (gn row k)).add sc.step) (by omega)) (by first | rfl | (simp only [List.set_cons_succ, List.set_cons_zero]; exact rfl)) ?_)
                      refine ga_only 24 #[true, true, true, true, true, true, true, true, true, true, true, true, true, true, true, true, true, true, true, true, true, true, true, true, true, false] rfl rfl (by kernel_rfl) rfl (.inl (by kernel_rfl)) (op_rd rfl (rd_indexRow 2 rfl Try.underlying65 ty_62 rfl rfl (by omega) (by omega)) ?_)
                      refine ga_only 25 #[true, true, true, true, true, true, true, true, true, true, true, true, true, true, true, true, true, true, true, true, true, true, true, true, true, true] rfl rfl (by kernel_rfl) rfl (.inl (by kernel_rfl)) (op_storeRowP 2 ty_62 rfl rfl rfl rfl rfl (by rw [flat_len Pr.cells 2 (fun _ => rfl)]; omega) (putAt_flat Pr.cells 2 (fun _ => rfl) y.v k ((gp y.v k).sub sc.step) (by omega)) (by first | rfl | (simp only [List.set_cons_succ, List.set_cons_zero]; exact rfl)) ?_)
                      refine ga_end (by kernel_rfl) (.inl (by kernel_rfl)) ?_
                      refine gx_block ?_
                      refine gx_then ?_
                      refine gc_region ?_
                      refine gl_op (op_rd rfl (rd_move rfl) ?_)
                      refine gl_op (op_rd rfl (by first | exact rd_addN (b := 1) rfl rfl (by omega) | exact rd_add rfl rfl (by omega) (by omega)) ?_)
                      refine gl_op (op_rd rfl (rd_assign rfl) ?_)
                      refine gl_nil ?_
                      refine gx_then ?_
                      exact gx_cut ((k + 1, (⟨y.u.set (gn row k) ((gp y.u (gn row k)).add sc.step), y.v.set k ((gp y.v k).sub sc.step), y.low⟩ : Up))) ⟨⟨by simp only; omega, by simp only; rw [updTo_succ, ← hy]; unfold updOne; rw [if_pos hin4], by simp [hyu], by simp [hyv], hyl⟩, by simp only; omega⟩ ⟨rfl, rfl, rfl, rfl, rfl, rfl, rfl, rfl, rfl, rfl, rfl, rfl, rfl, rfl, trivial⟩ ⟨[1, 2, 3, 4, 5, 6, 7, 8], by decide, rfl⟩
                  · skip
                    have hin4 : ¬ k ∈ (s.used ++ [s.at_]) := of_decide_eq_false hin3
                    refine gl_nil ?_
                    refine gx_then ?_
                    refine gc_cond_f rfl ?_
                    refine gc_drawP [0, 1, 2, 3, 4, 5, 6, 7, 8] false 9 rfl ?_
                    refine ga_first 0 #[true, false, false, false, false, false, false, false, false, false] rfl rfl rfl rfl (by kernel_rfl) rfl ⟨[0, 1, 2, 3, 4, 5, 6, 7, 8], by decide, rfl⟩ (qt_rd (rd_move rfl)) ?_
                    refine ga_first 1 #[true, true, false, false, false, false, false, false, false, false] rfl rfl rfl rfl (by kernel_rfl) rfl ⟨[0, 1, 2, 3, 4, 5, 6, 7, 8], by decide, rfl⟩ (qt_rd (rd_move rfl)) ?_
                    refine ga_first 2 #[true, true, true, false, false, false, false, false, false, false] rfl rfl rfl rfl (by kernel_rfl) rfl ⟨[0, 1, 2, 3, 4, 5, 6, 7, 8], by decide, rfl⟩ (qt_rd (rd_move rfl)) ?_
                    refine ga_first 3 #[true, true, true, true, false, false, false, false, false, false] rfl rfl rfl rfl (by kernel_rfl) rfl ⟨[0, 1, 2, 3, 4, 5, 6, 7, 8], by decide, rfl⟩ (qt_rd (rd_move rfl)) ?_
                    refine ga_first 4 #[true, true, true, true, true, false, false, false, false, false] rfl rfl rfl rfl (by kernel_rfl) rfl ⟨[0, 1, 2, 3, 4, 5, 6, 7, 8], by decide, rfl⟩ (qt_rd (rd_indexRow 3 rfl Try.underlying65 ty_62 rfl rfl (by omega) (by omega))) ?_
                    refine ga_first 5 #[true, true, true, true, true, true, false, false, false, false] rfl rfl rfl rfl (by kernel_rfl) rfl ⟨[0, 1, 2, 3, 4, 5, 6, 7, 8], by decide, rfl⟩ (qt_rd (rd_loadAgg Try.underlying62 rfl ty_62 rfl (cs_rowN 3 rfl (flat_drop_get Pr.cells 2 (fun _ => rfl) (gp_get (show k < y.low.length by omega)))) rfl)) ?_
                    refine ga_first 6 #[true, true, true, true, true, true, true, false, false, false] rfl rfl rfl rfl (by kernel_rfl) rfl ⟨[0, 1, 2, 3, 4, 5, 6, 7, 8], by decide, rfl⟩ (qt_rd (rd_loadAgg Try.underlying62 rfl ty_62 rfl (by first | exact cs_blk 0 (off := 0) (k := 2) rfl rfl | exact cs_blk 5 (off := 0) (k := 2) rfl rfl | exact cs_blk 8 (off := 0) (k := 2) rfl rfl | exact cs_old (by assumption) (by simp)) rfl)) ?_
                    refine ga_first 7 #[true, true, true, true, true, true, true, true, false, false] rfl rfl rfl rfl (by kernel_rfl) rfl ⟨[0, 1, 2, 3, 4, 5, 6, 7, 8], by decide, rfl⟩ (qt_call (vf := []) (vc := []) rfl rfl Try.call43 (fun w1 ho => minus_ok (gp y.low k) sc.step w1) (by rintro _ _ ⟨h, _⟩; exact h)) ?_
                    refine ga_first 8 #[true, true, true, true, true, true, true, true, true, false] rfl rfl rfl rfl (by kernel_rfl) rfl ⟨[0, 1, 2, 3, 4, 5, 6, 7, 8], by decide, rfl⟩ (qt_rd (rd_indexRow 3 rfl Try.underlying65 ty_62 rfl rfl (by omega) (by omega))) ?_
                    refine ga_only 9 #[true, true, true, true, true, true, true, true, true, true] rfl rfl (by kernel_rfl) rfl (.inr ⟨[0, 1, 2, 3, 4, 5, 6, 7, 8], by decide, rfl⟩) (op_storeRowP 3 ty_62 rfl rfl rfl rfl rfl (by rw [flat_len Pr.cells 2 (fun _ => rfl)]; omega) (putAt_flat Pr.cells 2 (fun _ => rfl) y.low k ((gp y.low k).sub sc.step) (by omega)) (by first | rfl | (simp only [List.set_cons_succ, List.set_cons_zero]; exact rfl)) ?_)
                    refine ga_end (by kernel_rfl) (.inl (by kernel_rfl)) ?_
                    refine gx_block ?_
                    refine gx_then ?_
                    refine gc_region ?_
                    refine gl_op (op_rd rfl (rd_move rfl) ?_)
                    refine gl_op (op_rd rfl (by first | exact rd_addN (b := 1) rfl rfl (by omega) | exact rd_add rfl rfl (by omega) (by omega)) ?_)
                    refine gl_op (op_rd rfl (rd_assign rfl) ?_)
                    refine gl_nil ?_
                    refine gx_then ?_
                    exact gx_cut ((k + 1, (⟨y.u, y.v, y.low.set k ((gp y.low k).sub sc.step)⟩ : Up))) ⟨⟨by simp only; omega, by simp only; rw [updTo_succ, ← hy]; unfold updOne; rw [if_neg hin4], hyu, hyv, by simp [hyl]⟩, by simp only; omega⟩ ⟨rfl, rfl, rfl, rfl, rfl, rfl, rfl, rfl, rfl, rfl, rfl, rfl, rfl, rfl, trivial⟩ ⟨[1, 2, 3, 4, 5, 6, 7, 8], by decide, rfl⟩
                · skip
                  have hys : y = up := by rw [hy, show k = m + 1 by omega]; exact hup
                  rw [hys] at hyu hyv hyl
                  rw [hys]
                  refine gl_nil ?_
                  refine gx_then ?_
                  refine gc_cond_f rfl ?_
                  refine gc_exit ?_
                  refine gx_then_exit ?_
                  refine gx_then_exit ?_
                  refine gx_block_exit ?_
                  refine gx_then ?_
                  refine gc_region ?_
                  refine gl_op (op_rd rfl (rd_move rfl) ?_)
                  refine gl_op (op_rd rfl (rd_assign rfl) ?_)
                  refine gl_nil ?_
                  refine gx_block ?_
                  refine gx_then ?_
                  have nx1 : decide (((gn row sc.next : Nat) : Int) ≠ 0) = true → innerGo (tb.map PRow.ps) taken m row (f - 1 + 1) ⟨up.u, up.v, up.low, sc.way, (s.used ++ [s.at_]), sc.next⟩ = some x ∧ 1 ≤ gn row sc.next := by
                    intro h
                    have h := of_decide_eq_true h
                    rcases hfin2.out with ⟨h1, _⟩ | ⟨h1, f', hf, hg⟩
                    · exact absurd (by rw [h1]; rfl) h
                    · subst hf; exact ⟨hg, by omega⟩
                  have nx2 : decide (((gn row sc.next : Nat) : Int) ≠ 0) = false → (⟨up.u, up.v, up.low, sc.way, (s.used ++ [s.at_]), sc.next⟩ : Inn) = x := by
                    intro h
                    have h := of_decide_eq_false h
                    rcases hfin2.out with ⟨_, h2⟩ | ⟨h1, _⟩
                    · exact h2
                    · exact absurd (fun h3 => h1 (by omega)) h
                  have nm : (if decide (((gn row sc.next : Nat) : Int) ≠ 0) then f - 1 + 1 else 0) < (if ok then f + 1 else 0) := by
                    rw [hk74, if_pos rfl]
                    split
                    · rename_i h
                      have h := of_decide_eq_true h
                      rcases hfin2.out with ⟨h1, _⟩ | ⟨_, f', hf, _⟩
                      · exact absurd (by rw [h1]; rfl) h
                      · omega
                    · omega
                  refine gc_region ?_
                  refine gl_op (op_rd rfl (rd_move rfl) ?_)
                  refine gl_op (op_rd rfl (rd_move rfl) ?_)
                  refine gl_op (op_rd rfl (rd_indexRow1 6 rfl Try.underlying39 ty_3 rfl rfl (by omega) (by omega)) ?_)
                  refine gl_op (op_rd rfl (rd_load Try.underlying3 rfl rfl (ld_rowN 6 rfl (get_gn (by omega)))) ?_)
                  refine gl_op (op_rd rfl (rd_neq rfl rfl) ?_)
                  refine gl_op (op_rd rfl (rd_assign rfl) ?_)
                  refine gl_nil ?_
                  refine gx_then ?_
                  exact gx_cut ((f - 1, ⟨up.u, up.v, up.low, sc.way, (s.used ++ [s.at_]), sc.next⟩, es3 ++ [⟨natV s.at_, .agg #[], nb3⟩], nb3 + 1, decide (((gn row sc.next : Nat) : Int) ≠ 0))) ⟨⟨⟨nx1⟩, ⟨nx2⟩, hyu, hyv, hzw, hyl, hzwm, hzn, hkv2, ⟨fun _ => hznu.out (Nat.pos_iff_ne_zero.1 hat0)⟩⟩, nm⟩ ⟨rfl, rfl, rfl, rfl, rfl, rfl, rfl, rfl, rfl, rfl, rfl, rfl, rfl, trivial⟩ ⟨[0, 1, 3, 2, 5, 6, 7], by decide, rfl⟩
            · skip
              have hsx := hfin.out hk74
              rw [hsx] at hul2 hvl2 hwl2 hll3 hwm2 hat
              rw [hsx]
              refine gl_nil ?_
              refine gx_then ?_
              refine gc_cond_f rfl ?_
              refine gc_exit ?_
              refine gx_then_exit ?_
              refine gx_then_exit ?_
              refine gx_block_exit ?_
              refine gx_then ?_
              refine gc_block ?_
              refine gc_loopF (ι := Nat × List Nat × Nat) [(0, _), (1, _), (5, _), (6, _), (7, _), (8, _), (9, _), (10, _), (11, _), (12, _), (13, _)] [_, _, _, _, _, _] (fun j => flipGo x.way j.1 j.2.1 j.2.2 = some rowf ∧ j.2.1.length = m + 1 ∧ (∀ k, gn j.2.1 k ≤ tb.length) ∧ j.2.2 ≤ m) (fun j Fr0 => ((15, natV j.2.2) :: Fr0)) (fun j Fr0 => (.row 3 1 (some b46) (m + 1) (m + 1) (j.2.1.map natV) :: Fr0)) (fun j => j.1) (m + 2, row, x.at_) (⟨hflip, hrl2, hrn3, hat⟩) ⟨rfl, rfl, rfl, rfl, rfl, rfl, rfl, rfl, rfl, rfl, rfl, rfl, trivial⟩ ⟨[5, 0, 1, 2, 3, 4, 6], by decide, rfl⟩ ?_
              rintro ⟨f2, rw2, at2⟩ ⟨hfl, hrl3, hrn4, hat2⟩
              simp only at hfl hrl3 hrn4 hat2 ⊢
              refine gc_seq ?_
              refine gc_seq ?_
              refine gc_region ?_
              refine gl_op (op_rd rfl (rd_move rfl) ?_)
              refine gl_op (op_rd rfl (rd_neq rfl rfl) (gk_dec (fun h200 => ?_) (fun h200 => ?_)))
              · skip
                obtain ⟨f3, rfl⟩ : ∃ f3, f2 = f3 + 1 := by
                  cases f2 with
                  | zero => rw [flipGo, if_neg (by omega)] at hfl; cases hfl
                  | succ f => exact ⟨f, rfl⟩
                rw [flipGo, if_neg (by omega)] at hfl
                have hwa := hwm2 at2
                refine gl_nil ?_
                refine gx_then ?_
                refine gc_cond_t rfl ?_
                refine gc_skip ?_
                refine gx_then ?_
                refine gc_block ?_
                refine gc_drawP [0, 1, 2, 3, 4, 5, 6] false 14 rfl ?_
                refine ga_first 0 #[true, false, false, false, false, false, false, false, false, false, false, false, false, false, false, false] rfl rfl rfl rfl (by kernel_rfl) rfl ⟨[0, 1, 2, 3, 4, 5, 6], by decide, rfl⟩ (qt_rd (rd_move rfl)) ?_
                refine ga_first 1 #[true, true, false, false, false, false, false, false, false, false, false, false, false, false, false, false] rfl rfl rfl rfl (by kernel_rfl) rfl ⟨[0, 1, 2, 3, 4, 5, 6], by decide, rfl⟩ (qt_rd (rd_move rfl)) ?_
                refine ga_first 2 #[true, true, true, false, false, false, false, false, false, false, false, false, false, false, false, false] rfl rfl rfl rfl (by kernel_rfl) rfl ⟨[0, 1, 2, 3, 4, 5, 6], by decide, rfl⟩ (qt_rd (rd_move rfl)) ?_
                refine ga_first 3 #[true, true, true, true, false, false, false, false, false, false, false, false, false, false, false, false] rfl rfl rfl rfl (by kernel_rfl) rfl ⟨[0, 1, 2, 3, 4, 5, 6], by decide, rfl⟩ (qt_rd (rd_move rfl)) ?_
                refine ga_first 4 #[true, true, true, true, true, false, false, false, false, false, false, false, false, false, false, false] rfl rfl rfl rfl (by kernel_rfl) rfl ⟨[0, 1, 2, 3, 4, 5, 6], by decide, rfl⟩ (qt_rd (rd_move rfl)) ?_
                refine ga_first 5 #[true, true, true, true, true, true, false, false, false, false, false, false, false, false, false, false] rfl rfl rfl rfl (by kernel_rfl) rfl ⟨[0, 1, 2, 3, 4, 5, 6], by decide, rfl⟩ (qt_rd (rd_indexRow1 3 rfl Try.underlying39 ty_3 rfl rfl (by omega) (by omega))) ?_
                refine ga_first 6 #[true, true, true, true, true, true, true, false, false, false, false, false, false, false, false, false] rfl rfl rfl rfl (by kernel_rfl) rfl ⟨[0, 1, 2, 3, 4, 5, 6], by decide, rfl⟩ (qt_rd (rd_load Try.underlying3 rfl rfl (ld_rowN 3 rfl (get_gn (by omega))))) ?_
                refine ga_first 7 #[true, true, true, true, true, true, true, true, false, false, false, false, false, false, false, false] rfl rfl rfl rfl (by kernel_rfl) rfl ⟨[0, 1, 2, 3, 4, 5, 6], by decide, rfl⟩ (qt_rd (rd_indexRow1 0 rfl Try.underlying39 ty_3 rfl rfl (by omega) (by omega))) ?_
                refine ga_first 8 #[true, true, true, true, true, true, true, true, true, false, false, false, false, false, false, false] rfl rfl rfl rfl (by kernel_rfl) rfl ⟨[0, 1, 2, 3, 4, 5, 6], by decide, rfl⟩ (qt_rd (rd_load Try.underlying3 rfl rfl (ld_rowN 0 rfl (get_gn (by omega))))) ?_
                refine ga_firstT 9 #[true, true, true, true, true, true, true, true, true, true, false, false, false, false, false, false] rfl rfl rfl rfl (by kernel_rfl) rfl (fun _ => rd_move rfl) ?_
                refine ga_only 10 #[true, true, true, true, true, true, true, true, true, true, true, false, false, false, false, false] rfl rfl (by kernel_rfl) rfl (.inr ⟨[0, 1, 2, 3, 4, 5, 6], by decide, rfl⟩) (op_rd rfl (rd_move rfl) ?_)
                refine ga_only 11 #[true, true, true, true, true, true, true, true, true, true, true, true, false, false, false, false] rfl rfl (by kernel_rfl) rfl (.inr ⟨[0, 1, 2, 3, 4, 5, 6], by decide, rfl⟩) (op_rd rfl (rd_indexRow1 3 rfl Try.underlying39 ty_3 rfl rfl (by omega) (by omega)) ?_)
                refine ga_first 12 #[true, true, true, true, true, true, true, true, true, true, true, true, true, false, false, false] rfl rfl rfl rfl (by kernel_rfl) rfl ⟨[0, 1, 2, 3, 4, 5, 6], by decide, rfl⟩ (qt_rd (rd_load Try.underlying3 rfl rfl (ld_rowN 3 rfl (get_gn (by omega))))) ?_
                refine ga_first 13 #[true, true, true, true, true, true, true, true, true, true, true, true, true, true, false, false] rfl rfl rfl rfl (by kernel_rfl) rfl ⟨[0, 1, 2, 3, 4, 5, 6], by decide, rfl⟩ (qt_rd (rd_indexRow1 0 rfl Try.underlying39 ty_3 rfl rfl (by omega) (by omega))) ?_
                refine ga_only 14 #[true, true, true, true, true, true, true, true, true, true, true, true, true, true, true, false] rfl rfl (by kernel_rfl) rfl (.inr ⟨[0, 1, 2, 3, 4, 5, 6], by decide, rfl⟩) (op_storeRowE 0 ty_3 rfl rfl rfl rfl (by simp; omega) (setN rw2 at2 (gn rw2 (gn x.way at2))) (by first | rfl | (simp only [List.set_cons_succ, List.set_cons_zero]; exact rfl)) ?_)
                refine ga_only 15 #[true, true, true, true, true, true, true, true, true, true, true, true, true, true, true, true] rfl rfl (by kernel_rfl) rfl (.inl (by kernel_rfl)) (op_rd rfl (rd_assign rfl) ?_)
                refine ga_end (by kernel_rfl) (.inl (by kernel_rfl)) ?_
                refine gx_block ?_
                refine gx_then ?_
                exact gx_cut ((f3, rw2.set at2 (gn rw2 (gn x.way at2)), gn x.way at2)) ⟨⟨hfl, by simp [hrl3], fun k => by simp only; rw [gn_set (by omega)]; have := hrn4 k; have := hrn4 (gn x.way at2); split <;> omega, hwm2 at2⟩, by simp only; omega⟩ ⟨rfl, rfl, rfl, rfl, rfl, rfl, rfl, rfl, rfl, rfl, rfl, rfl, trivial⟩ ⟨[0, 1, 2, 3, 4, 5, 6], by decide, rfl⟩
              · skip
                have hrf : rw2 = rowf := by
                  cases f2 with
                  | zero => rw [flipGo, if_pos (by omega)] at hfl; exact Option.some.inj hfl
                  | succ f => rw [flipGo, if_pos (by omega)] at hfl; exact Option.some.inj hfl
                rw [hrf] at hrl3 hrn4
                rw [hrf]
                refine gl_nil ?_
                refine gx_then ?_
                refine gc_cond_f rfl ?_
                refine gc_exit ?_
                refine gx_then_exit ?_
                refine gx_then_exit ?_
                refine gx_block_exit ?_
                refine gx_block ?_
                refine gx_then ?_
                refine gc_region ?_
                refine gl_op (op_rd rfl (rd_move rfl) ?_)
                refine gl_op (op_rd rfl (by first | exact rd_addN (b := 1) rfl rfl (by omega) | exact rd_add rfl rfl (by omega) (by omega)) ?_)
                refine gl_op (op_rd rfl (rd_assign rfl) ?_)
                refine gl_nil ?_
                refine gx_then ?_
                exact gx_cut ((i + 1, ⟨x.u, x.v, rowf, x.way⟩, x.low, es3, nb3)) ⟨⟨by simp only; omega, by simp only; rw [show tb.length - (i + 1) = tb.length - i - 1 by omega]; exact hgo3, hul2, hvl2, hrl3, hwl2, hrn4, hwm2, hll3⟩, by simp only; omega⟩ ⟨rfl, rfl, rfl, rfl, rfl, rfl, rfl, rfl, rfl, rfl, rfl, trivial⟩ ⟨[1, 2, 0, 3, 4, 5, 6], by decide, rfl⟩
        · skip
          have hie : i = tb.length := by omega
          rw [hie, Nat.sub_self, outerGo] at hgo
          obtain rfl : (⟨ou, ov, orow, oway⟩ : Ou) = so := Option.some.inj hgo
          simp only at hres
          refine gl_nil ?_
          refine gx_then ?_
          refine gc_cond_f rfl ?_
          refine gc_exit ?_
          refine gx_then_exit ?_
          refine gx_then_exit ?_
          refine gx_block_exit ?_
          refine gx_then ?_
          refine gc_seq ?_
          refine gc_region ?_
          refine gl_op (op_rd rfl (rd_move rfl) ?_)
          refine gl_op (op_rd rfl (rd_lenSlice Try.underlying59 rfl) ?_)
          refine gl_op (op_makeSlice (tb.length) Try.underlying39 ty_3 rfl rfl rfl (by omega) (by omega) (by omega) (by omega) (fun b217 => ?_))
          refine gl_op (op_rd rfl (rd_assign rfl) ?_)
          refine gl_nil ?_
          refine gx_then ?_
          refine gc_seq ?_
          refine gc_region ?_
          refine gl_op (op_alloc ty_62 rfl rfl (fun b27 => ?_))
          refine gl_nil ?_
          refine gx_then ?_
          refine gc_seq ?_
          refine gc_seq ?_
          rw [made_one _ rfl, show (List.replicate tb.length (Value.int .i64 0)) = (List.replicate tb.length 0).map natV by simp]
          refine gc_region ?_
          refine gl_op (op_rd rfl (rd_assign rfl) ?_)
          refine gl_nil ?_
          refine gx_then ?_
          refine gc_block ?_
          refine gc_loopF (ι := Nat × (List Nat × Pr)) [(0, _), (5, _), (6, _), (9, _), (26, _), (27, _)] [_, _, _, _, _, _, _] (fun j => j.1 ≤ m ∧ j.2 = resTo (tb.map PRow.ps) orow tb.length j.1 ∧ j.2.1.length = tb.length) (fun j Fr0 => ((28, natV (j.1 + 1)) :: Fr0)) (fun j Fr0 => (.row 3 1 (some b217) tb.length tb.length (j.2.1.map natV) :: .blk b27 j.2.2.cells 62 :: Fr0)) (fun j => m - j.1) (0, (List.replicate tb.length 0, zeroP)) (⟨Nat.zero_le _, rfl, by simp⟩) ⟨rfl, rfl, rfl, rfl, rfl, rfl, rfl, trivial⟩ ⟨[1, 0, 2, 3, 4, 5, 6, 7, 8], by decide, rfl⟩ ?_
          rintro ⟨q, ol2, os⟩ ⟨hq, ho, hol⟩
          simp only at hq ho hol ⊢
          refine gc_seq ?_
          refine gc_seq ?_
          refine gc_region ?_
          refine gl_op (op_rd rfl (rd_move rfl) ?_)
          refine gl_op (op_rd rfl (rd_move rfl) ?_)
          refine gl_op (op_rd rfl (rd_leq rfl rfl) (gk_dec (fun hlt6 => ?_) (fun hlt6 => ?_)))
          · skip
            refine gl_nil ?_
            refine gx_then ?_
            refine gc_cond_t rfl ?_
            refine gc_skip ?_
            refine gx_then ?_
            refine gc_seq ?_
            refine gc_block ?_
            refine gc_seq ?_
            refine gc_region ?_
            refine gl_op (op_rd rfl (rd_move rfl) ?_)
            refine gl_op (op_rd rfl (rd_move rfl) ?_)
            refine gl_op (op_rd rfl (rd_indexRow1 4 rfl Try.underlying39 ty_3 rfl rfl (by omega) (by omega)) ?_)
            refine gl_op (op_rd rfl (rd_load Try.underlying3 rfl rfl (ld_rowN 4 rfl (get_gn (by omega)))) ?_)
            refine gl_op (op_rd rfl (rd_gtr rfl rfl) (gk_dec (fun h227 => ?_) (fun h227 => ?_)))
            · skip
              have h227b : 0 < gn orow (q + 1) := by omega
              have hrq := hrn (q + 1)
              obtain ⟨q1, hq1⟩ := get_some (show gn orow (q + 1) - 1 < tb.length by omega)
              have hq1m := hm q1 (List.mem_of_getElem? hq1)
              have hro1 := ht.r q1 (List.mem_of_getElem? hq1)
              refine gl_nil ?_
              refine gx_then ?_
              refine gc_cond_t rfl ?_
              refine gc_seq ?_
              refine gc_region ?_
              refine gl_op (op_rd rfl (rd_move rfl) ?_)
              refine gl_op (op_rd rfl (rd_move rfl) ?_)
              refine gl_op (op_rd rfl (rd_move rfl) ?_)
              refine gl_op (op_rd rfl (rd_indexRow1 4 rfl Try.underlying39 ty_3 rfl rfl (by omega) (by omega)) ?_)
              refine gl_op (op_rd rfl (rd_load Try.underlying3 rfl rfl (ld_rowN 4 rfl (get_gn (by omega)))) ?_)
              refine gl_op (op_rd rfl (by first | exact rd_subN (b := 1) rfl rfl (by omega) (by omega) | exact rd_sub rfl rfl (by omega) (by omega)) ?_)
              refine gl_op (op_rd rfl (rd_move rfl) ?_)
              refine gl_op (op_rd rfl (by first | exact rd_subN (b := 1) rfl rfl (by omega) (by omega) | exact rd_sub rfl rfl (by omega) (by omega)) ?_)
              refine gl_op (op_rd rfl (rd_indexRow1 0 rfl Try.underlying39 ty_3 rfl rfl (by omega) (by omega)) ?_)
              refine gl_op (op_storeRowE 0 ty_3 rfl rfl rfl rfl (by simp; omega) (setN ol2 (gn orow (q + 1) - 1) (q + 1 - 1)) (by first | rfl | (simp only [List.set_cons_succ, List.set_cons_zero]; exact rfl)) ?_)
              refine gl_nil ?_
              refine gx_then ?_
              refine gc_drawP [0, 1, 2, 3, 4, 5, 6, 7, 8] false 14 rfl ?_
              refine ga_first 0 #[true, false, false, false, false, false, false, false, false, false, false, false, false, false, false] rfl rfl rfl rfl (by kernel_rfl) rfl ⟨[0, 1, 2, 3, 4, 5, 6, 7, 8], by decide, rfl⟩ (qt_rd (rd_loadAgg Try.underlying62 rfl ty_62 rfl (by first | exact cs_blk 1 (off := 0) (k := 2) rfl rfl | exact cs_blk 8 (off := 0) (k := 2) rfl rfl | exact cs_old (by assumption) (by simp)) rfl)) ?_
              refine ga_first 1 #[true, true, false, false, false, false, false, false, false, false, false, false, false, false, false] rfl rfl rfl rfl (by kernel_rfl) rfl ⟨[0, 1, 2, 3, 4, 5, 6, 7, 8], by decide, rfl⟩ (qt_rd (rd_move rfl)) ?_
              refine ga_first 2 #[true, true, true, false, false, false, false, false, false, false, false, false, false, false, false] rfl rfl rfl rfl (by kernel_rfl) rfl ⟨[0, 1, 2, 3, 4, 5, 6, 7, 8], by decide, rfl⟩ (qt_rd (rd_move rfl)) ?_
              refine ga_first 3 #[true, true, true, true, false, false, false, false, false, false, false, false, false, false, false] rfl rfl rfl rfl (by kernel_rfl) rfl ⟨[0, 1, 2, 3, 4, 5, 6, 7, 8], by decide, rfl⟩ (qt_rd (rd_move rfl)) ?_
              refine ga_first 4 #[true, true, true, true, true, false, false, false, false, false, false, false, false, false, false] rfl rfl rfl rfl (by kernel_rfl) rfl ⟨[0, 1, 2, 3, 4, 5, 6, 7, 8], by decide, rfl⟩ (qt_rd (rd_indexRow1 4 rfl Try.underlying39 ty_3 rfl rfl (by omega) (by omega))) ?_
              refine ga_first 5 #[true, true, true, true, true, true, false, false, false, false, false, false, false, false, false] rfl rfl rfl rfl (by kernel_rfl) rfl ⟨[0, 1, 2, 3, 4, 5, 6, 7, 8], by decide, rfl⟩ (qt_rd (rd_load Try.underlying3 rfl rfl (ld_rowN 4 rfl (get_gn (by omega))))) ?_
              refine ga_first 6 #[true, true, true, true, true, true, true, false, false, false, false, false, false, false, false] rfl rfl rfl rfl (by kernel_rfl) rfl ⟨[0, 1, 2, 3, 4, 5, 6, 7, 8], by decide, rfl⟩ (qt_rd (by first | exact rd_subN (b := 1) rfl rfl (by omega) (by omega) | exact rd_sub rfl rfl (by omega) (by omega))) ?_
              refine ga_first 7 #[true, true, true, true, true, true, true, true, false, false, false, false, false, false, false] rfl rfl rfl rfl (by kernel_rfl) rfl ⟨[0, 1, 2, 3, 4, 5, 6, 7, 8], by decide, rfl⟩ (qt_rd (rd_indexOld1 ht.o Try.underlying59 ty_65 rfl rfl (by omega) (by omega))) ?_
              refine ga_first 8 #[true, true, true, true, true, true, true, true, true, false, false, false, false, false, false] rfl rfl rfl rfl (by kernel_rfl) rfl ⟨[0, 1, 2, 3, 4, 5, 6, 7, 8], by decide, rfl⟩ (qt_rd (rd_load Try.underlying65 rfl rfl (ld_slN ht.o (get_row hq1)))) ?_
              refine ga_first 9 #[true, true, true, true, true, true, true, true, true, true, false, false, false, false, false] rfl rfl rfl rfl (by kernel_rfl) rfl ⟨[0, 1, 2, 3, 4, 5, 6, 7, 8], by decide, rfl⟩ (qt_rd (rd_move rfl)) ?_
              refine ga_first 10 #[true, true, true, true, true, true, true, true, true, true, true, false, false, false, false] rfl rfl rfl rfl (by kernel_rfl) rfl ⟨[0, 1, 2, 3, 4, 5, 6, 7, 8], by decide, rfl⟩ (qt_rd (by first | exact rd_subN (b := 1) rfl rfl (by omega) (by omega) | exact rd_sub rfl rfl (by omega) (by omega))) ?_
              refine ga_first 11 #[true, true, true, true, true, true, true, true, true, true, true, true, false, false, false] rfl rfl rfl rfl (by kernel_rfl) rfl ⟨[0, 1, 2, 3, 4, 5, 6, 7, 8], by decide, rfl⟩ (qt_rd (rd_indexOld hro1 Try.underlying65 ty_62 rfl rfl (by omega) (by omega))) ?_
              refine ga_first 12 #[true, true, true, true, true, true, true, true, true, true, true, true, true, false, false] rfl rfl rfl rfl (by kernel_rfl) rfl ⟨[0, 1, 2, 3, 4, 5, 6, 7, 8], by decide, rfl⟩ (qt_rd (rd_loadAgg Try.underlying62 rfl ty_62 rfl (cs_slN hro1 (flat_drop_get Pr.cells 2 (fun _ => rfl) (gp_get (show q + 1 - 1 < q1.ps.length by omega)))) rfl)) ?_
              refine ga_first 13 #[true, true, true, true, true, true, true, true, true, true, true, true, true, true, false] rfl rfl rfl rfl (by kernel_rfl) rfl ⟨[0, 1, 2, 3, 4, 5, 6, 7, 8], by decide, rfl⟩ (qt_call (vf := []) (vc := []) rfl rfl Try.call32 (fun w1 ho => plus_ok os (gp q1.ps (q + 1 - 1)) w1) (by rintro _ _ ⟨h, _⟩; exact h)) ?_
              first | refine ga_only 14 #[true, true, true, true, true, true, true, true, true, true, true, true, true, true, true] rfl rfl (by kernel_rfl) rfl (.inr ⟨[0, 1, 2, 3, 4, 5, 6, 7, 8], by decide, rfl⟩) (op_storeAgg 1 ty_62 rfl rfl rfl rfl rfl rfl (by first | rfl | (simp only [List.set_cons_succ, List.set_cons_zero]; exact rfl)) ?_) | refine ga_only 14 #[true, true, true, true, true, true, true, true, true, true, true, true, true, true, true] rfl rfl (by kernel_rfl) rfl (.inr ⟨[0, 1, 2, 3, 4, 5, 6, 7, 8], by decide, rfl⟩) (op_storeAgg 8 ty_62 rfl rfl rfl rfl rfl rfl (by first | rfl | (simp only [List.set_cons_succ, List.set_cons_zero]; exact rfl)) ?_) | refine ga_only 14 #[true, true, true, true, true, true, true, true, true, true, true, true, true, true, true] rfl rfl (by kernel_rfl) rfl (.inr ⟨[0, 1, 2, 3, 4, 5, 6, 7, 8], by decide, rfl⟩) (op_storeRowAgg 0 ty_62 rfl rfl rfl rfl rfl (by simp; omega) (by first | rfl | (simp only [List.set_cons_succ, List.set_cons_zero]; exact rfl)) ?_) | refine ga_only 14 #[true, true, true, true, true, true, true, true, true, true, true, true, true, true, true] rfl rfl (by kernel_rfl) rfl (.inr ⟨[0, 1, 2, 3, 4, 5, 6, 7, 8], by decide, rfl⟩) (op_storeRowAgg 2 ty_62 rfl rfl rfl rfl rfl (by simp; omega) (by first | rfl | (simp only [List.set_cons_succ, List.set_cons_zero]; exact rfl)) ?_) | refine ga_only 14 #[true, true, true, true, true, true, true, true, true, true, true, true, true, true, true] rfl rfl (by kernel_rfl) rfl (.inr ⟨[0, 1, 2, 3, 4, 5, 6, 7, 8], by decide, rfl⟩) (op_storeRowAgg 3 ty_62 rfl rfl rfl rfl rfl (by simp; omega) (by first | rfl | (simp only [List.set_cons_succ, List.set_cons_zero]; exact rfl)) ?_) | refine ga_only 14 #[true, true, true, true, true, true, true, true, true, true, true, true, true, true, true] rfl rfl (by kernel_rfl) rfl (.inr ⟨[0, 1, 2, 3, 4, 5, 6, 7, 8], by decide, rfl⟩) (op_storeRowAgg 4 ty_62 rfl rfl rfl rfl rfl (by simp; omega) (by first | rfl | (simp only [List.set_cons_succ, List.set_cons_zero]; exact rfl)) ?_) | refine ga_only 14 #[true, true, true, true, true, true, true, true, true, true, true, true, true, true, true] rfl rfl (by kernel_rfl) rfl (.inr ⟨[0, 1, 2, 3, 4, 5, 6, 7, 8], by decide, rfl⟩) (op_storeRowAgg 5 ty_62 rfl rfl rfl rfl rfl (by simp; omega) (by first | rfl | (simp only [List.set_cons_succ, List.set_cons_zero]; exact rfl)) ?_) | refine ga_only 14 #[true, true, true, true, true, true, true, true, true, true, true, true, true, true, true] rfl rfl (by kernel_rfl) rfl (.inr ⟨[0, 1, 2, 3, 4, 5, 6, 7, 8], by decide, rfl⟩) (op_storeRowAgg 6 ty_62 rfl rfl rfl rfl rfl (by simp; omega) (by first | rfl | (simp only [List.set_cons_succ, List.set_cons_zero]; exact rfl)) ?_)
              refine ga_end (by kernel_rfl) (.inl (by kernel_rfl)) ?_
              refine gx_block ?_
              refine gx_then ?_
              refine gc_region ?_
              refine gl_op (op_rd rfl (rd_move rfl) ?_)
              refine gl_op (op_rd rfl (by first | exact rd_addN (b := 1) rfl rfl (by omega) | exact rd_add rfl rfl (by omega) (by omega)) ?_)
              refine gl_op (op_rd rfl (rd_assign rfl) ?_)
              refine gl_nil ?_
              refine gx_then ?_
              exact gx_cut ((q + 1, (ol2.set (gn orow (q + 1) - 1) (q + 1 - 1), os.add (gp q1.ps (q + 1 - 1))))) ⟨⟨by simp only; omega, by simp only; rw [resTo_succ, ← ho]; unfold resOne; simp only; rw [if_pos h227b, tbl_row hq1], by simp [hol]⟩, by simp only; omega⟩ ⟨rfl, rfl, rfl, rfl, rfl, rfl, rfl, trivial⟩ ⟨[0, 1, 2, 3, 4, 5, 6, 7, 8], by decide, rfl⟩
            · skip
              have h227b : ¬ 0 < gn orow (q + 1) := by omega
              refine gl_nil ?_
              refine gx_then ?_
              refine gc_cond_f rfl ?_
              refine gc_skip ?_
              refine gx_block ?_
              refine gx_then ?_
              refine gc_region ?_
              refine gl_op (op_rd rfl (rd_move rfl) ?_)
              refine gl_op (op_rd rfl (by first | exact rd_addN (b := 1) rfl rfl (by omega) | exact rd_add rfl rfl (by omega) (by omega)) ?_)
              refine gl_op (op_rd rfl (rd_assign rfl) ?_)
              refine gl_nil ?_
              refine gx_then ?_
              exact gx_cut ((q + 1, (ol2, os))) ⟨⟨by simp only; omega, by simp only; rw [resTo_succ, ← ho]; unfold resOne; simp only; rw [if_neg h227b], hol⟩, by simp only; omega⟩ ⟨rfl, rfl, rfl, rfl, rfl, rfl, rfl, trivial⟩ ⟨[0, 1, 2, 3, 4, 5, 6, 7, 8], by decide, rfl⟩
          · skip
            have hoe : (ol2, os) = (ol, sum) := by rw [ho, show q = m by omega]; exact hres
            cases hoe
            refine gl_nil ?_
            refine gx_then ?_
            refine gc_cond_f rfl ?_
            refine gc_exit ?_
            refine gx_then_exit ?_
            refine gx_then_exit ?_
            refine gx_block_exit ?_
            refine gx_then ?_
            refine gc_seq ?_
            refine gc_drawP [0, 1, 2, 3, 4, 5, 6, 7, 8] false 3 rfl ?_
            refine ga_first 0 #[true, false, false, false] rfl rfl rfl rfl (by kernel_rfl) rfl ⟨[0, 1, 2, 3, 4, 5, 6, 7, 8], by decide, rfl⟩ (qt_rd (rd_move rfl)) ?_
            refine ga_first 1 #[true, true, false, false] rfl rfl rfl rfl (by kernel_rfl) rfl ⟨[0, 1, 2, 3, 4, 5, 6, 7, 8], by decide, rfl⟩ (qt_rd (rd_loadAgg Try.underlying62 rfl ty_62 rfl (by first | exact cs_blk 1 (off := 0) (k := 2) rfl rfl | exact cs_blk 8 (off := 0) (k := 2) rfl rfl | exact cs_old (by assumption) (by simp)) rfl)) ?_
            refine ga_first 2 #[true, true, true, false] rfl rfl rfl rfl (by kernel_rfl) rfl ⟨[0, 1, 2, 3, 4, 5, 6, 7, 8], by decide, rfl⟩ (qt_rd (rd_assign rfl)) ?_
            first | refine ga_only 3 #[true, true, true, true] rfl rfl (by kernel_rfl) rfl (.inr ⟨[0, 1, 2, 3, 4, 5, 6, 7, 8], by decide, rfl⟩) (op_storeAgg 1 ty_62 rfl rfl rfl rfl rfl rfl (by first | rfl | (simp only [List.set_cons_succ, List.set_cons_zero]; exact rfl)) ?_) | refine ga_only 3 #[true, true, true, true] rfl rfl (by kernel_rfl) rfl (.inr ⟨[0, 1, 2, 3, 4, 5, 6, 7, 8], by decide, rfl⟩) (op_storeAgg 8 ty_62 rfl rfl rfl rfl rfl rfl (by first | rfl | (simp only [List.set_cons_succ, List.set_cons_zero]; exact rfl)) ?_) | refine ga_only 3 #[true, true, true, true] rfl rfl (by kernel_rfl) rfl (.inr ⟨[0, 1, 2, 3, 4, 5, 6, 7, 8], by decide, rfl⟩) (op_storeRowAgg 0 ty_62 rfl rfl rfl rfl rfl (by simp; omega) (by first | rfl | (simp only [List.set_cons_succ, List.set_cons_zero]; exact rfl)) ?_) | refine ga_only 3 #[true, true, true, true] rfl rfl (by kernel_rfl) rfl (.inr ⟨[0, 1, 2, 3, 4, 5, 6, 7, 8], by decide, rfl⟩) (op_storeRowAgg 2 ty_62 rfl rfl rfl rfl rfl (by simp; omega) (by first | rfl | (simp only [List.set_cons_succ, List.set_cons_zero]; exact rfl)) ?_) | refine ga_only 3 #[true, true, true, true] rfl rfl (by kernel_rfl) rfl (.inr ⟨[0, 1, 2, 3, 4, 5, 6, 7, 8], by decide, rfl⟩) (op_storeRowAgg 3 ty_62 rfl rfl rfl rfl rfl (by simp; omega) (by first | rfl | (simp only [List.set_cons_succ, List.set_cons_zero]; exact rfl)) ?_) | refine ga_only 3 #[true, true, true, true] rfl rfl (by kernel_rfl) rfl (.inr ⟨[0, 1, 2, 3, 4, 5, 6, 7, 8], by decide, rfl⟩) (op_storeRowAgg 4 ty_62 rfl rfl rfl rfl rfl (by simp; omega) (by first | rfl | (simp only [List.set_cons_succ, List.set_cons_zero]; exact rfl)) ?_) | refine ga_only 3 #[true, true, true, true] rfl rfl (by kernel_rfl) rfl (.inr ⟨[0, 1, 2, 3, 4, 5, 6, 7, 8], by decide, rfl⟩) (op_storeRowAgg 5 ty_62 rfl rfl rfl rfl rfl (by simp; omega) (by first | rfl | (simp only [List.set_cons_succ, List.set_cons_zero]; exact rfl)) ?_) | refine ga_only 3 #[true, true, true, true] rfl rfl (by kernel_rfl) rfl (.inr ⟨[0, 1, 2, 3, 4, 5, 6, 7, 8], by decide, rfl⟩) (op_storeRowAgg 6 ty_62 rfl rfl rfl rfl rfl (by simp; omega) (by first | rfl | (simp only [List.set_cons_succ, List.set_cons_zero]; exact rfl)) ?_)
            refine ga_end (by kernel_rfl) (.inl (by kernel_rfl)) ?_
            refine gx_then ?_
            refine gc_ret ?_
            refine gx_retV2 (.inl rfl) Try.results30 (rv_tmp rfl) (rv_agg Try.underlying62 rfl ty_62 rfl (by rfl) (cs_blk 8 (off := 0) (k := 2) rfl rfl)) [0] (by decide) ?_
            exact ⟨some b217, ol.length, by rw [← hol]; exact ⟨rfl, rfl⟩⟩

end Go.Proofs.Yteiopfefmphhaaa
