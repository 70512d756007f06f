import Derived.Test.YthcbcdjkfefnlaaSc
import Derived.Test.YthcbcdjkfefnlaaSr
/- This text proves StoreNoneSaid: for all numbers and bytes StoreNone returns true, and its arguments read as before. -/
set_option linter.unusedSimpArgs false
set_option linter.unusedVariables false
set_option linter.unnecessarySimpa false
set_option autoImplicit false
set_option linter.unusedVariables false
namespace Go.Proofs.Ythcbcdjkfefnlaa
open Go.Gv
open Go.RowKit
open Iv
namespace Iv
section
variable {P : Program} {n : Nat} {e : Env} {w0 : World} {S : List Nat} {l : List HL} {dst : Option Tmp} {ty : TypeId} {pos : String} {aft : Array Edge} {gd : Option (Nat × Bool)} {x y : Operand} {t ty' : TypeId}
theorem rd_neqNilPt {E : TypeId} {a : Option Addr} (hgt : P.eqGuardType P.depth t = false) (hu : P.underlying t = some (.pointer E)) (hx : e.ev x = some (.pointer a)) (hy : e.ev y = some (.pointer none)) : Rd P n e w0 S l ⟨dst, .binOp .neq t x y ty', ty, pos, aft, gd⟩ (.bool (!a.isNone)) :=
  fun ac w hs ho => by
    have h := run_equalInPt (P := P) 9999 hu a w
    have h2 : (Op.equal t (.pointer a) (.pointer none)).run P w = .ok a.isNone w := h
    simp [execOp, hs.ev hx, hs.ev hy, eqGuard, binOp, hgt, h2]
end
/-- no flash, no store: nil, or not made -/
def NoP (w : World) (p : Option Addr) : Prop := p = none ∨ ∃ ad cs, p = some ad ∧ Cells w ad (.bool false :: cs)
theorem NoP.at {w0 w : World} {l : List HL} {p : Option Addr} (h : NoP w0 p) (ho : Own w0 [] w l) : NoP w p := by
  rcases h with h | ⟨ad, cs, h1, h2⟩
  · exact .inl h
  · exact .inr ⟨ad, cs, h1, h2.at ho⟩
end Iv

set_option maxRecDepth 100000 in
set_option maxHeartbeats 1000000 in
theorem none_no_nil (w0 : World)  : Sp Try.prog 37 [.pointer none] w0 [] (RV (.bool true)) := by
  refine spec_enter Try.func37 rfl Try.ntmps37 rfl (Own.refl _) ?_
  simp only [argEnv]
  refine gc_seq ?_
  refine gc_region ?_
  refine gl_op (op_rd rfl (rd_assign rfl) ?_)
  refine gl_nil ?_
  refine gx_then ?_
  refine gc_seq ?_
  refine gc_region ?_
  refine gl_op (op_rd rfl (rd_move rfl) ?_)
  refine gl_op (op_rd rfl (rd_eqlNilPt eg_25 Try.underlying25 rfl rfl) ?_)
  refine gl_op (op_rd rfl (rd_move rfl) ?_)
  refine gl_no rfl rfl rfl ?_
  refine gl_no rfl rfl rfl ?_
  refine gl_no rfl rfl rfl ?_
  refine gl_no rfl rfl rfl ?_
  refine gl_no rfl rfl rfl ?_
  refine gl_op (op_rd rfl (rd_pick_t rfl rfl) ?_)
  refine gl_op (op_rd rfl (rd_assign rfl) ?_)
  refine gl_nil ?_
  refine gx_then ?_
  refine gc_ret ?_
  refine gx_ret1 (.inl rfl) Try.results37 rfl [] (by decide) ?_
  exact ⟨rfl, rfl⟩

set_option maxRecDepth 100000 in
set_option maxHeartbeats 1000000 in
theorem none_no_zero (ad : Addr) (cs : List Value) (w0 : World) (hc : Cells w0 ad (.bool false :: cs))  : Sp Try.prog 37 [.pointer (some ad)] w0 [] (RV (.bool true)) := by
  refine spec_enter Try.func37 rfl Try.ntmps37 rfl (Own.refl _) ?_
  simp only [argEnv]
  refine gc_seq ?_
  refine gc_region ?_
  refine gl_op (op_rd rfl (rd_assign rfl) ?_)
  refine gl_nil ?_
  refine gx_then ?_
  refine gc_seq ?_
  refine gc_region ?_
  refine gl_op (op_rd rfl (rd_move rfl) ?_)
  refine gl_op (op_rd rfl (rd_eqlNilPt eg_25 Try.underlying25 rfl rfl) ?_)
  refine gl_op (op_rd rfl (rd_move rfl) ?_)
  refine gl_yes rfl rfl (op_rd rfl (rd_move rfl) ?_)
  refine gl_yes rfl rfl (op_rd rfl (rd_nilCheck rfl) ?_)
  refine gl_yes rfl rfl (op_rd rfl (rd_fieldAddr rfl (fa_72_0 _)) ?_)
  refine gl_yes rfl rfl (op_rd rfl (rd_load Try.underlying4 rfl rfl (ld_cells (j := 0) hc (by simp) rfl)) ?_)
  refine gl_yes rfl rfl (op_rd rfl (rd_not rfl) ?_)
  refine gl_op (op_rd rfl (rd_pick_f rfl rfl) ?_)
  refine gl_op (op_rd rfl (rd_assign rfl) ?_)
  refine gl_nil ?_
  refine gx_then ?_
  refine gc_ret ?_
  refine gx_ret1 (.inl rfl) Try.results37 rfl [] (by decide) ?_
  exact ⟨rfl, rfl⟩

theorem none_no (p : Option Addr) (w0 : World) (hp : NoP w0 p)  : Sp Try.prog 37 [.pointer p] w0 [] (RV (.bool true)) := by
  rcases hp with rfl | ⟨ad, cs, rfl, hc⟩
  · exact none_no_nil w0 
  · exact none_no_zero ad cs w0 hc 

set_option maxRecDepth 100000 in
set_option maxHeartbeats 1000000 in
theorem ready_no_nil (w0 : World)  : Sp Try.prog 41 [.pointer none] w0 [] (RV (.int .i64 1)) := by
  refine spec_enter Try.func41 rfl Try.ntmps41 rfl (Own.refl _) ?_
  simp only [argEnv]
  refine gc_seq ?_
  refine gc_region ?_
  refine gl_op (op_rd rfl (rd_assign rfl) ?_)
  refine gl_nil ?_
  refine gx_then ?_
  refine gc_seq ?_
  refine gc_block ?_
  refine gc_seq ?_
  refine gc_region ?_
  refine gl_op (op_rd rfl (rd_move rfl) ?_)
  refine gl_op (op_rd rfl (rd_eqlNilPt eg_29 Try.underlying29 rfl rfl) ?_)
  refine gl_op (op_rd rfl (rd_move rfl) ?_)
  refine gl_no rfl rfl rfl ?_
  refine gl_no rfl rfl rfl ?_
  refine gl_no rfl rfl rfl ?_
  refine gl_no rfl rfl rfl ?_
  refine gl_no rfl rfl rfl ?_
  refine gl_op (op_rd rfl (rd_pick_t rfl rfl) ?_)
  refine gl_op (op_rd rfl (rd_assign rfl) ?_)
  refine gl_nil ?_
  refine gx_then ?_
  refine gc_cond_t rfl ?_
  refine gc_seq ?_
  refine gc_region ?_
  refine gl_op (op_rd rfl (rd_assign rfl) ?_)
  refine gl_nil ?_
  refine gx_then ?_
  refine gc_ret ?_
  refine gx_block_ret ?_
  refine gx_then_ret ?_
  refine gx_ret1 (.inl rfl) Try.results41 rfl [] (by decide) ?_
  exact ⟨rfl, rfl⟩

set_option maxRecDepth 100000 in
set_option maxHeartbeats 1000000 in
theorem ready_no_zero (ad : Addr) (cs : List Value) (w0 : World) (hc : Cells w0 ad (.bool false :: cs))  : Sp Try.prog 41 [.pointer (some ad)] w0 [] (RV (.int .i64 1)) := by
  refine spec_enter Try.func41 rfl Try.ntmps41 rfl (Own.refl _) ?_
  simp only [argEnv]
  refine gc_seq ?_
  refine gc_region ?_
  refine gl_op (op_rd rfl (rd_assign rfl) ?_)
  refine gl_nil ?_
  refine gx_then ?_
  refine gc_seq ?_
  refine gc_block ?_
  refine gc_seq ?_
  refine gc_region ?_
  refine gl_op (op_rd rfl (rd_move rfl) ?_)
  refine gl_op (op_rd rfl (rd_eqlNilPt eg_29 Try.underlying29 rfl rfl) ?_)
  refine gl_op (op_rd rfl (rd_move rfl) ?_)
  refine gl_yes rfl rfl (op_rd rfl (rd_move rfl) ?_)
  refine gl_yes rfl rfl (op_rd rfl (rd_nilCheck rfl) ?_)
  refine gl_yes rfl rfl (op_rd rfl (rd_fieldAddr rfl (fa_81_0 _)) ?_)
  refine gl_yes rfl rfl (op_rd rfl (rd_load Try.underlying4 rfl rfl (ld_cells (j := 0) hc (by simp) rfl)) ?_)
  refine gl_yes rfl rfl (op_rd rfl (rd_not rfl) ?_)
  refine gl_op (op_rd rfl (rd_pick_f rfl rfl) ?_)
  refine gl_op (op_rd rfl (rd_assign rfl) ?_)
  refine gl_nil ?_
  refine gx_then ?_
  refine gc_cond_t rfl ?_
  refine gc_seq ?_
  refine gc_region ?_
  refine gl_op (op_rd rfl (rd_assign rfl) ?_)
  refine gl_nil ?_
  refine gx_then ?_
  refine gc_ret ?_
  refine gx_block_ret ?_
  refine gx_then_ret ?_
  refine gx_ret1 (.inl rfl) Try.results41 rfl [] (by decide) ?_
  exact ⟨rfl, rfl⟩

theorem ready_no (p : Option Addr) (w0 : World) (hp : NoP w0 p)  : Sp Try.prog 41 [.pointer p] w0 [] (RV (.int .i64 1)) := by
  rcases hp with rfl | ⟨ad, cs, rfl, hc⟩
  · exact ready_no_nil w0 
  · exact ready_no_zero ad cs w0 hc 

set_option maxRecDepth 100000 in
set_option maxHeartbeats 1000000 in
theorem Get_no_nil (w0 : World) (key : Int) : Sp Try.prog 12 [.pointer none, .int .i64 key] w0 [] (RV (.tuple #[.slice none 0 0, .int .i64 1])) := by
  refine spec_enter Try.func12 rfl Try.ntmps12 rfl (Own.refl _) ?_
  simp only [argEnv]
  refine gc_seq ?_
  refine gc_region ?_
  refine gl_op (op_rd rfl (rd_assign rfl) ?_)
  refine gl_op (op_rd rfl (rd_assign rfl) ?_)
  refine gl_nil ?_
  refine gx_then ?_
  refine gc_seq ?_
  refine gc_seq ?_
  refine gc_region ?_
  refine gl_op (op_rd rfl (rd_move rfl) ?_)
  refine gl_op (op_rd rfl (rd_eqlNilPt eg_29 Try.underlying29 rfl rfl) ?_)
  refine gl_op (op_rd rfl (rd_move rfl) ?_)
  refine gl_no rfl rfl rfl ?_
  refine gl_no rfl rfl rfl ?_
  refine gl_no rfl rfl rfl ?_
  refine gl_no rfl rfl rfl ?_
  refine gl_no rfl rfl rfl ?_
  refine gl_op (op_rd rfl (rd_pick_t rfl rfl) ?_)
  refine gl_nil ?_
  refine gx_then ?_
  refine gc_cond_t rfl ?_
  refine gc_seq ?_
  refine gc_region ?_
  refine gl_op (op_rd rfl (rd_assign rfl) ?_)
  refine gl_op (op_rd rfl (rd_assign rfl) ?_)
  refine gl_nil ?_
  refine gx_then ?_
  refine gc_ret ?_
  refine gx_then_ret ?_
  refine gx_ret2 (.inl rfl) Try.results12 rfl rfl [] (by decide) ?_
  exact ⟨rfl, rfl⟩

set_option maxRecDepth 100000 in
set_option maxHeartbeats 1000000 in
theorem Get_no_zero (ad : Addr) (cs : List Value) (w0 : World) (hc : Cells w0 ad (.bool false :: cs)) (key : Int) : Sp Try.prog 12 [.pointer (some ad), .int .i64 key] w0 [] (RV (.tuple #[.slice none 0 0, .int .i64 1])) := by
  refine spec_enter Try.func12 rfl Try.ntmps12 rfl (Own.refl _) ?_
  simp only [argEnv]
  refine gc_seq ?_
  refine gc_region ?_
  refine gl_op (op_rd rfl (rd_assign rfl) ?_)
  refine gl_op (op_rd rfl (rd_assign rfl) ?_)
  refine gl_nil ?_
  refine gx_then ?_
  refine gc_seq ?_
  refine gc_seq ?_
  refine gc_region ?_
  refine gl_op (op_rd rfl (rd_move rfl) ?_)
  refine gl_op (op_rd rfl (rd_eqlNilPt eg_29 Try.underlying29 rfl rfl) ?_)
  refine gl_op (op_rd rfl (rd_move rfl) ?_)
  refine gl_yes rfl rfl (op_rd rfl (rd_move rfl) ?_)
  refine gl_yes rfl rfl (op_rd rfl (rd_nilCheck rfl) ?_)
  refine gl_yes rfl rfl (op_rd rfl (rd_fieldAddr rfl (fa_81_0 _)) ?_)
  refine gl_yes rfl rfl (op_rd rfl (rd_load Try.underlying4 rfl rfl (ld_cells (j := 0) hc (by simp) rfl)) ?_)
  refine gl_yes rfl rfl (op_rd rfl (rd_not rfl) ?_)
  refine gl_op (op_rd rfl (rd_pick_f rfl rfl) ?_)
  refine gl_nil ?_
  refine gx_then ?_
  refine gc_cond_t rfl ?_
  refine gc_seq ?_
  refine gc_region ?_
  refine gl_op (op_rd rfl (rd_assign rfl) ?_)
  refine gl_op (op_rd rfl (rd_assign rfl) ?_)
  refine gl_nil ?_
  refine gx_then ?_
  refine gc_ret ?_
  refine gx_then_ret ?_
  refine gx_ret2 (.inl rfl) Try.results12 rfl rfl [] (by decide) ?_
  exact ⟨rfl, rfl⟩

theorem Get_no (p : Option Addr) (w0 : World) (hp : NoP w0 p) (key : Int) : Sp Try.prog 12 [.pointer p, .int .i64 key] w0 [] (RV (.tuple #[.slice none 0 0, .int .i64 1])) := by
  rcases hp with rfl | ⟨ad, cs, rfl, hc⟩
  · exact Get_no_nil w0 key
  · exact Get_no_zero ad cs w0 hc key

set_option maxRecDepth 100000 in
set_option maxHeartbeats 1000000 in
theorem Put_no_nil (w0 : World) (key : Int) (a : Option Addr) (m : Nat) (c : Nat) : Sp Try.prog 17 [.pointer none, .int .i64 key, .slice a m c] w0 [] (RV (.int .i64 1)) := by
  refine spec_enter Try.func17 rfl Try.ntmps17 rfl (Own.refl _) ?_
  simp only [argEnv]
  refine gc_seq ?_
  refine gc_region ?_
  refine gl_op (op_rd rfl (rd_assign rfl) ?_)
  refine gl_nil ?_
  refine gx_then ?_
  refine gc_seq ?_
  refine gc_seq ?_
  refine gc_region ?_
  refine gl_op (op_rd rfl (rd_move rfl) ?_)
  refine gl_op (op_rd rfl (rd_eqlNilPt eg_29 Try.underlying29 rfl rfl) ?_)
  refine gl_op (op_rd rfl (rd_move rfl) ?_)
  refine gl_no rfl rfl rfl ?_
  refine gl_no rfl rfl rfl ?_
  refine gl_no rfl rfl rfl ?_
  refine gl_no rfl rfl rfl ?_
  refine gl_no rfl rfl rfl ?_
  refine gl_op (op_rd rfl (rd_pick_t rfl rfl) ?_)
  refine gl_nil ?_
  refine gx_then ?_
  refine gc_cond_t rfl ?_
  refine gc_seq ?_
  refine gc_region ?_
  refine gl_op (op_rd rfl (rd_assign rfl) ?_)
  refine gl_nil ?_
  refine gx_then ?_
  refine gc_ret ?_
  refine gx_then_ret ?_
  refine gx_ret1 (.inl rfl) Try.results17 rfl [] (by decide) ?_
  exact ⟨rfl, rfl⟩

set_option maxRecDepth 100000 in
set_option maxHeartbeats 1000000 in
theorem Put_no_zero (ad : Addr) (cs : List Value) (w0 : World) (hc : Cells w0 ad (.bool false :: cs)) (key : Int) (a : Option Addr) (m : Nat) (c : Nat) : Sp Try.prog 17 [.pointer (some ad), .int .i64 key, .slice a m c] w0 [] (RV (.int .i64 1)) := by
  refine spec_enter Try.func17 rfl Try.ntmps17 rfl (Own.refl _) ?_
  simp only [argEnv]
  refine gc_seq ?_
  refine gc_region ?_
  refine gl_op (op_rd rfl (rd_assign rfl) ?_)
  refine gl_nil ?_
  refine gx_then ?_
  refine gc_seq ?_
  refine gc_seq ?_
  refine gc_region ?_
  refine gl_op (op_rd rfl (rd_move rfl) ?_)
  refine gl_op (op_rd rfl (rd_eqlNilPt eg_29 Try.underlying29 rfl rfl) ?_)
  refine gl_op (op_rd rfl (rd_move rfl) ?_)
  refine gl_yes rfl rfl (op_rd rfl (rd_move rfl) ?_)
  refine gl_yes rfl rfl (op_rd rfl (rd_nilCheck rfl) ?_)
  refine gl_yes rfl rfl (op_rd rfl (rd_fieldAddr rfl (fa_81_0 _)) ?_)
  refine gl_yes rfl rfl (op_rd rfl (rd_load Try.underlying4 rfl rfl (ld_cells (j := 0) hc (by simp) rfl)) ?_)
  refine gl_yes rfl rfl (op_rd rfl (rd_not rfl) ?_)
  refine gl_op (op_rd rfl (rd_pick_f rfl rfl) ?_)
  refine gl_nil ?_
  refine gx_then ?_
  refine gc_cond_t rfl ?_
  refine gc_seq ?_
  refine gc_region ?_
  refine gl_op (op_rd rfl (rd_assign rfl) ?_)
  refine gl_nil ?_
  refine gx_then ?_
  refine gc_ret ?_
  refine gx_then_ret ?_
  refine gx_ret1 (.inl rfl) Try.results17 rfl [] (by decide) ?_
  exact ⟨rfl, rfl⟩

theorem Put_no (p : Option Addr) (w0 : World) (hp : NoP w0 p) (key : Int) (a : Option Addr) (m : Nat) (c : Nat) : Sp Try.prog 17 [.pointer p, .int .i64 key, .slice a m c] w0 [] (RV (.int .i64 1)) := by
  rcases hp with rfl | ⟨ad, cs, rfl, hc⟩
  · exact Put_no_nil w0 key a m c
  · exact Put_no_zero ad cs w0 hc key a m c

set_option maxRecDepth 100000 in
set_option maxHeartbeats 1000000 in
theorem Blocks_no (p : Option Addr) (w0 : World) (hp : NoP w0 p)  : Sp Try.prog 33 [.pointer p] w0 [] (RV (natV 0)) := by
  refine spec_enter Try.func33 rfl Try.ntmps33 rfl (Own.refl _) ?_
  simp only [argEnv]
  refine gc_seq ?_
  refine gc_region ?_
  refine gl_op (op_rd rfl (rd_assign rfl) ?_)
  refine gl_nil ?_
  refine gx_then ?_
  refine gc_seq ?_
  refine gc_seq ?_
  refine gc_region ?_
  refine gl_op (op_rd rfl (rd_move rfl) ?_)
  refine gl_op (op_call rfl (vf := []) (vc := []) rfl rfl Try.call37 (fun w1 ho => none_no p w1 (hp.at ho)) ?_)
  rintro _ _ ⟨rfl, rfl⟩
  refine gl_nil ?_
  refine gx_then ?_
  refine gc_cond_t rfl ?_
  refine gc_seq ?_
  refine gc_region ?_
  refine gl_op (op_rd rfl (rd_assign rfl) ?_)
  refine gl_nil ?_
  refine gx_then ?_
  refine gc_ret ?_
  refine gx_then_ret ?_
  refine gx_ret1 (.inl rfl) Try.results33 rfl [] (by decide) ?_
  exact ⟨rfl, rfl⟩

set_option maxRecDepth 100000 in
set_option maxHeartbeats 1000000 in
theorem Counts_no (p : Option Addr) (w0 : World) (hp : NoP w0 p)  : Sp Try.prog 16 [.pointer p] w0 [] (RV (.tuple #[natV 0, natV 0])) := by
  refine spec_enter Try.func16 rfl Try.ntmps16 rfl (Own.refl _) ?_
  simp only [argEnv]
  refine gc_seq ?_
  refine gc_region ?_
  refine gl_op (op_rd rfl (rd_assign rfl) ?_)
  refine gl_op (op_rd rfl (rd_assign rfl) ?_)
  refine gl_nil ?_
  refine gx_then ?_
  refine gc_seq ?_
  refine gc_seq ?_
  refine gc_region ?_
  refine gl_op (op_rd rfl (rd_move rfl) ?_)
  refine gl_op (op_call rfl (vf := []) (vc := []) rfl rfl Try.call37 (fun w1 ho => none_no p w1 (hp.at ho)) ?_)
  rintro _ _ ⟨rfl, rfl⟩
  refine gl_nil ?_
  refine gx_then ?_
  refine gc_cond_t rfl ?_
  refine gc_seq ?_
  refine gc_region ?_
  refine gl_op (op_rd rfl (rd_assign rfl) ?_)
  refine gl_op (op_rd rfl (rd_assign rfl) ?_)
  refine gl_nil ?_
  refine gx_then ?_
  refine gc_ret ?_
  refine gx_then_ret ?_
  refine gx_ret2 (.inl rfl) Try.results16 rfl rfl [] (by decide) ?_
  exact ⟨rfl, rfl⟩

set_option maxRecDepth 100000 in
set_option maxHeartbeats 1000000 in
theorem Down_no (p : Option Addr) (w0 : World) (hp : NoP w0 p)  : Sp Try.prog 20 [.pointer p] w0 [] (RV (.bool false)) := by
  refine spec_enter Try.func20 rfl Try.ntmps20 rfl (Own.refl _) ?_
  simp only [argEnv]
  refine gc_seq ?_
  refine gc_region ?_
  refine gl_op (op_rd rfl (rd_assign rfl) ?_)
  refine gl_nil ?_
  refine gx_then ?_
  refine gc_seq ?_
  refine gc_region ?_
  refine gl_op (op_rd rfl (rd_move rfl) ?_)
  refine gl_op (op_call rfl (vf := []) (vc := []) rfl rfl Try.call37 (fun w1 ho => none_no p w1 (hp.at ho)) ?_)
  rintro _ _ ⟨rfl, rfl⟩
  refine gl_op (op_rd rfl (rd_not rfl) ?_)
  refine gl_op (op_rd rfl (rd_move rfl) ?_)
  refine gl_no rfl rfl rfl ?_
  refine gl_no rfl rfl rfl ?_
  refine gl_no rfl rfl rfl ?_
  refine gl_no rfl rfl rfl ?_
  refine gl_op (op_rd rfl (rd_pick_f rfl rfl) ?_)
  refine gl_op (op_rd rfl (rd_assign rfl) ?_)
  refine gl_nil ?_
  refine gx_then ?_
  refine gc_ret ?_
  refine gx_ret1 (.inl rfl) Try.results20 rfl [] (by decide) ?_
  exact ⟨rfl, rfl⟩

set_option maxRecDepth 100000 in
set_option maxHeartbeats 1000000 in
theorem begins_no (p : Option Addr) (w0 : World) (hp : NoP w0 p) (a b : Int) : Sp Try.prog 54 [.pointer p, .int .i64 a, .int .i64 b] w0 [] (RV (.int .i64 1)) := by
  refine spec_enter Try.func54 rfl Try.ntmps54 rfl (Own.refl _) ?_
  simp only [argEnv]
  refine gc_seq ?_
  refine gc_region ?_
  refine gl_op (op_rd rfl (rd_assign rfl) ?_)
  refine gl_nil ?_
  refine gx_then ?_
  refine gc_seq ?_
  refine gc_block ?_
  refine gc_seq ?_
  refine gc_region ?_
  refine gl_op (op_rd rfl (rd_move rfl) ?_)
  refine gl_op (op_call rfl (vf := []) (vc := []) rfl rfl Try.call37 (fun w1 ho => none_no p w1 (hp.at ho)) ?_)
  rintro _ _ ⟨rfl, rfl⟩
  refine gl_op (op_rd rfl (rd_assign rfl) ?_)
  refine gl_nil ?_
  refine gx_then ?_
  refine gc_cond_t rfl ?_
  refine gc_seq ?_
  refine gc_region ?_
  refine gl_op (op_rd rfl (rd_assign rfl) ?_)
  refine gl_nil ?_
  refine gx_then ?_
  refine gc_ret ?_
  refine gx_block_ret ?_
  refine gx_then_ret ?_
  refine gx_ret1 (.inl rfl) Try.results54 rfl [] (by decide) ?_
  exact ⟨rfl, rfl⟩

set_option maxRecDepth 100000 in
set_option maxHeartbeats 1000000 in
theorem Program_no (p : Option Addr) (w0 : World) (hp : NoP w0 p) (a : Int) (u : Nat) : Sp Try.prog 25 [.pointer p, .int .i64 a, .int .u8 (u : Int)] w0 [] (RV (.int .i64 1)) := by
  refine spec_enter Try.func25 rfl Try.ntmps25 rfl (Own.refl _) ?_
  simp only [argEnv]
  refine gc_seq ?_
  refine gc_region ?_
  refine gl_op (op_rd rfl (rd_assign rfl) ?_)
  refine gl_nil ?_
  refine gx_then ?_
  refine gc_seq ?_
  refine gc_seq ?_
  refine gc_region ?_
  refine gl_op (op_rd rfl (rd_move rfl) ?_)
  refine gl_op (op_rd rfl (rd_move rfl) ?_)
  refine gl_op (op_rd rfl (rd_move rfl) ?_)
  refine gl_op (op_call rfl (vf := []) (vc := []) rfl rfl Try.call33 (fun w1 ho => Blocks_no p w1 (hp.at ho)) ?_)
  rintro _ _ ⟨rfl, rfl⟩
  refine gl_op (op_rd rfl (by first | exact rd_mulN (b := 256) rfl rfl (by omega) | exact rd_mul rfl rfl (by omega) (by omega)) ?_)
  refine gl_op (op_call rfl (vf := []) (vc := []) rfl rfl Try.call54 (fun w1 ho => begins_no p w1 (hp.at ho) a ((0 * 256 : Nat) : Int)) ?_)
  rintro _ _ ⟨rfl, rfl⟩
  refine gl_op (op_rd rfl (rd_assign rfl) ?_)
  refine gl_nil ?_
  refine gx_then ?_
  refine gc_seq ?_
  refine gc_region ?_
  refine gl_op (op_rd rfl (rd_move rfl) ?_)
  refine gl_op (op_rd rfl (rd_neq rfl rfl) (gk_dec (fun h15 => ?_) (fun h15 => ?_)))
  · skip
    refine gl_nil ?_
    refine gx_then ?_
    refine gc_cond_t rfl ?_
    refine gc_seq ?_
    refine gc_region ?_
    refine gl_op (op_rd rfl (rd_move rfl) ?_)
    refine gl_op (op_rd rfl (rd_assign rfl) ?_)
    refine gl_nil ?_
    refine gx_then ?_
    refine gc_ret ?_
    refine gx_then_ret ?_
    refine gx_ret1 (.inl rfl) Try.results25 rfl [] (by decide) ?_
    exact ⟨rfl, rfl⟩
  · skip
    exfalso; omega

set_option maxRecDepth 100000 in
set_option maxHeartbeats 1000000 in
theorem Erase_no (p : Option Addr) (w0 : World) (hp : NoP w0 p) (a : Int) : Sp Try.prog 27 [.pointer p, .int .i64 a] w0 [] (RV (.int .i64 1)) := by
  refine spec_enter Try.func27 rfl Try.ntmps27 rfl (Own.refl _) ?_
  simp only [argEnv]
  refine gc_seq ?_
  refine gc_region ?_
  refine gl_op (op_rd rfl (rd_assign rfl) ?_)
  refine gl_nil ?_
  refine gx_then ?_
  refine gc_seq ?_
  refine gc_seq ?_
  refine gc_region ?_
  refine gl_op (op_rd rfl (rd_move rfl) ?_)
  refine gl_op (op_rd rfl (rd_move rfl) ?_)
  refine gl_op (op_rd rfl (rd_move rfl) ?_)
  refine gl_op (op_call rfl (vf := []) (vc := []) rfl rfl Try.call33 (fun w1 ho => Blocks_no p w1 (hp.at ho)) ?_)
  rintro _ _ ⟨rfl, rfl⟩
  refine gl_op (op_call rfl (vf := []) (vc := []) rfl rfl Try.call54 (fun w1 ho => begins_no p w1 (hp.at ho) a ((0 : Nat) : Int)) ?_)
  rintro _ _ ⟨rfl, rfl⟩
  refine gl_op (op_rd rfl (rd_assign rfl) ?_)
  refine gl_nil ?_
  refine gx_then ?_
  refine gc_seq ?_
  refine gc_region ?_
  refine gl_op (op_rd rfl (rd_move rfl) ?_)
  refine gl_op (op_rd rfl (rd_neq rfl rfl) (gk_dec (fun h14 => ?_) (fun h14 => ?_)))
  · skip
    refine gl_nil ?_
    refine gx_then ?_
    refine gc_cond_t rfl ?_
    refine gc_seq ?_
    refine gc_region ?_
    refine gl_op (op_rd rfl (rd_move rfl) ?_)
    refine gl_op (op_rd rfl (rd_assign rfl) ?_)
    refine gl_nil ?_
    refine gx_then ?_
    refine gc_ret ?_
    refine gx_then_ret ?_
    refine gx_ret1 (.inl rfl) Try.results27 rfl [] (by decide) ?_
    exact ⟨rfl, rfl⟩
  · skip
    exfalso; omega

set_option maxRecDepth 100000 in
set_option maxHeartbeats 1000000 in
theorem Read_no (p : Option Addr) (w0 : World) (hp : NoP w0 p) (a : Int) : Sp Try.prog 31 [.pointer p, .int .i64 a] w0 [] (RV (.tuple #[.int .u8 0, .int .i64 1])) := by
  refine spec_enter Try.func31 rfl Try.ntmps31 rfl (Own.refl _) ?_
  simp only [argEnv]
  refine gc_seq ?_
  refine gc_region ?_
  refine gl_op (op_rd rfl (rd_assign rfl) ?_)
  refine gl_op (op_rd rfl (rd_assign rfl) ?_)
  refine gl_nil ?_
  refine gx_then ?_
  refine gc_seq ?_
  refine gc_seq ?_
  refine gc_region ?_
  refine gl_op (op_rd rfl (rd_move rfl) ?_)
  refine gl_op (op_rd rfl (rd_move rfl) ?_)
  refine gl_op (op_rd rfl (rd_move rfl) ?_)
  refine gl_op (op_call rfl (vf := []) (vc := []) rfl rfl Try.call33 (fun w1 ho => Blocks_no p w1 (hp.at ho)) ?_)
  rintro _ _ ⟨rfl, rfl⟩
  refine gl_op (op_rd rfl (by first | exact rd_mulN (b := 256) rfl rfl (by omega) | exact rd_mul rfl rfl (by omega) (by omega)) ?_)
  refine gl_op (op_call rfl (vf := []) (vc := []) rfl rfl Try.call54 (fun w1 ho => begins_no p w1 (hp.at ho) a ((0 * 256 : Nat) : Int)) ?_)
  rintro _ _ ⟨rfl, rfl⟩
  refine gl_op (op_rd rfl (rd_assign rfl) ?_)
  refine gl_nil ?_
  refine gx_then ?_
  refine gc_seq ?_
  refine gc_region ?_
  refine gl_op (op_rd rfl (rd_move rfl) ?_)
  refine gl_op (op_rd rfl (rd_neq rfl rfl) (gk_dec (fun h14 => ?_) (fun h14 => ?_)))
  · skip
    refine gl_nil ?_
    refine gx_then ?_
    refine gc_cond_t rfl ?_
    refine gc_seq ?_
    refine gc_region ?_
    refine gl_op (op_rd rfl (rd_move rfl) ?_)
    refine gl_op (op_rd rfl (rd_assign rfl) ?_)
    refine gl_op (op_rd rfl (rd_assign rfl) ?_)
    refine gl_nil ?_
    refine gx_then ?_
    refine gc_ret ?_
    refine gx_then_ret ?_
    refine gx_ret2 (.inl rfl) Try.results31 rfl rfl [] (by decide) ?_
    exact ⟨rfl, rfl⟩
  · skip
    exfalso; omega

set_option maxRecDepth 100000 in
set_option maxHeartbeats 1000000 in
theorem Bytes_no (p : Option Addr) (w0 : World) (hp : NoP w0 p)  : Sp Try.prog 32 [.pointer p] w0 [] (RV (.tuple #[.slice none 0 0, .int .i64 1])) := by
  refine spec_enter Try.func32 rfl Try.ntmps32 rfl (Own.refl _) ?_
  simp only [argEnv]
  refine gc_seq ?_
  refine gc_region ?_
  refine gl_op (op_rd rfl (rd_assign rfl) ?_)
  refine gl_op (op_rd rfl (rd_assign rfl) ?_)
  refine gl_nil ?_
  refine gx_then ?_
  refine gc_seq ?_
  refine gc_seq ?_
  refine gc_region ?_
  refine gl_op (op_rd rfl (rd_move rfl) ?_)
  refine gl_op (op_call rfl (vf := []) (vc := []) rfl rfl Try.call54 (fun w1 ho => begins_no p w1 (hp.at ho) 0 1) ?_)
  rintro _ _ ⟨rfl, rfl⟩
  refine gl_op (op_rd rfl (rd_assign rfl) ?_)
  refine gl_nil ?_
  refine gx_then ?_
  refine gc_seq ?_
  refine gc_region ?_
  refine gl_op (op_rd rfl (rd_move rfl) ?_)
  refine gl_op (op_rd rfl (rd_neq rfl rfl) (gk_dec (fun h8 => ?_) (fun h8 => ?_)))
  · skip
    refine gl_nil ?_
    refine gx_then ?_
    refine gc_cond_t rfl ?_
    refine gc_seq ?_
    refine gc_region ?_
    refine gl_op (op_rd rfl (rd_move rfl) ?_)
    refine gl_op (op_rd rfl (rd_assign rfl) ?_)
    refine gl_op (op_rd rfl (rd_assign rfl) ?_)
    refine gl_nil ?_
    refine gx_then ?_
    refine gc_ret ?_
    refine gx_then_ret ?_
    refine gx_ret2 (.inl rfl) Try.results32 rfl rfl [] (by decide) ?_
    exact ⟨rfl, rfl⟩
  · skip
    exfalso; omega

set_option maxRecDepth 100000 in
set_option maxHeartbeats 1000000 in
theorem Fuse_no (p : Option Addr) (w0 : World) (hp : NoP w0 p) (n : Int) (a : Option Addr) (k c : Nat) : Sp Try.prog 19 [.pointer p, .int .i64 n, .slice a k c] w0 [] (RV (.int .i64 1)) := by
  refine spec_enter Try.func19 rfl Try.ntmps19 rfl (Own.refl _) ?_
  simp only [argEnv]
  refine gc_seq ?_
  refine gc_region ?_
  refine gl_op (op_rd rfl (rd_assign rfl) ?_)
  refine gl_nil ?_
  refine gx_then ?_
  refine gc_seq ?_
  refine gc_block ?_
  refine gc_seq ?_
  refine gc_region ?_
  refine gl_op (op_rd rfl (rd_move rfl) ?_)
  refine gl_op (op_call rfl (vf := []) (vc := []) rfl rfl Try.call37 (fun w1 ho => none_no p w1 (hp.at ho)) ?_)
  rintro _ _ ⟨rfl, rfl⟩
  refine gl_op (op_rd rfl (rd_assign rfl) ?_)
  refine gl_nil ?_
  refine gx_then ?_
  refine gc_cond_t rfl ?_
  refine gc_seq ?_
  refine gc_region ?_
  refine gl_op (op_rd rfl (rd_assign rfl) ?_)
  refine gl_nil ?_
  refine gx_then ?_
  refine gc_ret ?_
  refine gx_block_ret ?_
  refine gx_then_ret ?_
  refine gx_ret1 (.inl rfl) Try.results19 rfl [] (by decide) ?_
  exact ⟨rfl, rfl⟩

set_option maxRecDepth 100000 in
set_option maxHeartbeats 1000000 in
theorem Restart_no (p : Option Addr) (w0 : World) (hp : NoP w0 p)  : Sp Try.prog 21 [.pointer p] w0 [] (RV (.int .i64 1)) := by
  refine spec_enter Try.func21 rfl Try.ntmps21 rfl (Own.refl _) ?_
  simp only [argEnv]
  refine gc_seq ?_
  refine gc_region ?_
  refine gl_op (op_rd rfl (rd_assign rfl) ?_)
  refine gl_nil ?_
  refine gx_then ?_
  refine gc_seq ?_
  refine gc_seq ?_
  refine gc_region ?_
  refine gl_op (op_rd rfl (rd_move rfl) ?_)
  refine gl_op (op_call rfl (vf := []) (vc := []) rfl rfl Try.call37 (fun w1 ho => none_no p w1 (hp.at ho)) ?_)
  rintro _ _ ⟨rfl, rfl⟩
  refine gl_nil ?_
  refine gx_then ?_
  refine gc_cond_t rfl ?_
  refine gc_seq ?_
  refine gc_region ?_
  refine gl_op (op_rd rfl (rd_assign rfl) ?_)
  refine gl_nil ?_
  refine gx_then ?_
  refine gc_ret ?_
  refine gx_then_ret ?_
  refine gx_ret1 (.inl rfl) Try.results21 rfl [] (by decide) ?_
  exact ⟨rfl, rfl⟩

set_option maxRecDepth 100000 in
set_option maxHeartbeats 1000000 in
theorem Open_no (p : Option Addr) (w0 : World) (hp : NoP w0 p)  : Sp Try.prog 11 [.pointer p] w0 [] (RV (.tuple #[.pointer none, .int .i64 1])) := by
  refine spec_enter Try.func11 rfl Try.ntmps11 rfl (Own.refl _) ?_
  simp only [argEnv]
  refine gc_seq ?_
  refine gc_region ?_
  refine gl_op (op_rd rfl (rd_assign rfl) ?_)
  refine gl_op (op_rd rfl (rd_assign rfl) ?_)
  refine gl_nil ?_
  refine gx_then ?_
  refine gc_seq ?_
  refine gc_block ?_
  refine gc_seq ?_
  refine gc_region ?_
  refine gl_op (op_rd rfl (rd_move rfl) ?_)
  refine gl_op (op_call rfl (vf := []) (vc := []) rfl rfl Try.call37 (fun w1 ho => none_no p w1 (hp.at ho)) ?_)
  rintro _ _ ⟨rfl, rfl⟩
  refine gl_op (op_rd rfl (rd_assign rfl) ?_)
  refine gl_nil ?_
  refine gx_then ?_
  refine gc_cond_t rfl ?_
  refine gc_seq ?_
  refine gc_region ?_
  refine gl_op (op_rd rfl (rd_assign rfl) ?_)
  refine gl_op (op_rd rfl (rd_assign rfl) ?_)
  refine gl_nil ?_
  refine gx_then ?_
  refine gc_ret ?_
  refine gx_block_ret ?_
  refine gx_then_ret ?_
  refine gx_ret2 (.inl rfl) Try.results11 rfl rfl [] (by decide) ?_
  exact ⟨rfl, rfl⟩

set_option maxRecDepth 100000 in
set_option maxHeartbeats 1000000 in
theorem Keys_no (p : Option Addr) (w0 : World) (hp : NoP w0 p)  : Sp Try.prog 24 [.pointer p] w0 [] (RV (.tuple #[.slice none 0 0, .int .i64 1])) := by
  refine spec_enter Try.func24 rfl Try.ntmps24 rfl (Own.refl _) ?_
  simp only [argEnv]
  refine gc_seq ?_
  refine gc_region ?_
  refine gl_op (op_rd rfl (rd_assign rfl) ?_)
  refine gl_op (op_rd rfl (rd_assign rfl) ?_)
  refine gl_nil ?_
  refine gx_then ?_
  refine gc_seq ?_
  refine gc_seq ?_
  refine gc_region ?_
  refine gl_op (op_rd rfl (rd_move rfl) ?_)
  refine gl_op (op_call rfl (vf := []) (vc := []) rfl rfl Try.call41 (fun w1 ho => ready_no p w1 (hp.at ho)) ?_)
  rintro _ _ ⟨rfl, rfl⟩
  refine gl_op (op_rd rfl (rd_assign rfl) ?_)
  refine gl_nil ?_
  refine gx_then ?_
  refine gc_seq ?_
  refine gc_region ?_
  refine gl_op (op_rd rfl (rd_move rfl) ?_)
  refine gl_op (op_rd rfl (rd_neq rfl rfl) (gk_dec (fun h8 => ?_) (fun h8 => ?_)))
  · skip
    refine gl_nil ?_
    refine gx_then ?_
    refine gc_cond_t rfl ?_
    refine gc_seq ?_
    refine gc_region ?_
    refine gl_op (op_rd rfl (rd_move rfl) ?_)
    refine gl_op (op_rd rfl (rd_assign rfl) ?_)
    refine gl_op (op_rd rfl (rd_assign rfl) ?_)
    refine gl_nil ?_
    refine gx_then ?_
    refine gc_ret ?_
    refine gx_then_ret ?_
    refine gx_ret2 (.inl rfl) Try.results24 rfl rfl [] (by decide) ?_
    exact ⟨rfl, rfl⟩
  · skip
    exfalso; omega

set_option maxRecDepth 100000 in
set_option maxHeartbeats 1000000 in
theorem Room_no (p : Option Addr) (w0 : World) (hp : NoP w0 p)  : Sp Try.prog 34 [.pointer p] w0 [] (RV (.tuple #[.int .i64 0, .int .i64 1])) := by
  refine spec_enter Try.func34 rfl Try.ntmps34 rfl (Own.refl _) ?_
  simp only [argEnv]
  refine gc_seq ?_
  refine gc_region ?_
  refine gl_op (op_rd rfl (rd_assign rfl) ?_)
  refine gl_op (op_rd rfl (rd_assign rfl) ?_)
  refine gl_nil ?_
  refine gx_then ?_
  refine gc_seq ?_
  refine gc_seq ?_
  refine gc_region ?_
  refine gl_op (op_rd rfl (rd_move rfl) ?_)
  refine gl_op (op_call rfl (vf := []) (vc := []) rfl rfl Try.call41 (fun w1 ho => ready_no p w1 (hp.at ho)) ?_)
  rintro _ _ ⟨rfl, rfl⟩
  refine gl_op (op_rd rfl (rd_assign rfl) ?_)
  refine gl_nil ?_
  refine gx_then ?_
  refine gc_seq ?_
  refine gc_region ?_
  refine gl_op (op_rd rfl (rd_move rfl) ?_)
  refine gl_op (op_rd rfl (rd_neq rfl rfl) (gk_dec (fun h8 => ?_) (fun h8 => ?_)))
  · skip
    refine gl_nil ?_
    refine gx_then ?_
    refine gc_cond_t rfl ?_
    refine gc_seq ?_
    refine gc_region ?_
    refine gl_op (op_rd rfl (rd_move rfl) ?_)
    refine gl_op (op_rd rfl (rd_assign rfl) ?_)
    refine gl_op (op_rd rfl (rd_assign rfl) ?_)
    refine gl_nil ?_
    refine gx_then ?_
    refine gc_ret ?_
    refine gx_then_ret ?_
    refine gx_ret2 (.inl rfl) Try.results34 rfl rfl [] (by decide) ?_
    exact ⟨rfl, rfl⟩
  · skip
    exfalso; omega

namespace Iv
theorem noP_at {w : World} {l : List HL} {w0 : World} {S : List Nat} {b : Nat} {p : Option Addr} {cs : List Value} {t : TypeId} (ho : Own w0 S w l) (i : Nat) (hi : l[i]? = some (.blk b (.bool false :: cs) t)) (hp : p = none ∨ p = some ⟨b, 0, none⟩) : NoP w p := by
  rcases hp with h | h
  · exact .inl h
  · exact .inr ⟨_, cs, h, ho.blkCells i hi⟩
theorem two_at {b : Nat} {j : Nat} (hj : j < 2) : ∃ p : Option Addr, ([.pointer none, .pointer (some ⟨b, 0, none⟩)] : List Value)[j]? = some (.pointer p) ∧ (p = none ∨ p = some ⟨b, 0, none⟩) := by
  rcases (show j = 0 ∨ j = 1 by omega) with rfl | rfl
  · exact ⟨none, rfl, .inl rfl⟩
  · exact ⟨some ⟨b, 0, none⟩, rfl, .inr rfl⟩
end Iv

set_option maxRecDepth 100000 in
set_option maxHeartbeats 4000000 in
theorem StoreNone_ok (a1 a2 : Int) (vl : Nat) (pv : Option Addr) (cv : Nat) (w0 : World) (hvl : vl ≤ 140737488355328) : Sp Try.prog 7 [.int .i64 a1, .int .i64 a2, .slice pv vl cv] w0 [] (RV (.bool true)) := by
  refine spec_enter Try.func7 rfl Try.ntmps7 rfl (Own.refl _) ?_
  simp only [argEnv]
  refine gc_seq ?_
  refine gc_region ?_
  refine gl_op (op_rd rfl (rd_assign rfl) ?_)
  refine gl_nil ?_
  refine gx_then ?_
  refine gc_seq ?_
  refine gc_seq ?_
  refine gc_region ?_
  refine gl_op (op_rd rfl (rd_move rfl) ?_)
  refine gl_op (op_rd rfl (rd_lenSlice Try.underlying36 rfl) ?_)
  refine gl_op (op_rd rfl (rd_gtr rfl rfl) (gk_dec (fun h28 => ?_) (fun h28 => ?_)))
  · skip
    refine gl_nil ?_
    refine gx_then ?_
    refine gc_cond_t rfl ?_
    refine gc_seq ?_
    refine gc_region ?_
    refine gl_op (op_call rfl (vf := []) (vc := []) rfl rfl Try.call9 (fun w1 ho => shown_ok w1) ?_)
    rintro _ _ ⟨rfl, rfl⟩
    refine gl_op (op_rd rfl (rd_assign rfl) ?_)
    refine gl_nil ?_
    refine gx_then ?_
    refine gc_ret ?_
    refine gx_then_ret ?_
    refine gx_ret1 (.inl rfl) Try.results7 rfl [] (by decide) ?_
    exact ⟨rfl, rfl⟩
  · skip
    refine gl_nil ?_
    refine gx_then ?_
    refine gc_cond_f rfl ?_
    refine gc_skip ?_
    refine gx_then ?_
    refine gc_seq ?_
    refine gc_region ?_
    refine gl_op (op_rd rfl (rd_build rfl (fun _ => bd_72_)) ?_)
    refine gl_op (op_box rfl rfl rfl (fun b31 => ?_))
    refine gl_op (op_rd rfl (rd_build rfl (fun _ => bd_73_0_1 _ _)) ?_)
    refine gl_op (op_alloc ty_73 rfl rfl (fun b7 => ?_))
    first | refine gl_op (op_storeAgg 0 ty_73 rfl rfl rfl rfl rfl rfl (by first | rfl | (simp only [List.set_cons_succ, List.set_cons_zero]; exact rfl)) ?_) | refine gl_op (op_storeAgg 1 ty_73 rfl rfl rfl rfl rfl rfl (by first | rfl | (simp only [List.set_cons_succ, List.set_cons_zero]; exact rfl)) ?_)
    refine gl_nil ?_
    refine gx_then ?_
    refine gc_seq ?_
    refine gc_seq ?_
    refine gc_region ?_
    refine gl_op (op_rd rfl (rd_assign rfl) ?_)
    refine gl_nil ?_
    refine gx_then ?_
    refine gc_block ?_
    refine gc_loopF (ι := Nat) [(0, _), (1, _), (2, _), (7, _)] [_, _] (fun j => j ≤ 2) (fun j Fr0 => ((8, natV j) :: Fr0)) (fun j Fr0 => Fr0) (fun j => 2 - j) 0 (Nat.zero_le _) ⟨rfl, rfl, rfl, rfl, rfl, trivial⟩ ⟨[0, 1], by decide, rfl⟩ ?_
    rintro j hj
    refine gc_seq ?_
    refine gc_seq ?_
    refine gc_region ?_
    refine gl_op (op_rd rfl (rd_move rfl) ?_)
    refine gl_op (op_rd rfl (rd_lss rfl rfl) (gk_dec (fun h34 => ?_) (fun h34 => ?_)))
    · skip
      obtain ⟨p, hpv, hpp⟩ := two_at (b := b31) (show j < 2 by omega)
      refine gl_nil ?_
      refine gx_then ?_
      refine gc_cond_t rfl ?_
      refine gc_skip ?_
      refine gx_then ?_
      refine gc_seq ?_
      refine gc_block ?_
      refine gc_seq ?_
      refine gc_region ?_
      refine gl_op (op_rd rfl (rd_move rfl) ?_)
      refine gl_op (op_rd rfl (rd_indexArr Try.underlying73 ty_25 rfl rfl (by omega) (by omega)) ?_)
      rw [show (⟨b7, 0, none⟩ : Addr).add (j : Int).toNat = ⟨b7, j, none⟩ by rw [Addr.add_lit, Int.toNat_natCast, Nat.zero_add]]
      refine gl_op (op_rd rfl (rd_load Try.underlying25 rfl rfl (ld_blk 0 (off := j) rfl hpv)) ?_)
      refine gl_op (op_rd rfl (rd_assign rfl) ?_)
      refine gl_nil ?_
      refine gx_then ?_
      refine gc_seq ?_
      refine gc_region ?_
      refine gl_op (op_rd rfl (rd_move rfl) ?_)
      refine gl_op (op_rd rfl (rd_move rfl) ?_)
      refine gl_op (op_call rfl (vf := []) (vc := []) rfl rfl Try.call31 (fun w1 ho => Read_no p w1 (noP_at ho 1 rfl hpp) a1) ?_)
      rintro _ _ ⟨rfl, rfl⟩
      refine gl_op (op_rd rfl (rd_move rfl) ?_)
      refine gl_op (op_rd rfl (rd_extract rfl rfl) ?_)
      refine gl_op (op_rd rfl (rd_extract rfl rfl) ?_)
      refine gl_op (op_rd rfl (rd_assign rfl) ?_)
      refine gl_op (op_rd rfl (rd_assign rfl) ?_)
      refine gl_nil ?_
      refine gx_then ?_
      refine gc_seq ?_
      refine gc_region ?_
      refine gl_op (op_rd rfl (rd_move rfl) ?_)
      refine gl_op (op_call rfl (vf := []) (vc := []) rfl rfl Try.call32 (fun w1 ho => Bytes_no p w1 (noP_at ho 1 rfl hpp)) ?_)
      rintro _ _ ⟨rfl, rfl⟩
      refine gl_op (op_rd rfl (rd_move rfl) ?_)
      refine gl_op (op_rd rfl (rd_extract rfl rfl) ?_)
      refine gl_op (op_rd rfl (rd_extract rfl rfl) ?_)
      refine gl_op (op_rd rfl (rd_assign rfl) ?_)
      refine gl_op (op_rd rfl (rd_assign rfl) ?_)
      refine gl_nil ?_
      refine gx_then ?_
      refine gc_seq ?_
      refine gc_region ?_
      refine gl_op (op_rd rfl (rd_move rfl) ?_)
      refine gl_op (op_call rfl (vf := []) (vc := []) rfl rfl Try.call16 (fun w1 ho => Counts_no p w1 (noP_at ho 1 rfl hpp)) ?_)
      rintro _ _ ⟨rfl, rfl⟩
      refine gl_op (op_rd rfl (rd_move rfl) ?_)
      refine gl_op (op_rd rfl (rd_extract rfl rfl) ?_)
      refine gl_op (op_rd rfl (rd_extract rfl rfl) ?_)
      refine gl_op (op_rd rfl (rd_assign rfl) ?_)
      refine gl_op (op_rd rfl (rd_assign rfl) ?_)
      refine gl_nil ?_
      refine gx_then ?_
      refine gc_seq ?_
      refine gc_region ?_
      refine gl_op (op_rd rfl (rd_move rfl) ?_)
      refine gl_op (op_call rfl (vf := []) (vc := []) rfl rfl Try.call11 (fun w1 ho => Open_no p w1 (noP_at ho 1 rfl hpp)) ?_)
      rintro _ _ ⟨rfl, rfl⟩
      refine gl_op (op_rd rfl (rd_move rfl) ?_)
      refine gl_op (op_rd rfl (rd_extract rfl rfl) ?_)
      refine gl_op (op_rd rfl (rd_extract rfl rfl) ?_)
      refine gl_op (op_rd rfl (rd_assign rfl) ?_)
      refine gl_op (op_rd rfl (rd_assign rfl) ?_)
      refine gl_nil ?_
      refine gx_then ?_
      refine gc_seq ?_
      refine gc_region ?_
      refine gl_op (op_rd rfl (rd_move rfl) ?_)
      refine gl_op (op_rd rfl (rd_move rfl) ?_)
      refine gl_op (op_call rfl (vf := []) (vc := []) rfl rfl Try.call25 (fun w1 ho => Program_no p w1 (noP_at ho 1 rfl hpp) a1 1) ?_)
      rintro _ _ ⟨rfl, rfl⟩
      refine gl_op (op_rd rfl (rd_neq rfl rfl) (gk_dec (fun hd1 => ?_) (fun hd1 => ?_)))
      · skip
        exact absurd rfl (by assumption)
      · skip
        refine gl_op (op_rd rfl (rd_move rfl) ?_)
        refine gl_yes rfl rfl (op_rd rfl (rd_move rfl) ?_)
        refine gl_yes rfl rfl (op_rd rfl (rd_move rfl) ?_)
        refine gl_yes rfl rfl (op_call rfl (vf := []) (vc := []) rfl rfl Try.call27 (fun w1 ho => Erase_no p w1 (noP_at ho 1 rfl hpp) a1) ?_)
        rintro _ _ ⟨rfl, rfl⟩
        refine gl_yes rfl rfl (op_rd rfl (rd_neq rfl rfl) (gk_dec (fun hd2 => ?_) (fun hd2 => ?_)))
        · skip
          exact absurd rfl (by assumption)
        · skip
          refine gl_op (op_rd rfl (rd_pick_f rfl rfl) ?_)
          refine gl_op (op_rd rfl (rd_move rfl) ?_)
          refine gl_yes rfl rfl (op_rd rfl (rd_move rfl) ?_)
          refine gl_yes rfl rfl (op_rd rfl (rd_neq rfl rfl) (gk_dec (fun hd3 => ?_) (fun hd3 => ?_)))
          · skip
            exact absurd rfl (by assumption)
          · skip
            refine gl_op (op_rd rfl (rd_pick_f rfl rfl) ?_)
            refine gl_op (op_rd rfl (rd_move rfl) ?_)
            refine gl_yes rfl rfl (op_rd rfl (rd_move rfl) ?_)
            refine gl_yes rfl rfl (op_rd rfl (rd_neq rfl rfl) (gk_dec (fun hd4 => ?_) (fun hd4 => ?_)))
            · skip
              exact absurd rfl (by assumption)
            · skip
              refine gl_op (op_rd rfl (rd_pick_f rfl rfl) ?_)
              refine gl_op (op_rd rfl (rd_move rfl) ?_)
              refine gl_yes rfl rfl (op_rd rfl (rd_move rfl) ?_)
              refine gl_yes rfl rfl (op_rd rfl (rd_move rfl) ?_)
              refine gl_yes rfl rfl (op_rd rfl (rd_move rfl) ?_)
              refine gl_yes rfl rfl (op_call rfl (vf := []) (vc := []) rfl rfl Try.call19 (fun w1 ho => Fuse_no p w1 (noP_at ho 1 rfl hpp) a1 pv vl cv) ?_)
              rintro _ _ ⟨rfl, rfl⟩
              refine gl_yes rfl rfl (op_rd rfl (rd_neq rfl rfl) (gk_dec (fun hd5 => ?_) (fun hd5 => ?_)))
              · skip
                exact absurd rfl (by assumption)
              · skip
                refine gl_op (op_rd rfl (rd_pick_f rfl rfl) ?_)
                refine gl_op (op_rd rfl (rd_move rfl) ?_)
                refine gl_yes rfl rfl (op_rd rfl (rd_move rfl) ?_)
                refine gl_yes rfl rfl (op_call rfl (vf := []) (vc := []) rfl rfl Try.call21 (fun w1 ho => Restart_no p w1 (noP_at ho 1 rfl hpp)) ?_)
                rintro _ _ ⟨rfl, rfl⟩
                refine gl_yes rfl rfl (op_rd rfl (rd_neq rfl rfl) (gk_dec (fun hd6 => ?_) (fun hd6 => ?_)))
                · skip
                  exact absurd rfl (by assumption)
                · skip
                  refine gl_op (op_rd rfl (rd_pick_f rfl rfl) ?_)
                  refine gl_op (op_rd rfl (rd_move rfl) ?_)
                  refine gl_yes rfl rfl (op_rd rfl (rd_move rfl) ?_)
                  refine gl_yes rfl rfl (op_call rfl (vf := []) (vc := []) rfl rfl Try.call20 (fun w1 ho => Down_no p w1 (noP_at ho 1 rfl hpp)) ?_)
                  rintro _ _ ⟨rfl, rfl⟩
                  refine gl_op (op_rd rfl (rd_pick_f rfl rfl) ?_)
                  refine gl_op (op_rd rfl (rd_move rfl) ?_)
                  refine gl_yes rfl rfl (op_rd rfl (rd_move rfl) ?_)
                  refine gl_yes rfl rfl (op_call rfl (vf := []) (vc := []) rfl rfl Try.call33 (fun w1 ho => Blocks_no p w1 (noP_at ho 1 rfl hpp)) ?_)
                  rintro _ _ ⟨rfl, rfl⟩
                  refine gl_yes rfl rfl (op_rd rfl (rd_neq rfl rfl) (gk_dec (fun hd7 => ?_) (fun hd7 => ?_)))
                  · skip
                    exact absurd rfl (by assumption)
                  · skip
                    refine gl_op (op_rd rfl (rd_pick_f rfl rfl) ?_)
                    refine gl_op (op_rd rfl (rd_move rfl) ?_)
                    refine gl_yes rfl rfl (op_rd rfl (rd_move rfl) ?_)
                    refine gl_yes rfl rfl (op_rd rfl (rd_move rfl) ?_)
                    refine gl_yes rfl rfl (op_rd rfl (by first | exact rd_addN rfl rfl (by omega) | exact rd_add rfl rfl (by omega) (by omega)) ?_)
                    refine gl_yes rfl rfl (op_rd rfl (rd_neq rfl rfl) (gk_dec (fun hd8 => ?_) (fun hd8 => ?_)))
                    · skip
                      exact absurd rfl (by assumption)
                    · skip
                      refine gl_op (op_rd rfl (rd_pick_f rfl rfl) ?_)
                      refine gl_op (op_rd rfl (rd_move rfl) ?_)
                      refine gl_yes rfl rfl (op_rd rfl (rd_move rfl) ?_)
                      refine gl_yes rfl rfl (op_rd rfl (rd_neqNilPt eg_29 Try.underlying29 rfl rfl) ?_)
                      refine gl_op (op_rd rfl (rd_pick_f rfl rfl) ?_)
                      refine gl_op (op_rd rfl (rd_move rfl) ?_)
                      refine gl_yes rfl rfl (op_rd rfl (rd_move rfl) ?_)
                      refine gl_yes rfl rfl (op_rd rfl (rd_neq rfl rfl) (gk_dec (fun hd9 => ?_) (fun hd9 => ?_)))
                      · skip
                        exact absurd rfl (by assumption)
                      · skip
                        refine gl_op (op_rd rfl (rd_pick_f rfl rfl) ?_)
                        refine gl_nil ?_
                        refine gx_then ?_
                        refine gc_cond_f rfl ?_
                        refine gc_skip ?_
                        refine gx_block ?_
                        refine gx_then ?_
                        refine gc_region ?_
                        refine gl_op (op_rd rfl (rd_move rfl) ?_)
                        refine gl_op (op_rd rfl (by first | exact rd_addN (b := 1) rfl rfl (by omega) | exact rd_add rfl rfl (by omega) (by omega)) ?_)
                        refine gl_op (op_rd rfl (rd_assign rfl) ?_)
                        refine gl_nil ?_
                        refine gx_then ?_
                        exact gx_cut (j + 1) ⟨by omega, by omega⟩ ⟨rfl, rfl, rfl, rfl, rfl, trivial⟩ ⟨[0, 1], by decide, rfl⟩
    · skip
      refine gl_nil ?_
      refine gx_then ?_
      refine gc_cond_f rfl ?_
      refine gc_exit ?_
      refine gx_then_exit ?_
      refine gx_then_exit ?_
      refine gx_block_exit ?_
      refine gx_then ?_
      refine gc_seq ?_
      refine gc_region ?_
      refine gl_op (op_rd rfl (rd_build rfl (fun _ => bd_81_)) ?_)
      refine gl_op (op_box rfl rfl rfl (fun b115 => ?_))
      refine gl_op (op_rd rfl (rd_build rfl (fun _ => bd_82_0_1 _ _)) ?_)
      refine gl_op (op_alloc ty_82 rfl rfl (fun b18 => ?_))
      first | refine gl_op (op_storeAgg 0 ty_82 rfl rfl rfl rfl rfl rfl (by first | rfl | (simp only [List.set_cons_succ, List.set_cons_zero]; exact rfl)) ?_) | refine gl_op (op_storeAgg 1 ty_82 rfl rfl rfl rfl rfl rfl (by first | rfl | (simp only [List.set_cons_succ, List.set_cons_zero]; exact rfl)) ?_) | refine gl_op (op_storeAgg 2 ty_82 rfl rfl rfl rfl rfl rfl (by first | rfl | (simp only [List.set_cons_succ, List.set_cons_zero]; exact rfl)) ?_) | refine gl_op (op_storeAgg 3 ty_82 rfl rfl rfl rfl rfl rfl (by first | rfl | (simp only [List.set_cons_succ, List.set_cons_zero]; exact rfl)) ?_)
      refine gl_nil ?_
      refine gx_then ?_
      refine gc_seq ?_
      refine gc_seq ?_
      refine gc_region ?_
      refine gl_op (op_rd rfl (rd_assign rfl) ?_)
      refine gl_nil ?_
      refine gx_then ?_
      refine gc_block ?_
      refine gc_loopF (ι := Nat) [(1, _), (2, _), (18, _)] [_, _, _, _] (fun j => j ≤ 2) (fun j Fr0 => ((19, natV j) :: Fr0)) (fun j Fr0 => Fr0) (fun j => 2 - j) 0 (Nat.zero_le _) ⟨rfl, rfl, rfl, rfl, trivial⟩ ⟨[0, 1, 2, 3], by decide, rfl⟩ ?_
      rintro j hj
      refine gc_seq ?_
      refine gc_seq ?_
      refine gc_region ?_
      refine gl_op (op_rd rfl (rd_move rfl) ?_)
      refine gl_op (op_rd rfl (rd_lss rfl rfl) (gk_dec (fun h118 => ?_) (fun h118 => ?_)))
      · skip
        obtain ⟨p, hpv, hpp⟩ := two_at (b := b115) (show j < 2 by omega)
        refine gl_nil ?_
        refine gx_then ?_
        refine gc_cond_t rfl ?_
        refine gc_skip ?_
        refine gx_then ?_
        refine gc_seq ?_
        refine gc_block ?_
        refine gc_seq ?_
        refine gc_region ?_
        refine gl_op (op_rd rfl (rd_move rfl) ?_)
        refine gl_op (op_rd rfl (rd_indexArr Try.underlying82 ty_29 rfl rfl (by omega) (by omega)) ?_)
        rw [show (⟨b18, 0, none⟩ : Addr).add (j : Int).toNat = ⟨b18, j, none⟩ by rw [Addr.add_lit, Int.toNat_natCast, Nat.zero_add]]
        refine gl_op (op_rd rfl (rd_load Try.underlying29 rfl rfl (ld_blk 0 (off := j) rfl hpv)) ?_)
        refine gl_op (op_rd rfl (rd_move rfl) ?_)
        refine gl_op (op_call rfl (vf := []) (vc := []) rfl rfl Try.call12 (fun w1 ho => Get_no p w1 (noP_at ho 1 rfl hpp) a2) ?_)
        rintro _ _ ⟨rfl, rfl⟩
        refine gl_op (op_rd rfl (rd_move rfl) ?_)
        refine gl_op (op_rd rfl (rd_extract rfl rfl) ?_)
        refine gl_op (op_rd rfl (rd_extract rfl rfl) ?_)
        refine gl_op (op_rd rfl (rd_assign rfl) ?_)
        refine gl_op (op_rd rfl (rd_assign rfl) ?_)
        refine gl_nil ?_
        refine gx_then ?_
        refine gc_seq ?_
        refine gc_region ?_
        refine gl_op (op_rd rfl (rd_move rfl) ?_)
        refine gl_op (op_rd rfl (rd_indexArr Try.underlying82 ty_29 rfl rfl (by omega) (by omega)) ?_)
        rw [show (⟨b18, 0, none⟩ : Addr).add (j : Int).toNat = ⟨b18, j, none⟩ by rw [Addr.add_lit, Int.toNat_natCast, Nat.zero_add]]
        refine gl_op (op_rd rfl (rd_load Try.underlying29 rfl rfl (ld_blk 0 (off := j) rfl hpv)) ?_)
        refine gl_op (op_call rfl (vf := []) (vc := []) rfl rfl Try.call24 (fun w1 ho => Keys_no p w1 (noP_at ho 1 rfl hpp)) ?_)
        rintro _ _ ⟨rfl, rfl⟩
        refine gl_op (op_rd rfl (rd_move rfl) ?_)
        refine gl_op (op_rd rfl (rd_extract rfl rfl) ?_)
        refine gl_op (op_rd rfl (rd_extract rfl rfl) ?_)
        refine gl_op (op_rd rfl (rd_assign rfl) ?_)
        refine gl_op (op_rd rfl (rd_assign rfl) ?_)
        refine gl_nil ?_
        refine gx_then ?_
        refine gc_seq ?_
        refine gc_region ?_
        refine gl_op (op_rd rfl (rd_move rfl) ?_)
        refine gl_op (op_rd rfl (rd_indexArr Try.underlying82 ty_29 rfl rfl (by omega) (by omega)) ?_)
        rw [show (⟨b18, 0, none⟩ : Addr).add (j : Int).toNat = ⟨b18, j, none⟩ by rw [Addr.add_lit, Int.toNat_natCast, Nat.zero_add]]
        refine gl_op (op_rd rfl (rd_load Try.underlying29 rfl rfl (ld_blk 0 (off := j) rfl hpv)) ?_)
        refine gl_op (op_call rfl (vf := []) (vc := []) rfl rfl Try.call34 (fun w1 ho => Room_no p w1 (noP_at ho 1 rfl hpp)) ?_)
        rintro _ _ ⟨rfl, rfl⟩
        refine gl_op (op_rd rfl (rd_move rfl) ?_)
        refine gl_op (op_rd rfl (rd_extract rfl rfl) ?_)
        refine gl_op (op_rd rfl (rd_extract rfl rfl) ?_)
        refine gl_op (op_rd rfl (rd_assign rfl) ?_)
        refine gl_op (op_rd rfl (rd_assign rfl) ?_)
        refine gl_nil ?_
        refine gx_then ?_
        refine gc_seq ?_
        refine gc_region ?_
        refine gl_op (op_rd rfl (rd_move rfl) ?_)
        refine gl_op (op_rd rfl (rd_indexArr Try.underlying82 ty_29 rfl rfl (by omega) (by omega)) ?_)
        rw [show (⟨b18, 0, none⟩ : Addr).add (j : Int).toNat = ⟨b18, j, none⟩ by rw [Addr.add_lit, Int.toNat_natCast, Nat.zero_add]]
        refine gl_op (op_rd rfl (rd_load Try.underlying29 rfl rfl (ld_blk 0 (off := j) rfl hpv)) ?_)
        refine gl_op (op_rd rfl (rd_move rfl) ?_)
        refine gl_op (op_rd rfl (rd_move rfl) ?_)
        refine gl_op (op_call rfl (vf := []) (vc := []) rfl rfl Try.call17 (fun w1 ho => Put_no p w1 (noP_at ho 1 rfl hpp) a2 pv vl cv) ?_)
        rintro _ _ ⟨rfl, rfl⟩
        refine gl_op (op_rd rfl (rd_neq rfl rfl) (gk_dec (fun hd10 => ?_) (fun hd10 => ?_)))
        · skip
          exact absurd rfl (by assumption)
        · skip
          refine gl_op (op_rd rfl (rd_move rfl) ?_)
          refine gl_yes rfl rfl (op_rd rfl (rd_move rfl) ?_)
          refine gl_yes rfl rfl (op_rd rfl (rd_lenSlice Try.underlying36 rfl) ?_)
          refine gl_yes rfl rfl (op_rd rfl (rd_move rfl) ?_)
          refine gl_yes rfl rfl (op_rd rfl (rd_lenSlice Try.underlying55 rfl) ?_)
          refine gl_yes rfl rfl (op_rd rfl (by first | exact rd_addN rfl rfl (by omega) | exact rd_add rfl rfl (by omega) (by omega)) ?_)
          refine gl_yes rfl rfl (op_rd rfl (rd_move rfl) ?_)
          refine gl_yes rfl rfl (op_rd rfl (by first | exact rd_addN rfl rfl (by omega) | exact rd_add rfl rfl (by omega) (by omega)) ?_)
          refine gl_yes rfl rfl (op_rd rfl (rd_neq rfl rfl) (gk_dec (fun hd11 => ?_) (fun hd11 => ?_)))
          · skip
            exact absurd rfl (by assumption)
          · skip
            refine gl_op (op_rd rfl (rd_pick_f rfl rfl) ?_)
            refine gl_op (op_rd rfl (rd_move rfl) ?_)
            refine gl_yes rfl rfl (op_rd rfl (rd_move rfl) ?_)
            refine gl_yes rfl rfl (op_rd rfl (rd_neq rfl rfl) (gk_dec (fun hd12 => ?_) (fun hd12 => ?_)))
            · skip
              exact absurd rfl (by assumption)
            · skip
              refine gl_op (op_rd rfl (rd_pick_f rfl rfl) ?_)
              refine gl_op (op_rd rfl (rd_move rfl) ?_)
              refine gl_yes rfl rfl (op_rd rfl (rd_move rfl) ?_)
              refine gl_yes rfl rfl (op_rd rfl (rd_neq rfl rfl) (gk_dec (fun hd13 => ?_) (fun hd13 => ?_)))
              · skip
                exact absurd rfl (by assumption)
              · skip
                refine gl_op (op_rd rfl (rd_pick_f rfl rfl) ?_)
                refine gl_op (op_rd rfl (rd_move rfl) ?_)
                refine gl_yes rfl rfl (op_rd rfl (rd_move rfl) ?_)
                refine gl_yes rfl rfl (op_rd rfl (rd_neq rfl rfl) (gk_dec (fun hd14 => ?_) (fun hd14 => ?_)))
                · skip
                  exact absurd rfl (by assumption)
                · skip
                  refine gl_op (op_rd rfl (rd_pick_f rfl rfl) ?_)
                  refine gl_nil ?_
                  refine gx_then ?_
                  refine gc_cond_f rfl ?_
                  refine gc_skip ?_
                  refine gx_block ?_
                  refine gx_then ?_
                  refine gc_region ?_
                  refine gl_op (op_rd rfl (rd_move rfl) ?_)
                  refine gl_op (op_rd rfl (by first | exact rd_addN (b := 1) rfl rfl (by omega) | exact rd_add rfl rfl (by omega) (by omega)) ?_)
                  refine gl_op (op_rd rfl (rd_assign rfl) ?_)
                  refine gl_nil ?_
                  refine gx_then ?_
                  exact gx_cut (j + 1) ⟨by omega, by omega⟩ ⟨rfl, rfl, rfl, rfl, trivial⟩ ⟨[0, 1, 2, 3], by decide, rfl⟩
      · skip
        refine gl_nil ?_
        refine gx_then ?_
        refine gc_cond_f rfl ?_
        refine gc_exit ?_
        refine gx_then_exit ?_
        refine gx_then_exit ?_
        refine gx_block_exit ?_
        refine gx_then ?_
        refine gc_seq ?_
        refine gc_region ?_
        refine gl_op (op_call rfl (vf := []) (vc := []) rfl rfl Try.call9 (fun w1 ho => shown_ok w1) ?_)
        rintro _ _ ⟨rfl, rfl⟩
        refine gl_op (op_rd rfl (rd_assign rfl) ?_)
        refine gl_nil ?_
        refine gx_then ?_
        refine gc_ret ?_
        refine gx_ret1 (.inl rfl) Try.results7 rfl [] (by decide) ?_
        exact ⟨rfl, rfl⟩

end Go.Proofs.Ythcbcdjkfefnlaa

set_option autoImplicit false
set_option linter.unusedVariables false
namespace Go.Proofs.Ythcbcdjkfefnlaa
open Go.Gv
open Go.RowKit Go.ChangeShapes Go.WideShapes
open Iv
set_option maxHeartbeats 1000000 in
set_option maxRecDepth 100000 in
theorem storeNone_lifted (os : Os) (started : os.Started) (H : Type) (enc : TypeId × Value → H) :
    ReturnsInHanded {} Try.checked os 7 .any (Rows.storeNoneSpec.pre6 enc Try.prog Try.f7 Rows.storeNoneRow.domain false) (Rows.storeNoneSpec.post enc Try.prog Try.f7 false true false false) := by
  refine returnsInHanded_of_change_sized (C := Try.checked) tryOwn started (by kernel_rfl) Try.func7
    (ChangeSpec.witness6 (enc := enc) (C := Try.checked) false ⟨#[], #[.int .i64 0, .int .i64 0, .slice none 0 0], []⟩ 8 (by kernel_rfl) (by kernel_rfl) (by kernel_rfl) (by kernel_rfl)) ?_
  intro W base args ds gs before hval0 hW _ hwt _
  have hval : ∀ (j : Nat) t v, Try.f7.params[j]? = some t → args[j]? = some v → Value.okWide Try.prog W .any base t v := hval0
  have hW' := hW
  obtain ⟨p, q, hA0, hV, rfl, hfz, hnd⟩ := hW
  have hA : DataW.TrodAll enc Try.prog W 0 (fun _ => true) true Try.f7.params.toList args.toList ds p := hA0
  rw [Try.params7] at hA hval
  obtain ⟨v0, vs0, d0, ds0, p0, q0, hargs, rfl, rfl, h0, r0⟩ := trodAll_cons hA
  obtain ⟨v1, vs1, d1, ds1, p1, q1, rfl, rfl, rfl, h1, r1⟩ := trodAll_cons r0
  obtain ⟨v2, vs2, d2, ds2, p2, q2, rfl, rfl, rfl, h2, r2⟩ := trodAll_cons r1
  obtain ⟨rfl, rfl, rfl⟩ := trodAll_nil r2
  obtain rfl : args = #[v0, v1, v2] := Array.toList_inj.1 hargs
  obtain ⟨rfl, rfl⟩ := trodVars_none hV
  obtain ⟨a0, rfl, rfl, rfl, w0⟩ := open_int Try.underlying3 (hval 0 3 v0 rfl rfl) h0
  have b0 := bounds_i64 w0
  obtain ⟨a1, rfl, rfl, rfl, w1⟩ := open_int Try.underlying3 (hval 1 3 v1 rfl rfl) h1
  have b1 := bounds_i64 w1
  obtain ⟨sa2, sn2, sc2, rfl⟩ := okWide_slice Try.underlying36 (hval 2 36 v2 rfl rfl)
  obtain ⟨fuel2, hf2⟩ := h2
  obtain ⟨pa2, zs2, cp2, hz2, hsl2, hlen2, hb2⟩ := openU8 hf2 (fun b hb => by
    have := List.all_eq_true.1 hwt b (DataW.weights_mem_each (j := 2) (t := 36) rfl rfl b hb)
    simpa using this)
  have e2 : Value.slice sa2 sn2 sc2 = .slice pa2 zs2.length cp2 := by
    simpa [Value.cells] using hz2
  have hcall := StoreNone_ok a0 a1 zs2.length pa2 cp2 W hlen2
  rw [e2]
  rw [e2] at hW'
  unfold Sp at hcall
  refine Calls.mono hcall fun e W' ⟨v, l, he, hR, ho⟩ => ⟨v, he, ?_⟩
  obtain ⟨rfl, rfl⟩ := hR
  exact law_post hW' rfl ho.below rfl rfl rfl rfl (by rw [Try.params7]; intro t ht; simp at ht; rcases ht with rfl | rfl <;> exact ⟨by kernel_rfl, of_decide_eq_true (by kernel_rfl)⟩)
theorem storeNone_over : Rows.storeNoneRow.holds Try.pinned (OpenSpec.ofChange Rows.storeNoneSpec) :=
  OpenClaim.holds_of_wide 7 Try.f7 rfl rfl rfl rfl rfl rfl rfl ⟨rfl, rfl, rfl, rfl, rfl⟩ rfl rfl rfl rfl rfl (by kernel_rfl) Try.func7 (by kernel_rfl)
    (of_decide_eq_true (by kernel_rfl)) (by unfold Func.isWrapper; first | (rw [if_pos (by decide +kernel)]; kernel_rfl) | (rw [if_neg (by decide +kernel)]; exact ⟨rfl, rfl⟩))
    (fun os started H enc _ => storeNone_lifted os started H enc)
theorem storeNone_proved : Rows.StoreNoneSaid := storeNone_over
end Go.Proofs.Ythcbcdjkfefnlaa
