import Derived.Test.YthcbcdjkfefnlaaGw
import Derived.Test.YthcbcdjkfefnlaaProg
/- Facts on types; bytes.Repeat and bytes.Clone; the walks of a flash. -/
set_option linter.unusedSimpArgs false
set_option linter.unusedVariables false
set_option linter.unnecessarySimpa false
set_option autoImplicit false
set_option linter.unusedVariables false
namespace Go.Proofs.Ythcbcdjkfefnlaa
open Go.Gv
open Go.RowKit
theorem ty_3 : TyF Try.prog 3 (.int .i64 0) 1 8 := TyF.mk' (by kernel_rfl)
theorem ty_4 : TyF Try.prog 4 (.bool false) 1 1 := TyF.mk' (by kernel_rfl)
theorem ty_5 : TyF Try.prog 5 (.int .u8 0) 1 1 := TyF.mk' (by kernel_rfl)
theorem ty_33 : TyF Try.prog 33 (.slice none 0 0) 1 24 := TyF.mk' (by kernel_rfl)
theorem ty_36 : TyF Try.prog 36 (.slice none 0 0) 1 24 := TyF.mk' (by kernel_rfl)
theorem ty_51 : TyF Try.prog 51 (.agg #[.int .u16 0, .slice none 0 0, .bool false, .bool false, .int .u16 0, .slice none 0 0]) 6 64 := TyF.mk' (by kernel_rfl)
theorem ty_78 : TyF Try.prog 78 (.map none) 1 8 := TyF.mk' (by kernel_rfl)
theorem ty_79 : TyF Try.prog 79 (.int .u32 0) 1 4 := TyF.mk' (by kernel_rfl)
theorem ty_92 : TyF Try.prog 92 (.agg #[.int .i64 0, .int .u32 0, .slice none 0 0]) 3 40 := TyF.mk' (by kernel_rfl)
theorem ty_94 : TyF Try.prog 94 (.agg #[.int .i64 0, .int .i64 0]) 2 16 := TyF.mk' (by kernel_rfl)
theorem ty_96 : TyF Try.prog 96 (.agg #[.int .i64 0, .int .u32 0, .slice none 0 0, .int .i64 0, .int .i64 0]) 5 56 := TyF.mk' (by kernel_rfl)
theorem ty_99 : TyF Try.prog 99 (.agg #[.int .i64 0, .slice none 0 0]) 2 32 := TyF.mk' (by kernel_rfl)
theorem fa_35_0 (ad : Addr) (w : World) : (Instr.fieldAt 35 (.pointer (some ad)) 0).run Try.prog w = .ok (.pointer (some (ad.add 0))) w := by cases ad; kernel_rfl
theorem fa_35_1 (ad : Addr) (w : World) : (Instr.fieldAt 35 (.pointer (some ad)) 1).run Try.prog w = .ok (.pointer (some (ad.add 1))) w := by cases ad; kernel_rfl
theorem fa_51_0 (ad : Addr) (w : World) : (Instr.fieldAt 51 (.pointer (some ad)) 0).run Try.prog w = .ok (.pointer (some (ad.add 0))) w := by cases ad; kernel_rfl
theorem fa_51_1 (ad : Addr) (w : World) : (Instr.fieldAt 51 (.pointer (some ad)) 1).run Try.prog w = .ok (.pointer (some (ad.add 1))) w := by cases ad; kernel_rfl
theorem fa_51_2 (ad : Addr) (w : World) : (Instr.fieldAt 51 (.pointer (some ad)) 2).run Try.prog w = .ok (.pointer (some (ad.add 2))) w := by cases ad; kernel_rfl
theorem fa_51_3 (ad : Addr) (w : World) : (Instr.fieldAt 51 (.pointer (some ad)) 3).run Try.prog w = .ok (.pointer (some (ad.add 3))) w := by cases ad; kernel_rfl
theorem fa_51_4 (ad : Addr) (w : World) : (Instr.fieldAt 51 (.pointer (some ad)) 4).run Try.prog w = .ok (.pointer (some (ad.add 4))) w := by cases ad; kernel_rfl
theorem fa_51_5 (ad : Addr) (w : World) : (Instr.fieldAt 51 (.pointer (some ad)) 5).run Try.prog w = .ok (.pointer (some (ad.add 5))) w := by cases ad; kernel_rfl
theorem fa_72_0 (ad : Addr) (w : World) : (Instr.fieldAt 72 (.pointer (some ad)) 0).run Try.prog w = .ok (.pointer (some (ad.add 0))) w := by cases ad; kernel_rfl
theorem fa_72_1 (ad : Addr) (w : World) : (Instr.fieldAt 72 (.pointer (some ad)) 1).run Try.prog w = .ok (.pointer (some (ad.add 1))) w := by cases ad; kernel_rfl
theorem fa_72_2 (ad : Addr) (w : World) : (Instr.fieldAt 72 (.pointer (some ad)) 2).run Try.prog w = .ok (.pointer (some (ad.add 2))) w := by cases ad; kernel_rfl
theorem fa_72_3 (ad : Addr) (w : World) : (Instr.fieldAt 72 (.pointer (some ad)) 3).run Try.prog w = .ok (.pointer (some (ad.add 3))) w := by cases ad; kernel_rfl
theorem fa_72_4 (ad : Addr) (w : World) : (Instr.fieldAt 72 (.pointer (some ad)) 4).run Try.prog w = .ok (.pointer (some (ad.add 4))) w := by cases ad; kernel_rfl
theorem fa_72_5 (ad : Addr) (w : World) : (Instr.fieldAt 72 (.pointer (some ad)) 5).run Try.prog w = .ok (.pointer (some (ad.add 5))) w := by cases ad; kernel_rfl
theorem fa_72_6 (ad : Addr) (w : World) : (Instr.fieldAt 72 (.pointer (some ad)) 6).run Try.prog w = .ok (.pointer (some (ad.add 6))) w := by cases ad; kernel_rfl
theorem fa_72_7 (ad : Addr) (w : World) : (Instr.fieldAt 72 (.pointer (some ad)) 7).run Try.prog w = .ok (.pointer (some (ad.add 7))) w := by cases ad; kernel_rfl
theorem fa_81_0 (ad : Addr) (w : World) : (Instr.fieldAt 81 (.pointer (some ad)) 0).run Try.prog w = .ok (.pointer (some (ad.add 0))) w := by cases ad; kernel_rfl
theorem fa_81_1 (ad : Addr) (w : World) : (Instr.fieldAt 81 (.pointer (some ad)) 1).run Try.prog w = .ok (.pointer (some (ad.add 1))) w := by cases ad; kernel_rfl
theorem fa_81_2 (ad : Addr) (w : World) : (Instr.fieldAt 81 (.pointer (some ad)) 2).run Try.prog w = .ok (.pointer (some (ad.add 2))) w := by cases ad; kernel_rfl
theorem fa_81_3 (ad : Addr) (w : World) : (Instr.fieldAt 81 (.pointer (some ad)) 3).run Try.prog w = .ok (.pointer (some (ad.add 3))) w := by cases ad; kernel_rfl
theorem fa_81_4 (ad : Addr) (w : World) : (Instr.fieldAt 81 (.pointer (some ad)) 4).run Try.prog w = .ok (.pointer (some (ad.add 4))) w := by cases ad; kernel_rfl
theorem fa_81_5 (ad : Addr) (w : World) : (Instr.fieldAt 81 (.pointer (some ad)) 5).run Try.prog w = .ok (.pointer (some (ad.add 5))) w := by cases ad; kernel_rfl
theorem fa_92_0 (ad : Addr) (w : World) : (Instr.fieldAt 92 (.pointer (some ad)) 0).run Try.prog w = .ok (.pointer (some (ad.add 0))) w := by cases ad; kernel_rfl
theorem fa_92_1 (ad : Addr) (w : World) : (Instr.fieldAt 92 (.pointer (some ad)) 1).run Try.prog w = .ok (.pointer (some (ad.add 1))) w := by cases ad; kernel_rfl
theorem fa_92_2 (ad : Addr) (w : World) : (Instr.fieldAt 92 (.pointer (some ad)) 2).run Try.prog w = .ok (.pointer (some (ad.add 2))) w := by cases ad; kernel_rfl
theorem fa_94_0 (ad : Addr) (w : World) : (Instr.fieldAt 94 (.pointer (some ad)) 0).run Try.prog w = .ok (.pointer (some (ad.add 0))) w := by cases ad; kernel_rfl
theorem fa_94_1 (ad : Addr) (w : World) : (Instr.fieldAt 94 (.pointer (some ad)) 1).run Try.prog w = .ok (.pointer (some (ad.add 1))) w := by cases ad; kernel_rfl
theorem fa_96_0 (ad : Addr) (w : World) : (Instr.fieldAt 96 (.pointer (some ad)) 0).run Try.prog w = .ok (.pointer (some (ad.add 0))) w := by cases ad; kernel_rfl
theorem fa_96_1 (ad : Addr) (w : World) : (Instr.fieldAt 96 (.pointer (some ad)) 1).run Try.prog w = .ok (.pointer (some (ad.add 3))) w := by cases ad; kernel_rfl
theorem fa_99_0 (ad : Addr) (w : World) : (Instr.fieldAt 99 (.pointer (some ad)) 0).run Try.prog w = .ok (.pointer (some (ad.add 0))) w := by cases ad; kernel_rfl
theorem fa_99_1 (ad : Addr) (w : World) : (Instr.fieldAt 99 (.pointer (some ad)) 1).run Try.prog w = .ok (.pointer (some (ad.add 1))) w := by cases ad; kernel_rfl
theorem bd_35_0 (x1 : Int) {w : World} : (Instr.build 35 #[(0, .int .i64 x1)]).run Try.prog w = .ok (.agg #[.int .i64 x1, .slice none 0 0]) w := by kernel_rfl
theorem bd_72_0_1_2 (x1 : Bool) (x2a : Option Addr) (x2n x2c : Nat) (x3 : Int) {w : World} : (Instr.build 72 #[(0, .bool x1), (1, .slice x2a x2n x2c), (2, .int .i64 x3)]).run Try.prog w = .ok (.agg #[.bool x1, .slice x2a x2n x2c, .int .i64 x3, .slice none 0 0, .bool false, .int .i64 0, .int .i64 0, .int .i64 0]) w := by kernel_rfl
theorem bd_81_0_1_2_5 (x1 : Bool) (x2 : Option Addr) (x3 : Int) (x4 : Int) {w : World} : (Instr.build 81 #[(0, .bool x1), (1, .pointer x2), (2, .int .i64 x3), (5, .int .i64 x4)]).run Try.prog w = .ok (.agg #[.bool x1, .pointer x2, .int .i64 x3, .map none, .int .u32 0, .int .i64 x4]) w := by kernel_rfl
theorem bd_92_  {w : World} : (Instr.build 92 #[]).run Try.prog w = .ok (.agg #[.int .i64 0, .int .u32 0, .slice none 0 0]) w := by kernel_rfl
theorem bd_92_0 (x1 : Int) {w : World} : (Instr.build 92 #[(0, .int .i64 x1)]).run Try.prog w = .ok (.agg #[.int .i64 x1, .int .u32 0, .slice none 0 0]) w := by kernel_rfl
theorem bd_92_0_1_2 (x1 : Int) (x2 : Int) (x3a : Option Addr) (x3n x3c : Nat) {w : World} : (Instr.build 92 #[(0, .int .i64 x1), (1, .int .u32 x2), (2, .slice x3a x3n x3c)]).run Try.prog w = .ok (.agg #[.int .i64 x1, .int .u32 x2, .slice x3a x3n x3c]) w := by kernel_rfl
theorem bd_94_0 (x1 : Int) {w : World} : (Instr.build 94 #[(0, .int .i64 x1)]).run Try.prog w = .ok (.agg #[.int .i64 x1, .int .i64 0]) w := by kernel_rfl
theorem bd_94_0_1 (x1 : Int) (x2 : Int) {w : World} : (Instr.build 94 #[(0, .int .i64 x1), (1, .int .i64 x2)]).run Try.prog w = .ok (.agg #[.int .i64 x1, .int .i64 x2]) w := by kernel_rfl
theorem bd_96_0_1 (x1 : Int) (x2 : Int) (x3a : Option Addr) (x3n x3c : Nat) (x4 : Int) (x5 : Int) {w : World} : (Instr.build 96 #[(0, .agg #[.int .i64 x1, .int .u32 x2, .slice x3a x3n x3c]), (1, .agg #[.int .i64 x4, .int .i64 x5])]).run Try.prog w = .ok (.agg #[.int .i64 x1, .int .u32 x2, .slice x3a x3n x3c, .int .i64 x4, .int .i64 x5]) w := by kernel_rfl
theorem bd_99_0_1 (x1 : Int) (x2a : Option Addr) (x2n x2c : Nat) {w : World} : (Instr.build 99 #[(0, .int .i64 x1), (1, .slice x2a x2n x2c)]).run Try.prog w = .ok (.agg #[.int .i64 x1, .slice x2a x2n x2c]) w := by kernel_rfl
theorem bs_33_1_0 (x1 : Int) (x2a : Option Addr) (x2n x2c : Nat) {w : World} : (Instr.buildSlice 33 1 #[(0, .agg #[.int .i64 x1, .slice x2a x2n x2c])]).run Try.prog w = .ok (.slice (some ⟨w.heap.size, 0, none⟩) 1 1) (w.alloc (.cells [.int .i64 x1, .slice x2a x2n x2c].toArray 99)) := by kernel_rfl
theorem bs_36_0_  {w : World} : (Instr.buildSlice 36 0 #[]).run Try.prog w = .ok (.slice (some ⟨w.heap.size, 0, none⟩) 0 0) (w.alloc (.cells [].toArray 5)) := by kernel_rfl
theorem bs_36_1_0 (x1 : Int) {w : World} : (Instr.buildSlice 36 1 #[(0, .int .u8 x1)]).run Try.prog w = .ok (.slice (some ⟨w.heap.size, 0, none⟩) 1 1) (w.alloc (.cells [.int .u8 x1].toArray 5)) := by kernel_rfl
theorem bs_36_2_0_1 (x1 : Int) (x2 : Int) {w : World} : (Instr.buildSlice 36 2 #[(0, .int .u8 x1), (1, .int .u8 x2)]).run Try.prog w = .ok (.slice (some ⟨w.heap.size, 0, none⟩) 2 2) (w.alloc (.cells [.int .u8 x1, .int .u8 x2].toArray 5)) := by kernel_rfl
theorem bs_55_1_0 (x1 : Int) {w : World} : (Instr.buildSlice 55 1 #[(0, .int .i64 x1)]).run Try.prog w = .ok (.slice (some ⟨w.heap.size, 0, none⟩) 1 1) (w.alloc (.cells [.int .i64 x1].toArray 3)) := by kernel_rfl
theorem fd_92_2 (x1 : Int) (x2 : Int) (x3a : Option Addr) (x3n x3c : Nat) (w : World) : (Instr.field 92 (.agg #[.int .i64 x1, .int .u32 x2, .slice x3a x3n x3c]) 2).run Try.prog w = .ok (.slice x3a x3n x3c) w := by kernel_rfl
theorem fd_96_0 (x1 : Int) (x2 : Int) (x3a : Option Addr) (x3n x3c : Nat) (x4 : Int) (x5 : Int) (w : World) : (Instr.field 96 (.agg #[.int .i64 x1, .int .u32 x2, .slice x3a x3n x3c, .int .i64 x4, .int .i64 x5]) 0).run Try.prog w = .ok (.agg #[.int .i64 x1, .int .u32 x2, .slice x3a x3n x3c]) w := by kernel_rfl
end Go.Proofs.Ythcbcdjkfefnlaa

set_option autoImplicit false
set_option linter.unusedVariables false
namespace Go.Proofs.Ythcbcdjkfefnlaa
open Go.Gv
open Go.RowKit
theorem eg_36 : Try.prog.eqGuardType Try.prog.depth 36 = false := by kernel_rfl
theorem eg_25 : Try.prog.eqGuardType Try.prog.depth 25 = false := by kernel_rfl
theorem eg_29 : Try.prog.eqGuardType Try.prog.depth 29 = false := by kernel_rfl
namespace Iv
theorem and32 {n : Nat} (h : n < 4294967296) : n &&& 4294967295 = n := by
  have := Nat.and_two_pow_sub_one_eq_mod n 32
  rw [show (2 ^ 32 - 1 : Nat) = 4294967295 from rfl] at this
  rw [this, Nat.mod_eq_of_lt h]
theorem shr32 {n : Nat} (h : n < 4294967296) : n >>> 32 = 0 := by
  rw [Nat.shiftRight_eq_div_pow, Nat.div_eq_of_lt h]
theorem subA_row {g cap k : Nat} (h : k < cap) : subA (some ⟨g, 0, none⟩) cap k 1 = some ⟨g, k, none⟩ := by
  unfold subA
  rw [if_neg (by omega)]
  simp [Addr.add]
  omega
theorem subA_row' {g cap k : Nat} (h : k < cap) : subA (rowA (some g)) cap k 1 = some ⟨g, k, none⟩ := subA_row h
theorem row_some {w : World} {E : TypeId} {sz : Nat} {r : Option Nat} {m cap : Nat} {xs : List Value} (h : HL.holds w (.row E sz r m cap xs)) (hm : 0 < m) : ∃ g, r = some g ∧ m ≤ cap := by
  obtain ⟨_, h2⟩ := h
  cases r with
  | none => obtain ⟨h3, _⟩ := h2; omega
  | some g => obtain ⟨_, _, h3, _⟩ := h2; exact ⟨g, rfl, h3⟩
theorem copyU8 (b c : List Nat) (o : Nat) : (b.map u8V).take o ++ c.map u8V ++ (b.map u8V).drop (o + (c.map u8V).length) = (b.take o ++ c ++ b.drop (o + c.length)).map u8V := by simp
end Iv
open Iv

set_option maxRecDepth 100000 in
set_option maxHeartbeats 1000000 in
theorem Mul64_ok (n : Nat) (hn : n < 4294967296) (w0 : World) : Sp Try.prog 72 [.int .u64 ((1 : Nat) : Int), .int .u64 (n : Int)] w0 [] (RV (.tuple #[.int .u64 ((0 : Nat) : Int), .int .u64 (n : Int)])) := by
  refine spec_enter Try.func72 rfl Try.ntmps72 rfl (Own.refl _) ?_
  simp only [argEnv]
  refine gc_seq ?_
  refine gc_region ?_
  refine gl_op (op_rd rfl (rd_assign rfl) ?_)
  refine gl_op (op_rd rfl (rd_assign rfl) ?_)
  refine gl_nil ?_
  refine gx_then ?_
  refine gc_seq ?_
  refine gc_region ?_
  refine gl_op (op_rd rfl (rd_move rfl) ?_)
  refine gl_op (op_rd rfl (rd_andU (a := 1) (b := 4294967295) (c := 1) rfl rfl (by omega) (by omega) (rfl)) ?_)
  refine gl_op (op_rd rfl (rd_assign rfl) ?_)
  refine gl_nil ?_
  refine gx_then ?_
  refine gc_seq ?_
  refine gc_region ?_
  refine gl_op (op_rd rfl (rd_move rfl) ?_)
  refine gl_op (op_rd rfl (rd_shrU (a := 1) (b := 32) (c := 0) rfl rfl (by omega) (rfl)) ?_)
  refine gl_op (op_rd rfl (rd_assign rfl) ?_)
  refine gl_nil ?_
  refine gx_then ?_
  refine gc_seq ?_
  refine gc_region ?_
  refine gl_op (op_rd rfl (rd_move rfl) ?_)
  refine gl_op (op_rd rfl (rd_andU (a := n) (b := 4294967295) (c := n) rfl rfl (by omega) (by omega) (and32 hn)) ?_)
  refine gl_op (op_rd rfl (rd_assign rfl) ?_)
  refine gl_nil ?_
  refine gx_then ?_
  refine gc_seq ?_
  refine gc_region ?_
  refine gl_op (op_rd rfl (rd_move rfl) ?_)
  refine gl_op (op_rd rfl (rd_shrU (a := n) (b := 32) (c := 0) rfl rfl (by omega) (shr32 hn)) ?_)
  refine gl_op (op_rd rfl (rd_assign rfl) ?_)
  refine gl_nil ?_
  refine gx_then ?_
  refine gc_seq ?_
  refine gc_region ?_
  refine gl_op (op_rd rfl (rd_move rfl) ?_)
  refine gl_op (op_rd rfl (rd_move rfl) ?_)
  refine gl_op (op_rd rfl (rd_mulU (a := 1) (b := n) (c := n) rfl rfl (by simp) (by omega)) ?_)
  refine gl_op (op_rd rfl (rd_assign rfl) ?_)
  refine gl_nil ?_
  refine gx_then ?_
  refine gc_seq ?_
  refine gc_region ?_
  refine gl_op (op_rd rfl (rd_move rfl) ?_)
  refine gl_op (op_rd rfl (rd_move rfl) ?_)
  refine gl_op (op_rd rfl (rd_mulU (a := 0) (b := n) (c := 0) rfl rfl (by simp) (by omega)) ?_)
  refine gl_op (op_rd rfl (rd_move rfl) ?_)
  refine gl_op (op_rd rfl (rd_shrU (a := n) (b := 32) (c := 0) rfl rfl (by omega) (shr32 hn)) ?_)
  refine gl_op (op_rd rfl (rd_addU (a := 0) (b := 0) (c := 0) rfl rfl rfl (by omega)) ?_)
  refine gl_op (op_rd rfl (rd_assign rfl) ?_)
  refine gl_nil ?_
  refine gx_then ?_
  refine gc_seq ?_
  refine gc_region ?_
  refine gl_op (op_rd rfl (rd_move rfl) ?_)
  refine gl_op (op_rd rfl (rd_andU (a := 0) (b := 4294967295) (c := 0) rfl rfl (by omega) (by omega) (rfl)) ?_)
  refine gl_op (op_rd rfl (rd_assign rfl) ?_)
  refine gl_nil ?_
  refine gx_then ?_
  refine gc_seq ?_
  refine gc_region ?_
  refine gl_op (op_rd rfl (rd_move rfl) ?_)
  refine gl_op (op_rd rfl (rd_shrU (a := 0) (b := 32) (c := 0) rfl rfl (by omega) (rfl)) ?_)
  refine gl_op (op_rd rfl (rd_assign rfl) ?_)
  refine gl_nil ?_
  refine gx_then ?_
  refine gc_seq ?_
  refine gc_region ?_
  refine gl_op (op_rd rfl (rd_move rfl) ?_)
  refine gl_op (op_rd rfl (rd_move rfl) ?_)
  refine gl_op (op_rd rfl (rd_move rfl) ?_)
  refine gl_op (op_rd rfl (rd_mulU (a := 1) (b := 0) (c := 0) rfl rfl (by simp) (by omega)) ?_)
  refine gl_op (op_rd rfl (rd_addU (a := 0) (b := 0) (c := 0) rfl rfl rfl (by omega)) ?_)
  refine gl_op (op_rd rfl (rd_assign rfl) ?_)
  refine gl_nil ?_
  refine gx_then ?_
  refine gc_seq ?_
  refine gc_region ?_
  refine gl_op (op_rd rfl (rd_move rfl) ?_)
  refine gl_op (op_rd rfl (rd_move rfl) ?_)
  refine gl_op (op_rd rfl (rd_mulU (a := 0) (b := 0) (c := 0) rfl rfl (by simp) (by omega)) ?_)
  refine gl_op (op_rd rfl (rd_move rfl) ?_)
  refine gl_op (op_rd rfl (rd_addU (a := 0) (b := 0) (c := 0) rfl rfl rfl (by omega)) ?_)
  refine gl_op (op_rd rfl (rd_move rfl) ?_)
  refine gl_op (op_rd rfl (rd_shrU (a := 0) (b := 32) (c := 0) rfl rfl (by omega) (rfl)) ?_)
  refine gl_op (op_rd rfl (rd_addU (a := 0) (b := 0) (c := 0) rfl rfl rfl (by omega)) ?_)
  refine gl_op (op_rd rfl (rd_assign rfl) ?_)
  refine gl_nil ?_
  refine gx_then ?_
  refine gc_seq ?_
  refine gc_region ?_
  refine gl_op (op_rd rfl (rd_move rfl) ?_)
  refine gl_op (op_rd rfl (rd_move rfl) ?_)
  refine gl_op (op_rd rfl (rd_mulU (a := 1) (b := n) (c := n) rfl rfl (by simp) (by omega)) ?_)
  refine gl_op (op_rd rfl (rd_assign rfl) ?_)
  refine gl_nil ?_
  refine gx_then ?_
  refine gc_ret ?_
  refine gx_ret2 (.inl rfl) Try.results72 rfl rfl [] (by decide) ?_
  exact ⟨rfl, rfl⟩

set_option maxRecDepth 100000 in
set_option maxHeartbeats 1000000 in
theorem Mul_ok (n : Nat) (hn : n < 4294967296) (w0 : World) : Sp Try.prog 63 [.int .u64 ((1 : Nat) : Int), .int .u64 (n : Int)] w0 [] (RV (.tuple #[.int .u64 ((0 : Nat) : Int), .int .u64 (n : Int)])) := by
  refine spec_enter Try.func63 rfl Try.ntmps63 rfl (Own.refl _) ?_
  simp only [argEnv]
  refine gc_seq ?_
  refine gc_region ?_
  refine gl_op (op_rd rfl (rd_assign rfl) ?_)
  refine gl_op (op_rd rfl (rd_assign rfl) ?_)
  refine gl_nil ?_
  refine gx_then ?_
  refine gc_seq ?_
  refine gc_cond_f rfl ?_
  refine gc_skip ?_
  refine gx_then ?_
  refine gc_seq ?_
  refine gc_region ?_
  refine gl_op (op_rd rfl (rd_move rfl) ?_)
  refine gl_op (op_rd rfl (rd_move rfl) ?_)
  refine gl_op (op_call rfl (vf := []) (vc := []) rfl rfl Try.call72 (fun w1 ho => Mul64_ok n hn w1) ?_)
  rintro _ _ ⟨rfl, rfl⟩
  refine gl_op (op_rd rfl (rd_move rfl) ?_)
  refine gl_op (op_rd rfl (rd_extract rfl rfl) ?_)
  refine gl_op (op_rd rfl (rd_extract rfl rfl) ?_)
  refine gl_op (op_rd rfl (rd_assign rfl) ?_)
  refine gl_op (op_rd rfl (rd_assign rfl) ?_)
  refine gl_nil ?_
  refine gx_then ?_
  refine gc_seq ?_
  refine gc_region ?_
  refine gl_op (op_rd rfl (rd_move rfl) ?_)
  refine gl_op (op_rd rfl (rd_move rfl) ?_)
  refine gl_op (op_rd rfl (rd_assign rfl) ?_)
  refine gl_op (op_rd rfl (rd_assign rfl) ?_)
  refine gl_nil ?_
  refine gx_then ?_
  refine gc_ret ?_
  refine gx_ret2 (.inl rfl) Try.results63 rfl rfl [] (by decide) ?_
  exact ⟨rfl, rfl⟩

set_option maxRecDepth 100000 in
set_option maxHeartbeats 1000000 in
theorem Clone_ok (zs : List Nat) (a : Option Addr) (ca : Nat) (w0 : World) (hsl : OldSl w0 [] a zs.length 1 (zs.map u8V)) (hn : zs.length ≤ 140737488355328) : Sp Try.prog 42 [.slice a zs.length ca] w0 [] (fun v L => ∃ (r : Option Nat) (cp : Nat), v = .slice (rowA r) zs.length cp ∧ L = [.row 5 1 r zs.length cp (zs.map u8V)]) := by
  refine spec_enter Try.func42 rfl Try.ntmps42 rfl (Own.refl _) ?_
  simp only [argEnv]
  refine gc_seq ?_
  refine gc_region ?_
  refine gl_op (op_rd rfl (rd_assign rfl) ?_)
  refine gl_nil ?_
  refine gx_then ?_
  refine gc_seq ?_
  refine gc_seq ?_
  refine gc_region ?_
  refine gl_op (op_rd rfl (rd_move rfl) ?_)
  refine gl_op (op_rd rfl (rd_eqlNilSl eg_36 Try.underlying36 rfl rfl) ?_)
  refine gk_bool (fun h4 => ?_) (fun h4 => ?_)
  · skip
    obtain rfl : a = none := by cases a with
      | none => rfl
      | some ad => cases h4
    obtain rfl : zs = [] := by
      cases zs with
      | nil => rfl
      | cons z zs => have := hsl.isSome (by simp); cases this
    refine gl_nil ?_
    refine gx_then ?_
    refine gc_cond_t rfl ?_
    refine gc_seq ?_
    refine gk_nil 5 1 ?_
    refine gc_region ?_
    refine gl_op (op_rd rfl (rd_assign rfl) ?_)
    refine gl_nil ?_
    refine gx_then ?_
    refine gc_ret ?_
    refine gx_then_ret ?_
    refine gx_ret1 (.inl rfl) Try.results42 rfl [0] (by decide) ?_
    exact ⟨none, 0, rfl, rfl⟩
  · skip
    refine gl_nil ?_
    refine gx_then ?_
    refine gc_cond_f rfl ?_
    refine gc_skip ?_
    refine gx_then ?_
    refine gc_seq ?_
    refine gc_region ?_
    refine gl_op (op_buildSlice (sz := 1) rfl rfl (fun _ => bs_36_0_) rfl rfl (fun b5 => ?_))
    refine gl_op (op_rd rfl (rd_move rfl) ?_)
    refine gl_op (op_appendSl 0 hsl Try.underlying36 ty_5 rfl (by decide) rfl rfl rfl rfl (u8_one zs) (by omega) (by omega) (fun _ => (by first | rfl | (simp only [List.set_cons_succ, List.set_cons_zero]; exact rfl))) (fun r7 c7 => ?_))
    refine gl_op (op_rd rfl (rd_assign rfl) ?_)
    refine gl_nil ?_
    refine gx_then ?_
    refine gc_ret ?_
    refine gx_ret1 (.inl rfl) Try.results42 rfl [0] (by decide) ?_
    exact ⟨r7, c7, by rw [Nat.zero_add], by rw [Nat.zero_add]; rfl⟩

set_option maxRecDepth 100000 in
set_option maxHeartbeats 1000000 in
theorem Repeat_ok (z n : Nat) (a : Option Addr) (ca : Nat) (w0 : World) (hsl : OldSl w0 [] a 1 1 [u8V z]) (hn : n ≤ 1000000) : Sp Try.prog 36 [.slice a 1 ca, natV n] w0 [] (fun v L => ∃ (r cp : Nat), v = .slice (some ⟨r, 0, none⟩) n n ∧ L = [.row 5 1 (some r) n cp ((List.replicate n z).map u8V)]) := by
  obtain ⟨ad, rfl⟩ : ∃ ad, a = some ad := by
    have := hsl.isSome (by decide)
    cases a with
    | none => cases this
    | some ad => exact ⟨ad, rfl⟩
  refine spec_enter Try.func36 rfl Try.ntmps36 rfl (Own.refl _) ?_
  simp only [argEnv]
  refine gc_seq ?_
  refine gc_region ?_
  refine gl_op (op_rd rfl (rd_assign rfl) ?_)
  refine gl_nil ?_
  refine gx_then ?_
  refine gc_seq ?_
  refine gc_seq ?_
  refine gc_region ?_
  refine gl_op (op_rd rfl (rd_move rfl) ?_)
  refine gl_op (op_rd rfl (rd_eql rfl rfl) (gk_dec (fun h13 => ?_) (fun h13 => ?_)))
  · skip
    refine gl_nil ?_
    refine gx_then ?_
    refine gc_cond_t rfl ?_
    refine gc_seq ?_
    refine gc_region ?_
    refine gl_op (op_buildSlice (sz := 1) rfl rfl (fun _ => bs_36_0_) rfl rfl (fun b14 => ?_))
    refine gl_op (op_rd rfl (rd_assign rfl) ?_)
    refine gl_nil ?_
    refine gx_then ?_
    refine gc_ret ?_
    refine gx_then_ret ?_
    refine gx_ret1 (.inl rfl) Try.results36 rfl [0] (by decide) ?_
    obtain rfl : n = 0 := by omega
    exact ⟨b14, 0, rfl, rfl⟩
  · skip
    refine gl_nil ?_
    refine gx_then ?_
    refine gc_cond_f rfl ?_
    refine gc_skip ?_
    refine gx_then ?_
    refine gc_seq ?_
    refine gc_seq ?_
    refine gc_region ?_
    refine gl_op (op_rd rfl (rd_move rfl) ?_)
    refine gl_op (op_rd rfl (rd_lss rfl rfl) (gk_dec (fun h16 => ?_) (fun h16 => ?_)))
    · skip
      exfalso; omega
    · skip
      refine gl_nil ?_
      refine gx_then ?_
      refine gc_cond_f rfl ?_
      refine gc_skip ?_
      refine gx_then ?_
      refine gc_seq ?_
      refine gc_region ?_
      refine gl_op (op_rd rfl (rd_move rfl) ?_)
      refine gl_op (op_rd rfl (rd_lenSlice Try.underlying36 rfl) ?_)
      refine gl_op (op_rd rfl (rd_conv Try.runUnderlying3 Try.runUnderlying112 rfl (wrap_u64_nat (n := 1) (by omega))) ?_)
      refine gl_op (op_rd rfl (rd_move rfl) ?_)
      refine gl_op (op_rd rfl (rd_conv Try.runUnderlying3 Try.runUnderlying112 rfl (wrap_u64_nat (by omega))) ?_)
      refine gl_op (op_call rfl (vf := []) (vc := []) rfl rfl Try.call63 (fun w1 ho => Mul_ok n (by omega) w1) ?_)
      rintro _ _ ⟨rfl, rfl⟩
      refine gl_op (op_rd rfl (rd_move rfl) ?_)
      refine gl_op (op_rd rfl (rd_extract rfl rfl) ?_)
      refine gl_op (op_rd rfl (rd_extract rfl rfl) ?_)
      refine gl_op (op_rd rfl (rd_assign rfl) ?_)
      refine gl_op (op_rd rfl (rd_assign rfl) ?_)
      refine gl_nil ?_
      refine gx_then ?_
      refine gc_seq ?_
      refine gc_seq ?_
      refine gc_region ?_
      refine gl_op (op_rd rfl (rd_move rfl) ?_)
      refine gl_op (op_rd rfl (rd_gtr rfl rfl) (gk_dec (fun h28 => ?_) (fun h28 => ?_)))
      · skip
        exfalso; omega
      · skip
        refine gl_op (op_rd rfl (rd_move rfl) ?_)
        refine gl_yes rfl rfl (op_rd rfl (rd_move rfl) ?_)
        refine gl_yes rfl rfl (op_rd rfl (rd_gtr rfl rfl) (gk_dec (fun h31 => ?_) (fun h31 => ?_)))
        · skip
          exfalso; omega
        · skip
          refine gl_op (op_rd rfl (rd_pick_f rfl rfl) ?_)
          refine gl_nil ?_
          refine gx_then ?_
          refine gc_cond_f rfl ?_
          refine gc_skip ?_
          refine gx_then ?_
          refine gc_seq ?_
          refine gc_region ?_
          refine gl_op (op_rd rfl (rd_move rfl) ?_)
          refine gl_op (op_rd rfl (rd_conv Try.runUnderlying112 Try.runUnderlying3 rfl (wrap64_ok (by omega) (by omega))) ?_)
          refine gl_op (op_rd rfl (rd_assign rfl) ?_)
          refine gl_nil ?_
          refine gx_then ?_
          refine gc_seq ?_
          refine gc_seq ?_
          refine gc_region ?_
          refine gl_op (op_rd rfl (rd_move rfl) ?_)
          refine gl_op (op_rd rfl (rd_lenSlice Try.underlying36 rfl) ?_)
          refine gl_op (op_rd rfl (rd_eql rfl rfl) (gk_dec (fun h38 => ?_) (fun h38 => ?_)))
          · skip
            exfalso; omega
          · skip
            refine gl_nil ?_
            refine gx_then ?_
            refine gc_cond_f rfl ?_
            refine gc_skip ?_
            refine gx_then ?_
            refine gc_seq ?_
            refine gc_region ?_
            refine gl_op (op_rd rfl (rd_move rfl) ?_)
            refine gl_op (op_rd rfl (rd_assign rfl) ?_)
            refine gl_nil ?_
            refine gx_then ?_
            refine gc_seq ?_
            refine gc_seq ?_
            refine gc_region ?_
            refine gl_op (op_rd rfl (rd_move rfl) ?_)
            refine gl_op (op_rd rfl (rd_gtr rfl rfl) (gk_dec (fun h42 => ?_) (fun h42 => ?_)))
            · skip
              refine gl_nil ?_
              refine gx_then ?_
              refine gc_cond_t rfl ?_
              refine gc_seq ?_
              refine gc_region ?_
              refine gl_op (op_rd rfl (rd_move rfl) ?_)
              refine gl_op (op_rd rfl (rd_lenSlice Try.underlying36 rfl) ?_)
              refine gl_op (op_rd rfl (by first | exact rd_quoN (a := 8192) rfl rfl (by omega) (by omega) | exact rd_quo rfl rfl (by omega) (by omega) (by omega)) ?_)
              refine gl_op (op_rd rfl (rd_move rfl) ?_)
              refine gl_op (op_rd rfl (rd_lenSlice Try.underlying36 rfl) ?_)
              refine gl_op (op_rd rfl (by first | exact rd_mulN rfl rfl (by omega) | exact rd_mul rfl rfl (by omega) (by omega)) ?_)
              refine gl_op (op_rd rfl (rd_assign rfl) ?_)
              refine gl_nil ?_
              refine gx_then ?_
              refine gc_seq ?_
              refine gc_region ?_
              refine gl_op (op_rd rfl (rd_move rfl) ?_)
              refine gl_op (op_rd rfl (rd_eql rfl rfl) (gk_dec (fun h50 => ?_) (fun h50 => ?_)))
              · skip
                exfalso; omega
              · skip
                refine gl_nil ?_
                refine gx_then ?_
                refine gc_cond_f rfl ?_
                refine gc_skip ?_
                refine gx_then ?_
                refine gc_seq ?_
                refine gc_region ?_
                refine gl_op (op_rd rfl (rd_move rfl) ?_)
                refine gl_op (op_noZero (p := 3) (m := n) Try.func64 rfl rfl (by kernel_rfl) (by kernel_rfl) Try.underlying36 rfl rfl (by omega) (fun bn cn xs hcn hxl => ?_))
                refine gl_op (op_rd rfl (rd_move rfl) ?_)
                refine gl_op (op_rd rfl (rd_move rfl) ?_)
                refine gl_op (op_rd rfl (rd_slice3 Try.underlying36 ty_5 rfl rfl rfl (by omega) (by omega) (by omega)) ?_)
                refine gl_op (op_rd rfl (rd_assign rfl) ?_)
                refine gl_nil ?_
                refine gx_then ?_
                refine gc_seq ?_
                refine gc_region ?_
                refine gl_op (op_rd rfl (rd_move rfl) ?_)
                refine gl_op (op_rd rfl (rd_move rfl) ?_)
                refine gl_op (op_copyRow 0 0 (cs := [u8V z]) (sLen := 1) Try.underlying36 ty_5 rfl rfl rfl rfl (show 1 = Nat.min 1 n from (Nat.min_eq_left (by omega)).symm) (ad := ad) (fun w ho => (hsl.at ho).cells) (by simp; omega) (by simp [Value.oneCell']) (by first | rfl | (simp only [List.set_cons_succ, List.set_cons_zero]; exact rfl)) ?_)
                refine gl_op (op_rd rfl (rd_assign rfl) ?_)
                refine gl_nil ?_
                refine gx_then ?_
                refine gc_seq ?_
                refine gc_block ?_
                refine gc_loopF (ι := Nat × List Value) [(7, _), (8, _), (9, _)] [] (fun j => 1 ≤ j.1 ∧ j.1 ≤ n ∧ j.2.length = n ∧ j.2.take j.1 = List.replicate j.1 (u8V z)) (fun j Fr0 => ((10, natV j.1) :: Fr0)) (fun j Fr0 => (.row 5 1 (some bn) n cn j.2 :: Fr0)) (fun j => n - j.1) (1, xs.take 0 ++ [u8V z] ++ xs.drop (0 + [u8V z].length)) (⟨by simp only; omega, by simp only; omega, by simp; omega, by simp⟩) ⟨rfl, rfl, rfl, rfl, trivial⟩ ⟨[0], by decide, rfl⟩ ?_
                rintro ⟨k, ys⟩ ⟨hk1, hkn, hyl, hys⟩
                simp only at hk1 hkn hyl hys ⊢
                refine gc_seq ?_
                refine gc_seq ?_
                refine gc_region ?_
                refine gl_op (op_rd rfl (rd_move rfl) ?_)
                refine gl_op (op_rd rfl (rd_move rfl) ?_)
                refine gl_op (op_rd rfl (rd_lss rfl rfl) (gk_dec (fun h63 => ?_) (fun h63 => ?_)))
                · skip
                  refine gl_nil ?_
                  refine gx_then ?_
                  refine gc_cond_t rfl ?_
                  refine gc_skip ?_
                  refine gx_then ?_
                  refine gc_block ?_
                  refine gc_seq ?_
                  refine gc_region ?_
                  refine gl_op (op_rd rfl (rd_move rfl) ?_)
                  refine gl_op (op_rd rfl (rd_move rfl) ?_)
                  refine gl_op (op_rd rfl (rd_min2N rfl rfl) ?_)
                  refine gl_op (op_rd rfl (rd_assign rfl) ?_)
                  refine gl_nil ?_
                  refine gx_then ?_
                  refine gc_drawP [] true 9 rfl ?_
                  refine ga_first 0 #[true, false, false, false, false, false, false, false, false, false] rfl rfl rfl rfl (by kernel_rfl) rfl ⟨[], by decide, rfl⟩ (qt_rd (rd_move rfl)) ?_
                  refine ga_first 1 #[true, true, false, false, false, false, false, false, false, false] rfl rfl rfl rfl (by kernel_rfl) rfl ⟨[], by decide, rfl⟩ (qt_rd (rd_move rfl)) ?_
                  refine ga_first 2 #[true, true, true, false, false, false, false, false, false, false] rfl rfl rfl rfl (by kernel_rfl) rfl ⟨[], by decide, rfl⟩ (qt_rd (rd_move rfl)) ?_
                  refine ga_first 3 #[true, true, true, true, false, false, false, false, false, false] rfl rfl rfl rfl (by kernel_rfl) rfl ⟨[], by decide, rfl⟩ (qt_rd (rd_sliceLo Try.underlying36 ty_5 rfl rfl (by omega) (by omega))) ?_
                  refine ga_first 4 #[true, true, true, true, true, false, false, false, false, false] rfl rfl rfl rfl (by kernel_rfl) rfl ⟨[], by decide, rfl⟩ (qt_rd (rd_move rfl)) ?_
                  refine ga_first 5 #[true, true, true, true, true, true, false, false, false, false] rfl rfl rfl rfl (by kernel_rfl) rfl ⟨[], by decide, rfl⟩ (qt_rd (rd_move rfl)) ?_
                  refine ga_first 6 #[true, true, true, true, true, true, true, false, false, false] rfl rfl rfl rfl (by kernel_rfl) rfl ⟨[], by decide, rfl⟩ (qt_rd (rd_sliceHi Try.underlying36 ty_5 rfl rfl (by omega) (by omega))) ?_
                  simp only [Int.toNat_natCast]
                  rw [subA_row (show k < n by omega)]
                  obtain ⟨c, hc⟩ : ∃ c, c = min (min k (8192 / 1 * 1)) (n - k) := ⟨_, rfl⟩
                  have hcs : (ys.drop 0).take c = List.replicate c (u8V z) := by
                    have h := congrArg (List.take c) hys
                    rw [List.take_take, List.take_replicate, Nat.min_eq_left (by omega)] at h
                    exact h
                  refine ga_only 7 #[true, true, true, true, true, true, true, true, false, false] rfl rfl (by kernel_rfl) rfl (.inr ⟨[], by decide, rfl⟩) (op_copyRow 0 k (cs := List.replicate c (u8V z)) Try.underlying36 ty_5 rfl rfl rfl rfl (by rw [List.length_replicate]; exact hc) (cs_row 0 (a := some bn) rfl hcs) (by rw [List.length_replicate]; omega) (fun u hu => by rw [List.eq_of_mem_replicate hu]; rfl) (by first | rfl | (simp only [List.set_cons_succ, List.set_cons_zero]; exact rfl)) ?_)
                  rw [List.length_replicate]
                  refine ga_first 8 #[true, true, true, true, true, true, true, true, true, false] rfl rfl rfl rfl (by kernel_rfl) rfl ⟨[], by decide, rfl⟩ (qt_rd (by first | exact rd_addN rfl rfl (by omega) | exact rd_add rfl rfl (by omega) (by omega))) ?_
                  refine ga_first 9 #[true, true, true, true, true, true, true, true, true, true] rfl rfl rfl rfl (by kernel_rfl) rfl ⟨[], by decide, rfl⟩ (qt_rd (rd_assign rfl)) ?_
                  refine ga_end (by kernel_rfl) (.inr ⟨[], by decide, rfl⟩) ?_
                  refine gx_block ?_
                  refine gx_then ?_
                  exact gx_cut ((k + c, ys.take k ++ List.replicate c (u8V z) ++ ys.drop (k + c))) ⟨⟨by simp only; omega, by simp only; omega, by simp; omega, by simp only; rw [hys, List.replicate_append_replicate, List.take_append_of_le_length (by simp), List.take_of_length_le (by simp)]⟩, by simp only; omega⟩ ⟨rfl, rfl, rfl, rfl, trivial⟩ ⟨[0], by decide, rfl⟩
                · skip
                  refine gl_nil ?_
                  refine gx_then ?_
                  refine gc_cond_f rfl ?_
                  refine gc_exit ?_
                  refine gx_then_exit ?_
                  refine gx_then_exit ?_
                  refine gx_block_exit ?_
                  refine gx_then ?_
                  refine gc_seq ?_
                  refine gc_region ?_
                  refine gl_op (op_rd rfl (rd_move rfl) ?_)
                  refine gl_op (op_rd rfl (rd_assign rfl) ?_)
                  refine gl_nil ?_
                  refine gx_then ?_
                  refine gc_ret ?_
                  refine gx_ret1 (.inl rfl) Try.results36 rfl [0] (by decide) ?_
                  have hye : ys = List.replicate n (u8V z) := by
                    rw [show k = n by omega, List.take_of_length_le (by omega)] at hys
                    exact hys
                  exact ⟨bn, cn, rfl, by rw [hye, List.map_replicate]; rfl⟩
            · skip
              refine gl_nil ?_
              refine gx_then ?_
              refine gc_cond_f rfl ?_
              refine gc_skip ?_
              refine gx_then ?_
              refine gc_seq ?_
              refine gc_region ?_
              refine gl_op (op_rd rfl (rd_move rfl) ?_)
              refine gl_op (op_noZero (p := 3) (m := n) Try.func64 rfl rfl (by kernel_rfl) (by kernel_rfl) Try.underlying36 rfl rfl (by omega) (fun bn cn xs hcn hxl => ?_))
              refine gl_op (op_rd rfl (rd_move rfl) ?_)
              refine gl_op (op_rd rfl (rd_move rfl) ?_)
              refine gl_op (op_rd rfl (rd_slice3 Try.underlying36 ty_5 rfl rfl rfl (by omega) (by omega) (by omega)) ?_)
              refine gl_op (op_rd rfl (rd_assign rfl) ?_)
              refine gl_nil ?_
              refine gx_then ?_
              refine gc_seq ?_
              refine gc_region ?_
              refine gl_op (op_rd rfl (rd_move rfl) ?_)
              refine gl_op (op_rd rfl (rd_move rfl) ?_)
              refine gl_op (op_copyRow 0 0 (cs := [u8V z]) (sLen := 1) Try.underlying36 ty_5 rfl rfl rfl rfl (show 1 = Nat.min 1 n from (Nat.min_eq_left (by omega)).symm) (ad := ad) (fun w ho => (hsl.at ho).cells) (by simp; omega) (by simp [Value.oneCell']) (by first | rfl | (simp only [List.set_cons_succ, List.set_cons_zero]; exact rfl)) ?_)
              refine gl_op (op_rd rfl (rd_assign rfl) ?_)
              refine gl_nil ?_
              refine gx_then ?_
              refine gc_seq ?_
              refine gc_block ?_
              refine gc_loopF (ι := Nat × List Value) [(7, _), (8, _), (9, _)] [] (fun j => 1 ≤ j.1 ∧ j.1 ≤ n ∧ j.2.length = n ∧ j.2.take j.1 = List.replicate j.1 (u8V z)) (fun j Fr0 => ((10, natV j.1) :: Fr0)) (fun j Fr0 => (.row 5 1 (some bn) n cn j.2 :: Fr0)) (fun j => n - j.1) (1, xs.take 0 ++ [u8V z] ++ xs.drop (0 + [u8V z].length)) (⟨by simp only; omega, by simp only; omega, by simp; omega, by simp⟩) ⟨rfl, rfl, rfl, rfl, trivial⟩ ⟨[0], by decide, rfl⟩ ?_
              rintro ⟨k, ys⟩ ⟨hk1, hkn, hyl, hys⟩
              simp only at hk1 hkn hyl hys ⊢
              refine gc_seq ?_
              refine gc_seq ?_
              refine gc_region ?_
              refine gl_op (op_rd rfl (rd_move rfl) ?_)
              refine gl_op (op_rd rfl (rd_move rfl) ?_)
              refine gl_op (op_rd rfl (rd_lss rfl rfl) (gk_dec (fun h63 => ?_) (fun h63 => ?_)))
              · skip
                refine gl_nil ?_
                refine gx_then ?_
                refine gc_cond_t rfl ?_
                refine gc_skip ?_
                refine gx_then ?_
                refine gc_block ?_
                refine gc_seq ?_
                refine gc_region ?_
                refine gl_op (op_rd rfl (rd_move rfl) ?_)
                refine gl_op (op_rd rfl (rd_move rfl) ?_)
                refine gl_op (op_rd rfl (rd_min2N rfl rfl) ?_)
                refine gl_op (op_rd rfl (rd_assign rfl) ?_)
                refine gl_nil ?_
                refine gx_then ?_
                refine gc_drawP [] true 9 rfl ?_
                refine ga_first 0 #[true, false, false, false, false, false, false, false, false, false] rfl rfl rfl rfl (by kernel_rfl) rfl ⟨[], by decide, rfl⟩ (qt_rd (rd_move rfl)) ?_
                refine ga_first 1 #[true, true, false, false, false, false, false, false, false, false] rfl rfl rfl rfl (by kernel_rfl) rfl ⟨[], by decide, rfl⟩ (qt_rd (rd_move rfl)) ?_
                refine ga_first 2 #[true, true, true, false, false, false, false, false, false, false] rfl rfl rfl rfl (by kernel_rfl) rfl ⟨[], by decide, rfl⟩ (qt_rd (rd_move rfl)) ?_
                refine ga_first 3 #[true, true, true, true, false, false, false, false, false, false] rfl rfl rfl rfl (by kernel_rfl) rfl ⟨[], by decide, rfl⟩ (qt_rd (rd_sliceLo Try.underlying36 ty_5 rfl rfl (by omega) (by omega))) ?_
                refine ga_first 4 #[true, true, true, true, true, false, false, false, false, false] rfl rfl rfl rfl (by kernel_rfl) rfl ⟨[], by decide, rfl⟩ (qt_rd (rd_move rfl)) ?_
                refine ga_first 5 #[true, true, true, true, true, true, false, false, false, false] rfl rfl rfl rfl (by kernel_rfl) rfl ⟨[], by decide, rfl⟩ (qt_rd (rd_move rfl)) ?_
                refine ga_first 6 #[true, true, true, true, true, true, true, false, false, false] rfl rfl rfl rfl (by kernel_rfl) rfl ⟨[], by decide, rfl⟩ (qt_rd (rd_sliceHi Try.underlying36 ty_5 rfl rfl (by omega) (by omega))) ?_
                simp only [Int.toNat_natCast]
                rw [subA_row (show k < n by omega)]
                obtain ⟨c, hc⟩ : ∃ c, c = min (min k n) (n - k) := ⟨_, rfl⟩
                have hcs : (ys.drop 0).take c = List.replicate c (u8V z) := by
                  have h := congrArg (List.take c) hys
                  rw [List.take_take, List.take_replicate, Nat.min_eq_left (by omega)] at h
                  exact h
                refine ga_only 7 #[true, true, true, true, true, true, true, true, false, false] rfl rfl (by kernel_rfl) rfl (.inr ⟨[], by decide, rfl⟩) (op_copyRow 0 k (cs := List.replicate c (u8V z)) Try.underlying36 ty_5 rfl rfl rfl rfl (by rw [List.length_replicate]; exact hc) (cs_row 0 (a := some bn) rfl hcs) (by rw [List.length_replicate]; omega) (fun u hu => by rw [List.eq_of_mem_replicate hu]; rfl) (by first | rfl | (simp only [List.set_cons_succ, List.set_cons_zero]; exact rfl)) ?_)
                rw [List.length_replicate]
                refine ga_first 8 #[true, true, true, true, true, true, true, true, true, false] rfl rfl rfl rfl (by kernel_rfl) rfl ⟨[], by decide, rfl⟩ (qt_rd (by first | exact rd_addN rfl rfl (by omega) | exact rd_add rfl rfl (by omega) (by omega))) ?_
                refine ga_first 9 #[true, true, true, true, true, true, true, true, true, true] rfl rfl rfl rfl (by kernel_rfl) rfl ⟨[], by decide, rfl⟩ (qt_rd (rd_assign rfl)) ?_
                refine ga_end (by kernel_rfl) (.inr ⟨[], by decide, rfl⟩) ?_
                refine gx_block ?_
                refine gx_then ?_
                exact gx_cut ((k + c, ys.take k ++ List.replicate c (u8V z) ++ ys.drop (k + c))) ⟨⟨by simp only; omega, by simp only; omega, by simp; omega, by simp only; rw [hys, List.replicate_append_replicate, List.take_append_of_le_length (by simp), List.take_of_length_le (by simp)]⟩, by simp only; omega⟩ ⟨rfl, rfl, rfl, rfl, trivial⟩ ⟨[0], by decide, rfl⟩
              · skip
                refine gl_nil ?_
                refine gx_then ?_
                refine gc_cond_f rfl ?_
                refine gc_exit ?_
                refine gx_then_exit ?_
                refine gx_then_exit ?_
                refine gx_block_exit ?_
                refine gx_then ?_
                refine gc_seq ?_
                refine gc_region ?_
                refine gl_op (op_rd rfl (rd_move rfl) ?_)
                refine gl_op (op_rd rfl (rd_assign rfl) ?_)
                refine gl_nil ?_
                refine gx_then ?_
                refine gc_ret ?_
                refine gx_ret1 (.inl rfl) Try.results36 rfl [0] (by decide) ?_
                have hye : ys = List.replicate n (u8V z) := by
                  rw [show k = n by omega, List.take_of_length_le (by omega)] at hys
                  exact hys
                exact ⟨bn, cn, rfl, by rw [hye, List.map_replicate]; rfl⟩

end Go.Proofs.Ythcbcdjkfefnlaa

set_option autoImplicit false
set_option linter.unusedVariables false
namespace Go.Proofs.Ythcbcdjkfefnlaa
open Go.Gv
open Go.RowKit
namespace Iv
/-- a flash -/
structure Fl where
  b : List Nat
  left : Int
  picks : List Nat
  down : Bool
  pr : Nat
  er : Nat
  st : Nat
  deriving Inhabited
abbrev Fl.cells (f : Fl) (rb : Option Nat) (cb : Nat) (rp : Option Nat) (cp : Nat) : List Value :=
  [.bool true, .slice (rowA rb) f.b.length cb, .int .i64 f.left, .slice (rowA rp) f.picks.length cp, .bool f.down, natV f.pr, natV f.er, natV f.st]
abbrev FlH (bf : Nat) (rb : Option Nat) (cb : Nat) (rp : Option Nat) (cp : Nat) (f : Fl) : List HL :=
  [.blk bf (f.cells rb cb rp cp) 72, .row 5 1 rb f.b.length cb (f.b.map u8V), .row 5 1 rp f.picks.length cp (f.picks.map u8V)]
structure Fl.Ok (f : Fl) : Prop where
  bs : ∀ z ∈ f.b, z < 256
  ps : ∀ z ∈ f.picks, z < 256
  len : f.b.length % 256 = 0
  lo : 1024 ≤ f.b.length
  hi : f.b.length ≤ 16384
  pl : f.picks.length ≤ 256
  pr : f.pr < 4611686018427387904
  er : f.er < 4611686018427387904
  st : f.st < 4611686018427387904
  l0 : -1 ≤ f.left
  l1 : f.left ≤ 9223372036854775807
def flBegins (f : Fl) (at_ : Int) (many : Int) : Int := if at_ < 0 then 2 else if at_ ≥ many then 2 else if f.down then 9 else 0
def flFails (f : Fl) : Fl := if f.left = 0 then { f with down := true } else if 0 < f.left then { f with down := false, left := f.left - 1 } else { f with down := false }
def gB (b : List Nat) (k : Nat) : Nat := b.getD k 0
def flProg1 (f : Fl) (k v : Nat) : Fl × Int :=
  if !(flFails { f with pr := f.pr + 1 }).down then ({ flFails { f with pr := f.pr + 1 } with b := f.b.set k (gB f.b k &&& v) }, 0)
  else ({ flFails { f with pr := f.pr + 1 } with b := f.b.set k (gB f.b k &&& (if 0 < f.picks.length then v ||| gB f.picks 0 else v)) }, 9)
def flProg (f : Fl) (at_ : Int) (v : Nat) : Fl × Int := if flBegins f at_ f.b.length ≠ 0 then (f, flBegins f at_ f.b.length) else flProg1 f at_.toNat v
def orTo (picks : List Nat) (b : List Nat) (o n : Nat) : List Nat := (List.range n).foldl (fun b i => b.set (o + i) (gB b (o + i) ||| gB picks (i % picks.length))) b
def flErase1 (f : Fl) (k : Nat) : Fl × Int :=
  ({ flFails { f with er := f.er + 1 } with b := if !(flFails { f with er := f.er + 1 }).down || decide (f.picks.length = 0) then f.b.take (k * 256) ++ List.replicate 256 255 ++ f.b.drop (k * 256 + 256) else orTo f.picks f.b (k * 256) 256 }, if (flFails { f with er := f.er + 1 }).down then 9 else 0)
def flErase (f : Fl) (at_ : Int) : Fl × Int := if flBegins f at_ (f.b.length / 256 : Nat) ≠ 0 then (f, flBegins f at_ (f.b.length / 256 : Nat)) else flErase1 f at_.toNat
def flRead (f : Fl) (at_ : Int) : Nat × Int := if flBegins f at_ f.b.length ≠ 0 then (0, flBegins f at_ f.b.length) else (gB f.b at_.toNat, 0)
def flBytes (f : Fl) : List Nat × Int := if f.down then ([], 9) else (f.b, 0)
def flFuse (f : Fl) (n : Int) (ps : List Nat) : Fl × Int := if n < 0 ∨ 256 < ps.length then (f, 2) else if f.down then (f, 9) else ({ f with left := n, picks := ps }, 0)
def flRestart (f : Fl) : Fl := { f with down := false, left := -1, picks := [] }
theorem flFails_b (f : Fl) : (flFails f).b = f.b := by
  unfold flFails
  split
  · rfl
  · split <;> rfl
theorem flFails_picks (f : Fl) : (flFails f).picks = f.picks := by
  unfold flFails
  split
  · rfl
  · split <;> rfl
theorem gB_get {b : List Nat} {k : Nat} (h : k < b.length) : b[k]? = some (gB b k) := by simp [gB, h]
theorem gB_lt {b : List Nat} (h : ∀ z ∈ b, z < 256) (k : Nat) : gB b k < 256 := by
  unfold gB
  by_cases hk : k < b.length
  · rw [show b.getD k 0 = b[k] by simp [hk]]; exact h _ (List.getElem_mem _)
  · rw [List.getD_eq_getElem?_getD, List.getElem?_eq_none (by omega)]; decide
theorem setU8 (b : List Nat) (k z : Nat) : (b.map u8V).set k (u8V z) = (b.set k z).map u8V := by rw [List.map_set]
end Iv
end Go.Proofs.Ythcbcdjkfefnlaa

set_option autoImplicit false
set_option linter.unusedVariables false
namespace Go.Proofs.Ythcbcdjkfefnlaa
open Go.Gv
open Go.RowKit
open Iv
set_option maxRecDepth 100000 in
set_option maxHeartbeats 1000000 in
theorem none_ok (f : Fl) (hf : f.Ok) (bf : Nat) (rb : Option Nat) (cb : Nat) (rp : Option Nat) (cp : Nat) (S : List Nat) (w0 : World) (hown : Own w0 S w0 (FlH bf rb cb rp cp f))  : Sp Try.prog 37 [.pointer (some ⟨bf, 0, none⟩)] w0 S (fun v L => v = .bool false ∧ L = FlH bf rb cb rp cp f) := by
  have hbl := hf.hi
  have hbl0 := hf.lo
  refine spec_enter Try.func37 rfl Try.ntmps37 rfl hown ?_
  simp only [argEnv]
  refine gc_seq ?_
  refine gc_region ?_
  refine gl_op (op_rd rfl (rd_assign rfl) ?_)
  refine gl_nil ?_
  refine gx_then ?_
  refine gc_seq ?_
  refine gc_region ?_
  refine gl_op (op_rd rfl (rd_move rfl) ?_)
  refine gl_op (op_rd rfl (rd_eqlNilPt eg_25 Try.underlying25 rfl rfl) ?_)
  refine gl_op (op_rd rfl (rd_move rfl) ?_)
  refine gl_yes rfl rfl (op_rd rfl (rd_move rfl) ?_)
  refine gl_yes rfl rfl (op_rd rfl (rd_nilCheck rfl) ?_)
  refine gl_yes rfl rfl (op_rd rfl (rd_fieldAddr rfl (fa_72_0 _)) ?_)
  refine gl_yes rfl rfl (op_rd rfl (rd_load Try.underlying4 rfl rfl (by first | exact ld_blk 0 rfl rfl | exact ld_rowN 1 rfl (get_bools (by omega)) | exact ld_rowN 2 rfl (get_bools (by omega)) | exact ld_slN (by assumption) (get_bools (by omega)) | exact ld_old (by assumption) (by simp) | exact ld_cells (by assumption) (by simp) rfl)) ?_)
  refine gl_yes rfl rfl (op_rd rfl (rd_not rfl) ?_)
  refine gl_op (op_rd rfl (rd_pick_f rfl rfl) ?_)
  refine gl_op (op_rd rfl (rd_assign rfl) ?_)
  refine gl_nil ?_
  refine gx_then ?_
  refine gc_ret ?_
  refine gx_ret1 (.inl rfl) Try.results37 rfl [0, 1, 2] (by decide) ?_
  exact ⟨rfl, rfl⟩

set_option maxRecDepth 100000 in
set_option maxHeartbeats 1000000 in
theorem Blocks_ok (f : Fl) (hf : f.Ok) (bf : Nat) (rb : Option Nat) (cb : Nat) (rp : Option Nat) (cp : Nat) (S : List Nat) (w0 : World) (hown : Own w0 S w0 (FlH bf rb cb rp cp f))  : Sp Try.prog 33 [.pointer (some ⟨bf, 0, none⟩)] w0 S (fun v L => v = natV (f.b.length / 256) ∧ L = FlH bf rb cb rp cp f) := by
  have hbl := hf.hi
  have hbl0 := hf.lo
  refine spec_enter Try.func33 rfl Try.ntmps33 rfl hown ?_
  simp only [argEnv]
  refine gc_seq ?_
  refine gc_region ?_
  refine gl_op (op_rd rfl (rd_assign rfl) ?_)
  refine gl_nil ?_
  refine gx_then ?_
  refine gc_seq ?_
  refine gc_seq ?_
  refine gc_region ?_
  refine gl_op (op_rd rfl (rd_move rfl) ?_)
  refine gl_op (op_callM [0, 1, 2] [] rfl (vf := []) (vc := []) rfl rfl Try.call37 (by decide) rfl (fun w how hc => none_ok f hf bf rb cb rp cp _ w hc) ?_)
  rintro _ _ ⟨rfl, rfl⟩
  refine gl_nil ?_
  refine gx_then ?_
  refine gc_cond_f rfl ?_
  refine gc_skip ?_
  refine gx_then ?_
  refine gc_seq ?_
  refine gc_region ?_
  refine gl_op (op_rd rfl (rd_move rfl) ?_)
  refine gl_op (op_rd rfl (rd_nilCheck rfl) ?_)
  refine gl_op (op_rd rfl (rd_fieldAddr rfl (fa_72_1 _)) ?_)
  refine gl_op (op_rd rfl (rd_load Try.underlying36 rfl rfl (by first | exact ld_blk 0 rfl rfl | exact ld_old (by assumption) (by simp) | exact ld_cells (by assumption) (by simp) rfl)) ?_)
  refine gl_op (op_rd rfl (rd_lenSlice Try.underlying36 rfl) ?_)
  refine gl_op (op_rd rfl (by first | exact rd_quoN (b := 256) rfl rfl (by omega) (by omega) | exact rd_quo rfl rfl (by omega) (by omega) (by omega)) ?_)
  refine gl_op (op_rd rfl (rd_assign rfl) ?_)
  refine gl_nil ?_
  refine gx_then ?_
  refine gc_ret ?_
  refine gx_ret1 (.inl rfl) Try.results33 rfl [0, 1, 2] (by decide) ?_
  exact ⟨rfl, rfl⟩

set_option maxRecDepth 100000 in
set_option maxHeartbeats 1000000 in
theorem Counts_ok (f : Fl) (hf : f.Ok) (bf : Nat) (rb : Option Nat) (cb : Nat) (rp : Option Nat) (cp : Nat) (S : List Nat) (w0 : World) (hown : Own w0 S w0 (FlH bf rb cb rp cp f))  : Sp Try.prog 16 [.pointer (some ⟨bf, 0, none⟩)] w0 S (fun v L => v = .tuple #[natV f.pr, natV f.er] ∧ L = FlH bf rb cb rp cp f) := by
  have hbl := hf.hi
  have hbl0 := hf.lo
  refine spec_enter Try.func16 rfl Try.ntmps16 rfl hown ?_
  simp only [argEnv]
  refine gc_seq ?_
  refine gc_region ?_
  refine gl_op (op_rd rfl (rd_assign rfl) ?_)
  refine gl_op (op_rd rfl (rd_assign rfl) ?_)
  refine gl_nil ?_
  refine gx_then ?_
  refine gc_seq ?_
  refine gc_seq ?_
  refine gc_region ?_
  refine gl_op (op_rd rfl (rd_move rfl) ?_)
  refine gl_op (op_callM [0, 1, 2] [] rfl (vf := []) (vc := []) rfl rfl Try.call37 (by decide) rfl (fun w how hc => none_ok f hf bf rb cb rp cp _ w hc) ?_)
  rintro _ _ ⟨rfl, rfl⟩
  refine gl_nil ?_
  refine gx_then ?_
  refine gc_cond_f rfl ?_
  refine gc_skip ?_
  refine gx_then ?_
  refine gc_seq ?_
  refine gc_drawP [0, 1, 2] true 9 rfl ?_
  refine ga_first 0 #[true, false, false, false, false, false, false, false, false, false] rfl rfl rfl rfl (by kernel_rfl) rfl ⟨[0, 1, 2], by decide, rfl⟩ (qt_rd (rd_move rfl)) ?_
  refine ga_first 1 #[true, true, false, false, false, false, false, false, false, false] rfl rfl rfl rfl (by kernel_rfl) rfl ⟨[0, 1, 2], by decide, rfl⟩ (qt_rd (rd_nilCheck rfl)) ?_
  refine ga_first 2 #[true, true, true, false, false, false, false, false, false, false] rfl rfl rfl rfl (by kernel_rfl) rfl ⟨[0, 1, 2], by decide, rfl⟩ (qt_rd (rd_fieldAddr rfl (fa_72_5 _))) ?_
  refine ga_first 3 #[true, true, true, true, false, false, false, false, false, false] rfl rfl rfl rfl (by kernel_rfl) rfl ⟨[0, 1, 2], by decide, rfl⟩ (qt_rd (rd_load Try.underlying3 rfl rfl (by first | exact ld_blk 0 rfl rfl | exact ld_rowN 1 rfl (get_nats (by omega)) | exact ld_rowN 2 rfl (get_nats (by omega)) | exact ld_slN (by assumption) (get_nats (by omega)) | exact ld_rowN 1 rfl (get_ints (by omega)) | exact ld_rowN 2 rfl (get_ints (by omega)) | exact ld_slN (by assumption) (get_ints (by omega)) | exact ld_old (by assumption) (by simp) | exact ld_cells (by assumption) (by simp) rfl))) ?_
  refine ga_first 4 #[true, true, true, true, true, false, false, false, false, false] rfl rfl rfl rfl (by kernel_rfl) rfl ⟨[0, 1, 2], by decide, rfl⟩ (qt_rd (rd_move rfl)) ?_
  refine ga_first 5 #[true, true, true, true, true, true, false, false, false, false] rfl rfl rfl rfl (by kernel_rfl) rfl ⟨[0, 1, 2], by decide, rfl⟩ (qt_rd (rd_nilCheck rfl)) ?_
  refine ga_first 6 #[true, true, true, true, true, true, true, false, false, false] rfl rfl rfl rfl (by kernel_rfl) rfl ⟨[0, 1, 2], by decide, rfl⟩ (qt_rd (rd_fieldAddr rfl (fa_72_6 _))) ?_
  refine ga_first 7 #[true, true, true, true, true, true, true, true, false, false] rfl rfl rfl rfl (by kernel_rfl) rfl ⟨[0, 1, 2], by decide, rfl⟩ (qt_rd (rd_load Try.underlying3 rfl rfl (by first | exact ld_blk 0 rfl rfl | exact ld_rowN 1 rfl (get_nats (by omega)) | exact ld_rowN 2 rfl (get_nats (by omega)) | exact ld_slN (by assumption) (get_nats (by omega)) | exact ld_rowN 1 rfl (get_ints (by omega)) | exact ld_rowN 2 rfl (get_ints (by omega)) | exact ld_slN (by assumption) (get_ints (by omega)) | exact ld_old (by assumption) (by simp) | exact ld_cells (by assumption) (by simp) rfl))) ?_
  refine ga_first 8 #[true, true, true, true, true, true, true, true, true, false] rfl rfl rfl rfl (by kernel_rfl) rfl ⟨[0, 1, 2], by decide, rfl⟩ (qt_rd (rd_assign rfl)) ?_
  refine ga_first 9 #[true, true, true, true, true, true, true, true, true, true] rfl rfl rfl rfl (by kernel_rfl) rfl ⟨[0, 1, 2], by decide, rfl⟩ (qt_rd (rd_assign rfl)) ?_
  refine ga_end (by kernel_rfl) (.inr ⟨[0, 1, 2], by decide, rfl⟩) ?_
  refine gx_then ?_
  refine gc_ret ?_
  refine gx_ret2 (.inl rfl) Try.results16 rfl rfl [0, 1, 2] (by decide) ?_
  exact ⟨rfl, rfl⟩

set_option maxRecDepth 100000 in
set_option maxHeartbeats 1000000 in
theorem begins_ok (f : Fl) (hf : f.Ok) (bf : Nat) (rb : Option Nat) (cb : Nat) (rp : Option Nat) (cp : Nat) (S : List Nat) (w0 : World) (hown : Own w0 S w0 (FlH bf rb cb rp cp f)) (at_ many : Int) : Sp Try.prog 54 [.pointer (some ⟨bf, 0, none⟩), .int .i64 at_, .int .i64 many] w0 S (fun v L => v = .int .i64 (flBegins f at_ many) ∧ L = FlH bf rb cb rp cp f) := by
  have hbl := hf.hi
  have hbl0 := hf.lo
  refine spec_enter Try.func54 rfl Try.ntmps54 rfl hown ?_
  simp only [argEnv]
  refine gc_seq ?_
  refine gc_region ?_
  refine gl_op (op_rd rfl (rd_assign rfl) ?_)
  refine gl_nil ?_
  refine gx_then ?_
  refine gc_seq ?_
  refine gc_block ?_
  refine gc_seq ?_
  refine gc_region ?_
  refine gl_op (op_rd rfl (rd_move rfl) ?_)
  refine gl_op (op_callM [0, 1, 2] [] rfl (vf := []) (vc := []) rfl rfl Try.call37 (by decide) rfl (fun w how hc => none_ok f hf bf rb cb rp cp _ w hc) ?_)
  rintro _ _ ⟨rfl, rfl⟩
  refine gl_op (op_rd rfl (rd_assign rfl) ?_)
  refine gl_nil ?_
  refine gx_then ?_
  refine gc_cond_f rfl ?_
  refine gc_seq ?_
  refine gc_region ?_
  refine gl_op (op_rd rfl (rd_move rfl) ?_)
  refine gl_op (op_rd rfl (rd_lss rfl rfl) (gk_dec (fun h12 => ?_) (fun h12 => ?_)))
  · skip
    refine gl_op (op_rd rfl (rd_move rfl) ?_)
    refine gl_no rfl rfl rfl ?_
    refine gl_no rfl rfl rfl ?_
    refine gl_no rfl rfl rfl ?_
    refine gl_op (op_rd rfl (rd_pick_t rfl rfl) ?_)
    refine gl_op (op_rd rfl (rd_assign rfl) ?_)
    refine gl_nil ?_
    refine gx_then ?_
    refine gc_cond_t rfl ?_
    refine gc_seq ?_
    refine gc_region ?_
    refine gl_op (op_rd rfl (rd_assign rfl) ?_)
    refine gl_nil ?_
    refine gx_then ?_
    refine gc_ret ?_
    refine gx_block_ret ?_
    refine gx_then_ret ?_
    refine gx_ret1 (.inl rfl) Try.results54 rfl [0, 1, 2] (by decide) ?_
    refine ⟨congrArg (Value.int .i64) ?_, rfl⟩
    unfold flBegins
    rw [if_pos h12]
  · skip
    refine gl_op (op_rd rfl (rd_move rfl) ?_)
    refine gl_yes rfl rfl (op_rd rfl (rd_move rfl) ?_)
    refine gl_yes rfl rfl (op_rd rfl (rd_move rfl) ?_)
    refine gl_yes rfl rfl (op_rd rfl (rd_geq rfl rfl) (gk_dec (fun h16 => ?_) (fun h16 => ?_)))
    · skip
      refine gl_op (op_rd rfl (rd_pick_f rfl rfl) ?_)
      refine gl_op (op_rd rfl (rd_assign rfl) ?_)
      refine gl_nil ?_
      refine gx_then ?_
      refine gc_cond_t rfl ?_
      refine gc_seq ?_
      refine gc_region ?_
      refine gl_op (op_rd rfl (rd_assign rfl) ?_)
      refine gl_nil ?_
      refine gx_then ?_
      refine gc_ret ?_
      refine gx_block_ret ?_
      refine gx_then_ret ?_
      refine gx_ret1 (.inl rfl) Try.results54 rfl [0, 1, 2] (by decide) ?_
      refine ⟨congrArg (Value.int .i64) ?_, rfl⟩
      unfold flBegins
      rw [if_neg h12, if_pos (by omega)]
    · skip
      refine gl_op (op_rd rfl (rd_pick_f rfl rfl) ?_)
      refine gl_op (op_rd rfl (rd_assign rfl) ?_)
      refine gl_nil ?_
      refine gx_then ?_
      refine gc_cond_f rfl ?_
      refine gc_seq ?_
      refine gc_region ?_
      refine gl_op (op_rd rfl (rd_move rfl) ?_)
      refine gl_op (op_rd rfl (rd_nilCheck rfl) ?_)
      refine gl_op (op_rd rfl (rd_fieldAddr rfl (fa_72_4 _)) ?_)
      refine gl_op (op_rd rfl (rd_load Try.underlying4 rfl rfl (by first | exact ld_blk 0 rfl rfl | exact ld_rowN 1 rfl (get_bools (by omega)) | exact ld_rowN 2 rfl (get_bools (by omega)) | exact ld_slN (by assumption) (get_bools (by omega)) | exact ld_old (by assumption) (by simp) | exact ld_cells (by assumption) (by simp) rfl)) ?_)
      refine gl_op (op_rd rfl (rd_assign rfl) ?_)
      refine gk_bool (fun h18 => ?_) (fun h18 => ?_)
      · skip
        refine gl_nil ?_
        refine gx_then ?_
        refine gc_cond_t rfl ?_
        refine gc_seq ?_
        refine gc_region ?_
        refine gl_op (op_rd rfl (rd_assign rfl) ?_)
        refine gl_nil ?_
        refine gx_then ?_
        refine gc_ret ?_
        refine gx_block_ret ?_
        refine gx_then_ret ?_
        refine gx_ret1 (.inl rfl) Try.results54 rfl [0, 1, 2] (by decide) ?_
        refine ⟨congrArg (Value.int .i64) ?_, rfl⟩
        unfold flBegins
        rw [if_neg h12, if_neg (by omega), if_pos h18]
      · skip
        refine gl_nil ?_
        refine gx_then ?_
        refine gc_cond_f rfl ?_
        refine gc_skip ?_
        refine gx_block ?_
        refine gx_then ?_
        refine gc_seq ?_
        refine gc_region ?_
        refine gl_op (op_rd rfl (rd_assign rfl) ?_)
        refine gl_nil ?_
        refine gx_then ?_
        refine gc_ret ?_
        refine gx_ret1 (.inl rfl) Try.results54 rfl [0, 1, 2] (by decide) ?_
        refine ⟨congrArg (Value.int .i64) ?_, rfl⟩
        unfold flBegins
        rw [if_neg h12, if_neg (by omega), if_neg (by rw [h18]; decide)]

set_option maxRecDepth 100000 in
set_option maxHeartbeats 1000000 in
theorem fails_ok (f : Fl) (hf : -1 ≤ f.left ∧ f.left ≤ 9223372036854775807) (bf : Nat) (rb : Option Nat) (cb : Nat) (rp : Option Nat) (cp : Nat) (S : List Nat) (w0 : World) (hown : Own w0 S w0 (FlH bf rb cb rp cp f))  : Sp Try.prog 55 [.pointer (some ⟨bf, 0, none⟩)] w0 S (fun v L => v = .bool (flFails f).down ∧ L = FlH bf rb cb rp cp (flFails f)) := by
  have hl0 := hf.1
  have hl1 := hf.2
  refine spec_enter Try.func55 rfl Try.ntmps55 rfl hown ?_
  simp only [argEnv]
  refine gc_seq ?_
  refine gc_region ?_
  refine gl_op (op_rd rfl (rd_assign rfl) ?_)
  refine gl_nil ?_
  refine gx_then ?_
  refine gc_seq ?_
  refine gc_region ?_
  refine gl_op (op_rd rfl (rd_move rfl) ?_)
  refine gl_op (op_rd rfl (rd_move rfl) ?_)
  refine gl_op (op_rd rfl (rd_nilCheck rfl) ?_)
  refine gl_op (op_rd rfl (rd_fieldAddr rfl (fa_72_2 _)) ?_)
  refine gl_op (op_rd rfl (rd_load Try.underlying3 rfl rfl (by first | exact ld_blk 0 rfl rfl | exact ld_rowN 1 rfl (get_nats (by omega)) | exact ld_rowN 2 rfl (get_nats (by omega)) | exact ld_slN (by assumption) (get_nats (by omega)) | exact ld_rowN 1 rfl (get_ints (by omega)) | exact ld_rowN 2 rfl (get_ints (by omega)) | exact ld_slN (by assumption) (get_ints (by omega)) | exact ld_old (by assumption) (by simp) | exact ld_cells (by assumption) (by simp) rfl)) ?_)
  refine gl_op (op_rd rfl (rd_eql rfl rfl) (gk_dec (fun h8 => ?_) (fun h8 => ?_)))
  · skip
    have hff : flFails f = { f with down := true } := by unfold flFails; rw [if_pos h8]
    refine gl_op (op_rd rfl (rd_nilCheck rfl) ?_)
    refine gl_op (op_rd rfl (rd_fieldAddr rfl (fa_72_4 _)) ?_)
    first | refine gl_op (op_store 0 ty_4 rfl rfl rfl rfl rfl (by first | rfl | (simp only [List.set_cons_succ, List.set_cons_zero]; exact rfl)) (by first | rfl | (simp only [List.set_cons_succ, List.set_cons_zero]; exact rfl)) ?_) | refine gl_op (op_storeRow 1 ty_4 rfl rfl rfl rfl (by simp; omega) (by first | rfl | (simp only [List.set_cons_succ, List.set_cons_zero]; exact rfl)) ?_) | refine gl_op (op_storeRow 2 ty_4 rfl rfl rfl rfl (by simp; omega) (by first | rfl | (simp only [List.set_cons_succ, List.set_cons_zero]; exact rfl)) ?_)
    refine gl_nil ?_
    refine gx_then ?_
    refine gc_seq ?_
    refine gc_seq ?_
    refine gc_region ?_
    refine gl_op (op_rd rfl (rd_move rfl) ?_)
    refine gl_op (op_rd rfl (rd_nilCheck rfl) ?_)
    refine gl_op (op_rd rfl (rd_fieldAddr rfl (fa_72_2 _)) ?_)
    refine gl_op (op_rd rfl (rd_load Try.underlying3 rfl rfl (by first | exact ld_blk 0 rfl rfl | exact ld_rowN 1 rfl (get_nats (by omega)) | exact ld_rowN 2 rfl (get_nats (by omega)) | exact ld_slN (by assumption) (get_nats (by omega)) | exact ld_rowN 1 rfl (get_ints (by omega)) | exact ld_rowN 2 rfl (get_ints (by omega)) | exact ld_slN (by assumption) (get_ints (by omega)) | exact ld_old (by assumption) (by simp) | exact ld_cells (by assumption) (by simp) rfl)) ?_)
    refine gl_op (op_rd rfl (rd_gtr rfl rfl) (gk_dec (fun h15 => ?_) (fun h15 => ?_)))
    · skip
      exfalso; omega
    · skip
      refine gl_nil ?_
      refine gx_then ?_
      refine gc_cond_f rfl ?_
      refine gc_skip ?_
      refine gx_then ?_
      refine gc_seq ?_
      refine gc_region ?_
      refine gl_op (op_rd rfl (rd_move rfl) ?_)
      refine gl_op (op_rd rfl (rd_nilCheck rfl) ?_)
      refine gl_op (op_rd rfl (rd_fieldAddr rfl (fa_72_4 _)) ?_)
      refine gl_op (op_rd rfl (rd_load Try.underlying4 rfl rfl (by first | exact ld_blk 0 rfl rfl | exact ld_rowN 1 rfl (get_bools (by omega)) | exact ld_rowN 2 rfl (get_bools (by omega)) | exact ld_slN (by assumption) (get_bools (by omega)) | exact ld_old (by assumption) (by simp) | exact ld_cells (by assumption) (by simp) rfl)) ?_)
      refine gl_op (op_rd rfl (rd_assign rfl) ?_)
      refine gl_nil ?_
      refine gx_then ?_
      refine gc_ret ?_
      refine gx_ret1 (.inl rfl) Try.results55 rfl [0, 1, 2] (by decide) ?_
      rw [hff]
      exact ⟨rfl, rfl⟩
  · skip
    refine gl_op (op_rd rfl (rd_nilCheck rfl) ?_)
    refine gl_op (op_rd rfl (rd_fieldAddr rfl (fa_72_4 _)) ?_)
    first | refine gl_op (op_store 0 ty_4 rfl rfl rfl rfl rfl (by first | rfl | (simp only [List.set_cons_succ, List.set_cons_zero]; exact rfl)) (by first | rfl | (simp only [List.set_cons_succ, List.set_cons_zero]; exact rfl)) ?_) | refine gl_op (op_storeRow 1 ty_4 rfl rfl rfl rfl (by simp; omega) (by first | rfl | (simp only [List.set_cons_succ, List.set_cons_zero]; exact rfl)) ?_) | refine gl_op (op_storeRow 2 ty_4 rfl rfl rfl rfl (by simp; omega) (by first | rfl | (simp only [List.set_cons_succ, List.set_cons_zero]; exact rfl)) ?_)
    refine gl_nil ?_
    refine gx_then ?_
    refine gc_seq ?_
    refine gc_seq ?_
    refine gc_region ?_
    refine gl_op (op_rd rfl (rd_move rfl) ?_)
    refine gl_op (op_rd rfl (rd_nilCheck rfl) ?_)
    refine gl_op (op_rd rfl (rd_fieldAddr rfl (fa_72_2 _)) ?_)
    refine gl_op (op_rd rfl (rd_load Try.underlying3 rfl rfl (by first | exact ld_blk 0 rfl rfl | exact ld_rowN 1 rfl (get_nats (by omega)) | exact ld_rowN 2 rfl (get_nats (by omega)) | exact ld_slN (by assumption) (get_nats (by omega)) | exact ld_rowN 1 rfl (get_ints (by omega)) | exact ld_rowN 2 rfl (get_ints (by omega)) | exact ld_slN (by assumption) (get_ints (by omega)) | exact ld_old (by assumption) (by simp) | exact ld_cells (by assumption) (by simp) rfl)) ?_)
    refine gl_op (op_rd rfl (rd_gtr rfl rfl) (gk_dec (fun h15 => ?_) (fun h15 => ?_)))
    · skip
      refine gl_nil ?_
      refine gx_then ?_
      refine gc_cond_t rfl ?_
      refine gc_region ?_
      refine gl_op (op_rd rfl (rd_move rfl) ?_)
      refine gl_op (op_rd rfl (rd_nilCheck rfl) ?_)
      refine gl_op (op_rd rfl (rd_fieldAddr rfl (fa_72_2 _)) ?_)
      refine gl_op (op_rd rfl (rd_load Try.underlying3 rfl rfl (by first | exact ld_blk 0 rfl rfl | exact ld_rowN 1 rfl (get_nats (by omega)) | exact ld_rowN 2 rfl (get_nats (by omega)) | exact ld_slN (by assumption) (get_nats (by omega)) | exact ld_rowN 1 rfl (get_ints (by omega)) | exact ld_rowN 2 rfl (get_ints (by omega)) | exact ld_slN (by assumption) (get_ints (by omega)) | exact ld_old (by assumption) (by simp) | exact ld_cells (by assumption) (by simp) rfl)) ?_)
      refine gl_op (op_rd rfl (rd_sub rfl rfl (by omega) (by omega)) ?_)
      refine gl_op (op_rd rfl (rd_nilCheck rfl) ?_)
      refine gl_op (op_rd rfl (rd_fieldAddr rfl (fa_72_2 _)) ?_)
      first | refine gl_op (op_store 0 ty_3 rfl rfl rfl rfl rfl (by first | rfl | (simp only [List.set_cons_succ, List.set_cons_zero]; exact rfl)) (by first | rfl | (simp only [List.set_cons_succ, List.set_cons_zero]; exact rfl)) ?_) | refine gl_op (op_storeRow 1 ty_3 rfl rfl rfl rfl (by simp; omega) (by first | rfl | (simp only [List.set_cons_succ, List.set_cons_zero]; exact rfl)) ?_) | refine gl_op (op_storeRow 2 ty_3 rfl rfl rfl rfl (by simp; omega) (by first | rfl | (simp only [List.set_cons_succ, List.set_cons_zero]; exact rfl)) ?_)
      refine gl_nil ?_
      refine gx_then ?_
      refine gc_seq ?_
      refine gc_region ?_
      refine gl_op (op_rd rfl (rd_move rfl) ?_)
      refine gl_op (op_rd rfl (rd_nilCheck rfl) ?_)
      refine gl_op (op_rd rfl (rd_fieldAddr rfl (fa_72_4 _)) ?_)
      refine gl_op (op_rd rfl (rd_load Try.underlying4 rfl rfl (by first | exact ld_blk 0 rfl rfl | exact ld_rowN 1 rfl (get_bools (by omega)) | exact ld_rowN 2 rfl (get_bools (by omega)) | exact ld_slN (by assumption) (get_bools (by omega)) | exact ld_old (by assumption) (by simp) | exact ld_cells (by assumption) (by simp) rfl)) ?_)
      refine gl_op (op_rd rfl (rd_assign rfl) ?_)
      refine gl_nil ?_
      refine gx_then ?_
      refine gc_ret ?_
      refine gx_ret1 (.inl rfl) Try.results55 rfl [0, 1, 2] (by decide) ?_
      have hff : flFails f = { f with down := false, left := f.left - 1 } := by unfold flFails; rw [if_neg h8, if_pos h15]
      rw [hff]
      exact ⟨rfl, rfl⟩
    · skip
      refine gl_nil ?_
      refine gx_then ?_
      refine gc_cond_f rfl ?_
      refine gc_skip ?_
      refine gx_then ?_
      refine gc_seq ?_
      refine gc_region ?_
      refine gl_op (op_rd rfl (rd_move rfl) ?_)
      refine gl_op (op_rd rfl (rd_nilCheck rfl) ?_)
      refine gl_op (op_rd rfl (rd_fieldAddr rfl (fa_72_4 _)) ?_)
      refine gl_op (op_rd rfl (rd_load Try.underlying4 rfl rfl (by first | exact ld_blk 0 rfl rfl | exact ld_rowN 1 rfl (get_bools (by omega)) | exact ld_rowN 2 rfl (get_bools (by omega)) | exact ld_slN (by assumption) (get_bools (by omega)) | exact ld_old (by assumption) (by simp) | exact ld_cells (by assumption) (by simp) rfl)) ?_)
      refine gl_op (op_rd rfl (rd_assign rfl) ?_)
      refine gl_nil ?_
      refine gx_then ?_
      refine gc_ret ?_
      refine gx_ret1 (.inl rfl) Try.results55 rfl [0, 1, 2] (by decide) ?_
      have hff : flFails f = { f with down := false } := by unfold flFails; rw [if_neg h8, if_neg h15]
      rw [hff]
      exact ⟨rfl, rfl⟩

set_option maxRecDepth 100000 in
set_option maxHeartbeats 1000000 in
theorem Program_ok (f : Fl) (hf : f.Ok) (bf : Nat) (rb : Option Nat) (cb : Nat) (rp : Option Nat) (cp : Nat) (S : List Nat) (w0 : World) (hown : Own w0 S w0 (FlH bf rb cb rp cp f)) (at_ : Int) (u : Nat) (hv : u < 256) : Sp Try.prog 25 [.pointer (some ⟨bf, 0, none⟩), .int .i64 at_, .int .u8 u] w0 S (fun v L => v = .int .i64 (flProg f at_ u).2 ∧ L = FlH bf rb cb rp cp (flProg f at_ u).1) := by
  have hbl := hf.hi
  have hbl0 := hf.lo
  have hblm := hf.len
  have hpr := hf.pr
  refine spec_enter Try.func25 rfl Try.ntmps25 rfl hown ?_
  simp only [argEnv]
  refine gc_seq ?_
  refine gc_region ?_
  refine gl_op (op_rd rfl (rd_assign rfl) ?_)
  refine gl_nil ?_
  refine gx_then ?_
  refine gc_seq ?_
  refine gc_seq ?_
  refine gc_region ?_
  refine gl_op (op_rd rfl (rd_move rfl) ?_)
  refine gl_op (op_rd rfl (rd_move rfl) ?_)
  refine gl_op (op_rd rfl (rd_move rfl) ?_)
  refine gl_op (op_callM [0, 1, 2] [] rfl (vf := []) (vc := []) rfl rfl Try.call33 (by decide) rfl (fun w how hc => Blocks_ok f hf bf rb cb rp cp _ w hc) ?_)
  rintro _ _ ⟨rfl, rfl⟩
  refine gl_op (op_rd rfl (by first | exact rd_mulN (b := 256) rfl rfl (by omega) | exact rd_mul rfl rfl (by omega) (by omega)) ?_)
  rw [show f.b.length / 256 * 256 = f.b.length by omega]
  refine gl_op (op_callM [0, 1, 2] [] rfl (vf := []) (vc := []) rfl rfl Try.call54 (by decide) rfl (fun w how hc => begins_ok f hf bf rb cb rp cp _ w hc at_ f.b.length) ?_)
  rintro _ _ ⟨rfl, rfl⟩
  refine gl_op (op_rd rfl (rd_assign rfl) ?_)
  refine gl_nil ?_
  refine gx_then ?_
  refine gc_seq ?_
  refine gc_region ?_
  refine gl_op (op_rd rfl (rd_move rfl) ?_)
  refine gl_op (op_rd rfl (rd_neq rfl rfl) (gk_dec (fun h15 => ?_) (fun h15 => ?_)))
  · skip
    refine gl_nil ?_
    refine gx_then ?_
    refine gc_cond_t rfl ?_
    refine gc_seq ?_
    refine gc_region ?_
    refine gl_op (op_rd rfl (rd_move rfl) ?_)
    refine gl_op (op_rd rfl (rd_assign rfl) ?_)
    refine gl_nil ?_
    refine gx_then ?_
    refine gc_ret ?_
    refine gx_then_ret ?_
    refine gx_ret1 (.inl rfl) Try.results25 rfl [0, 1, 2] (by decide) ?_
    have hp : flProg f at_ u = (f, flBegins f at_ f.b.length) := by unfold flProg; rw [if_pos h15]
    rw [hp]
    exact ⟨rfl, rfl⟩
  · skip
    have hbz : flBegins f at_ (f.b.length : Int) = 0 := by omega
    obtain ⟨hat0, hat1, hdn⟩ : 0 ≤ at_ ∧ at_ < (f.b.length : Int) ∧ f.down = false := by
      unfold flBegins at hbz
      split at hbz
      · omega
      · split at hbz
        · omega
        · split at hbz
          · omega
          · rename_i h1 h2 h3; exact ⟨by omega, by omega, by simpa using h3⟩
    obtain ⟨k, rfl⟩ : ∃ k : Nat, at_ = k := ⟨at_.toNat, by omega⟩
    refine gl_nil ?_
    refine gx_then ?_
    refine gc_cond_f rfl ?_
    refine gc_skip ?_
    refine gx_then ?_
    refine gc_seq ?_
    refine gc_region ?_
    refine gl_op (op_rd rfl (rd_move rfl) ?_)
    refine gl_op (op_rd rfl (rd_nilCheck rfl) ?_)
    refine gl_op (op_rd rfl (rd_fieldAddr rfl (fa_72_5 _)) ?_)
    refine gl_op (op_rd rfl (rd_load Try.underlying3 rfl rfl (by first | exact ld_blk 0 rfl rfl | exact ld_rowN 1 rfl (get_nats (by omega)) | exact ld_rowN 2 rfl (get_nats (by omega)) | exact ld_slN (by assumption) (get_nats (by omega)) | exact ld_rowN 1 rfl (get_ints (by omega)) | exact ld_rowN 2 rfl (get_ints (by omega)) | exact ld_slN (by assumption) (get_ints (by omega)) | exact ld_old (by assumption) (by simp) | exact ld_cells (by assumption) (by simp) rfl)) ?_)
    refine gl_op (op_rd rfl (by first | exact rd_addN (b := 1) rfl rfl (by omega) | exact rd_add rfl rfl (by omega) (by omega)) ?_)
    refine gl_op (op_rd rfl (rd_nilCheck rfl) ?_)
    refine gl_op (op_rd rfl (rd_fieldAddr rfl (fa_72_5 _)) ?_)
    first | refine gl_op (op_store 0 ty_3 rfl rfl rfl rfl rfl (by first | rfl | (simp only [List.set_cons_succ, List.set_cons_zero]; exact rfl)) (by first | rfl | (simp only [List.set_cons_succ, List.set_cons_zero]; exact rfl)) ?_) | refine gl_op (op_storeRow 1 ty_3 rfl rfl rfl rfl (by simp; omega) (by first | rfl | (simp only [List.set_cons_succ, List.set_cons_zero]; exact rfl)) ?_) | refine gl_op (op_storeRow 2 ty_3 rfl rfl rfl rfl (by simp; omega) (by first | rfl | (simp only [List.set_cons_succ, List.set_cons_zero]; exact rfl)) ?_)
    refine gl_nil ?_
    refine gx_then ?_
    refine gc_seq ?_
    refine gc_seq ?_
    refine gc_region ?_
    refine gl_op (op_rd rfl (rd_move rfl) ?_)
    refine gl_op (op_callM [0, 1, 2] [] rfl (vf := []) (vc := []) rfl rfl Try.call55 (by decide) rfl (fun w how hc => fails_ok { f with pr := f.pr + 1 } ⟨hf.l0, hf.l1⟩ bf rb cb rp cp _ w hc) ?_)
    rintro _ _ ⟨rfl, rfl⟩
    obtain ⟨g, hg⟩ : ∃ g, flFails { f with pr := f.pr + 1 } = g := ⟨_, rfl⟩
    have hgb : g.b = f.b := by rw [← hg, flFails_b]
    have hgp : g.picks = f.picks := by rw [← hg, flFails_picks]
    have hgl : g.b.length = f.b.length := by rw [hgb]
    have hgpl : g.picks.length = f.picks.length := by rw [hgp]
    rw [hg]
    refine gk_bool (fun hfd => ?_) (fun hfd => ?_)
    · skip
      have hgbs : ∀ z ∈ g.b, z < 256 := by rw [hgb]; exact hf.bs
      have hgps : ∀ z ∈ g.picks, z < 256 := by rw [hgp]; exact hf.ps
      refine gl_op (op_rd rfl (rd_not rfl) ?_)
      refine gl_nil ?_
      refine gx_then ?_
      refine gc_cond_f rfl ?_
      refine gc_skip ?_
      refine gx_then ?_
      refine gc_seq ?_
      refine gc_seq ?_
      refine gc_region ?_
      refine gl_op (op_rd rfl (rd_move rfl) ?_)
      refine gl_op (op_rd rfl (rd_nilCheck rfl) ?_)
      refine gl_op (op_rd rfl (rd_fieldAddr rfl (fa_72_3 _)) ?_)
      refine gl_op (op_rd rfl (rd_load Try.underlying36 rfl rfl (by first | exact ld_blk 0 rfl rfl | exact ld_old (by assumption) (by simp) | exact ld_cells (by assumption) (by simp) rfl)) ?_)
      refine gl_op (op_rd rfl (rd_lenSlice Try.underlying36 rfl) ?_)
      refine gl_op (op_rd rfl (rd_gtr rfl rfl) (gk_dec (fun h42 => ?_) (fun h42 => ?_)))
      · skip
        refine gl_nil ?_
        refine gx_then ?_
        refine gc_cond_t rfl ?_
        refine gc_region ?_
        refine gl_op (op_rd rfl (rd_move rfl) ?_)
        refine gl_op (op_rd rfl (rd_move rfl) ?_)
        refine gl_op (op_rd rfl (rd_nilCheck rfl) ?_)
        refine gl_op (op_rd rfl (rd_fieldAddr rfl (fa_72_3 _)) ?_)
        refine gl_op (op_rd rfl (rd_load Try.underlying36 rfl rfl (by first | exact ld_blk 0 rfl rfl | exact ld_old (by assumption) (by simp) | exact ld_cells (by assumption) (by simp) rfl)) ?_)
        refine gl_op (op_rd rfl (rd_indexRow1 2 rfl Try.underlying36 ty_5 rfl rfl (by omega) (by omega)) ?_)
        refine gl_op (op_rd rfl (rd_load Try.underlying5 rfl rfl (ld_rowN 2 rfl (get_u8n (gB_get (show 0 < g.picks.length by omega))))) ?_)
        refine gl_op (op_rd rfl (rd_or8 rfl rfl (by first | exact hv | exact gB_lt hgps 0) (by first | exact hv | exact gB_lt hgps 0)) ?_)
        refine gl_op (op_rd rfl (rd_assign rfl) ?_)
        refine gl_nil ?_
        refine gx_then ?_
        refine gc_seq ?_
        refine gc_region ?_
        refine gl_op (op_rd rfl (rd_move rfl) ?_)
        refine gl_op (op_rd rfl (rd_nilCheck rfl) ?_)
        refine gl_op (op_rd rfl (rd_fieldAddr rfl (fa_72_1 _)) ?_)
        refine gl_op (op_rd rfl (rd_load Try.underlying36 rfl rfl (by first | exact ld_blk 0 rfl rfl | exact ld_old (by assumption) (by simp) | exact ld_cells (by assumption) (by simp) rfl)) ?_)
        refine gl_op (op_rd rfl (rd_move rfl) ?_)
        refine gl_op (op_rd rfl (rd_indexRow1 1 rfl Try.underlying36 ty_5 rfl rfl (by omega) (by omega)) ?_)
        refine gl_op (op_rd rfl (rd_load Try.underlying5 rfl rfl (ld_rowN 1 rfl (get_u8n (gB_get (show k < g.b.length by omega))))) ?_)
        refine gl_op (op_rd rfl (rd_move rfl) ?_)
        refine gl_op (op_rd rfl (rd_and8 rfl rfl (by first | exact gB_lt hgbs k | exact hv | exact Nat.or_lt_two_pow (n := 8) hv (gB_lt hgps 0)) (by first | exact gB_lt hgbs k | exact hv | exact Nat.or_lt_two_pow (n := 8) hv (gB_lt hgps 0))) ?_)
        refine gl_op (op_rd rfl (rd_indexRow1 1 rfl Try.underlying36 ty_5 rfl rfl (by omega) (by omega)) ?_)
        refine gl_op (op_storeRowE 1 ty_5 rfl rfl rfl rfl (by simp; omega) (setU8 g.b k _) (by first | rfl | (simp only [List.set_cons_succ, List.set_cons_zero]; exact rfl)) ?_)
        refine gl_nil ?_
        refine gx_then ?_
        refine gc_seq ?_
        refine gc_region ?_
        refine gl_op (op_rd rfl (rd_assign rfl) ?_)
        refine gl_nil ?_
        refine gx_then ?_
        refine gc_ret ?_
        refine gx_ret1 (.inl rfl) Try.results25 rfl [0, 1, 2] (by decide) ?_
        have hp : flProg f (k : Int) u = flProg1 f k u := by unfold flProg; rw [if_neg (by omega), Int.toNat_natCast]
        have hp1 : flProg1 f k u = ({ g with b := g.b.set k (gB g.b k &&& (u ||| gB g.picks 0)) }, 9) := by unfold flProg1; rw [hg, if_neg (by rw [hfd]; decide), if_pos (show 0 < f.picks.length by omega), ← hgb, ← hgp]
        rw [hp, hp1]
        exact ⟨rfl, by simp only [pick, FlH, Fl.cells, List.length_set]; rfl⟩
      · skip
        refine gl_nil ?_
        refine gx_then ?_
        refine gc_cond_f rfl ?_
        refine gc_skip ?_
        refine gx_then ?_
        refine gc_seq ?_
        refine gc_region ?_
        refine gl_op (op_rd rfl (rd_move rfl) ?_)
        refine gl_op (op_rd rfl (rd_nilCheck rfl) ?_)
        refine gl_op (op_rd rfl (rd_fieldAddr rfl (fa_72_1 _)) ?_)
        refine gl_op (op_rd rfl (rd_load Try.underlying36 rfl rfl (by first | exact ld_blk 0 rfl rfl | exact ld_old (by assumption) (by simp) | exact ld_cells (by assumption) (by simp) rfl)) ?_)
        refine gl_op (op_rd rfl (rd_move rfl) ?_)
        refine gl_op (op_rd rfl (rd_indexRow1 1 rfl Try.underlying36 ty_5 rfl rfl (by omega) (by omega)) ?_)
        refine gl_op (op_rd rfl (rd_load Try.underlying5 rfl rfl (ld_rowN 1 rfl (get_u8n (gB_get (show k < g.b.length by omega))))) ?_)
        refine gl_op (op_rd rfl (rd_move rfl) ?_)
        refine gl_op (op_rd rfl (rd_and8 rfl rfl (by first | exact gB_lt hgbs k | exact hv | exact Nat.or_lt_two_pow (n := 8) hv (gB_lt hgps 0)) (by first | exact gB_lt hgbs k | exact hv | exact Nat.or_lt_two_pow (n := 8) hv (gB_lt hgps 0))) ?_)
        refine gl_op (op_rd rfl (rd_indexRow1 1 rfl Try.underlying36 ty_5 rfl rfl (by omega) (by omega)) ?_)
        refine gl_op (op_storeRowE 1 ty_5 rfl rfl rfl rfl (by simp; omega) (setU8 g.b k _) (by first | rfl | (simp only [List.set_cons_succ, List.set_cons_zero]; exact rfl)) ?_)
        refine gl_nil ?_
        refine gx_then ?_
        refine gc_seq ?_
        refine gc_region ?_
        refine gl_op (op_rd rfl (rd_assign rfl) ?_)
        refine gl_nil ?_
        refine gx_then ?_
        refine gc_ret ?_
        refine gx_ret1 (.inl rfl) Try.results25 rfl [0, 1, 2] (by decide) ?_
        have hp : flProg f (k : Int) u = flProg1 f k u := by unfold flProg; rw [if_neg (by omega), Int.toNat_natCast]
        have hp1 : flProg1 f k u = ({ g with b := g.b.set k (gB g.b k &&& u) }, 9) := by unfold flProg1; rw [hg, if_neg (by rw [hfd]; decide), if_neg (show ¬ 0 < f.picks.length by omega), ← hgb]
        rw [hp, hp1]
        exact ⟨rfl, by simp only [pick, FlH, Fl.cells, List.length_set]; rfl⟩
    · skip
      have hgbs : ∀ z ∈ g.b, z < 256 := by rw [hgb]; exact hf.bs
      have hgps : ∀ z ∈ g.picks, z < 256 := by rw [hgp]; exact hf.ps
      refine gl_op (op_rd rfl (rd_not rfl) ?_)
      refine gl_nil ?_
      refine gx_then ?_
      refine gc_cond_t rfl ?_
      refine gc_seq ?_
      refine gc_region ?_
      refine gl_op (op_rd rfl (rd_move rfl) ?_)
      refine gl_op (op_rd rfl (rd_nilCheck rfl) ?_)
      refine gl_op (op_rd rfl (rd_fieldAddr rfl (fa_72_1 _)) ?_)
      refine gl_op (op_rd rfl (rd_load Try.underlying36 rfl rfl (by first | exact ld_blk 0 rfl rfl | exact ld_old (by assumption) (by simp) | exact ld_cells (by assumption) (by simp) rfl)) ?_)
      refine gl_op (op_rd rfl (rd_move rfl) ?_)
      refine gl_op (op_rd rfl (rd_indexRow1 1 rfl Try.underlying36 ty_5 rfl rfl (by omega) (by omega)) ?_)
      refine gl_op (op_rd rfl (rd_load Try.underlying5 rfl rfl (ld_rowN 1 rfl (get_u8n (gB_get (show k < g.b.length by omega))))) ?_)
      refine gl_op (op_rd rfl (rd_move rfl) ?_)
      refine gl_op (op_rd rfl (rd_and8 rfl rfl (by first | exact gB_lt hgbs k | exact hv) (by first | exact gB_lt hgbs k | exact hv)) ?_)
      refine gl_op (op_rd rfl (rd_indexRow1 1 rfl Try.underlying36 ty_5 rfl rfl (by omega) (by omega)) ?_)
      refine gl_op (op_storeRowE 1 ty_5 rfl rfl rfl rfl (by simp; omega) (setU8 g.b k _) (by first | rfl | (simp only [List.set_cons_succ, List.set_cons_zero]; exact rfl)) ?_)
      refine gl_nil ?_
      refine gx_then ?_
      refine gc_seq ?_
      refine gc_region ?_
      refine gl_op (op_rd rfl (rd_assign rfl) ?_)
      refine gl_nil ?_
      refine gx_then ?_
      refine gc_ret ?_
      refine gx_then_ret ?_
      refine gx_ret1 (.inl rfl) Try.results25 rfl [0, 1, 2] (by decide) ?_
      have hp : flProg f (k : Int) u = flProg1 f k u := by unfold flProg; rw [if_neg (by omega), Int.toNat_natCast]
      have hp1 : flProg1 f k u = ({ g with b := g.b.set k (gB g.b k &&& u) }, 0) := by unfold flProg1; rw [hg, if_pos (by rw [hfd]; rfl), ← hgb]
      rw [hp, hp1]
      exact ⟨rfl, by simp only [pick, FlH, Fl.cells, List.length_set]; rfl⟩

end Go.Proofs.Ythcbcdjkfefnlaa

set_option autoImplicit false
set_option linter.unusedVariables false
namespace Go.Proofs.Ythcbcdjkfefnlaa
open Go.Gv
open Go.RowKit
open Iv
namespace Iv
theorem orTo_succ (p b : List Nat) (o n : Nat) : orTo p b o (n + 1) = (orTo p b o n).set (o + n) (gB (orTo p b o n) (o + n) ||| gB p (n % p.length)) := by
  unfold orTo; rw [List.range_succ, List.foldl_append]; rfl
theorem orTo_len (p b : List Nat) (o : Nat) : ∀ n, (orTo p b o n).length = b.length
  | 0 => rfl
  | n + 1 => by rw [orTo_succ, List.length_set, orTo_len p b o n]
theorem set_lt {b : List Nat} {k z : Nat} (h : ∀ x ∈ b, x < 256) (hz : z < 256) : ∀ x ∈ b.set k z, x < 256 := fun x hx => by
  rcases List.mem_or_eq_of_mem_set hx with h1 | h1
  · exact h x h1
  · omega
theorem orTo_lt {p b : List Nat} (hb : ∀ z ∈ b, z < 256) (hp : ∀ z ∈ p, z < 256) (o : Nat) : ∀ n, ∀ z ∈ orTo p b o n, z < 256
  | 0 => hb
  | n + 1 => by
    rw [orTo_succ]
    exact set_lt (orTo_lt hb hp o n) (Nat.or_lt_two_pow (n := 8) (gB_lt (orTo_lt hb hp o n) _) (gB_lt hp _))
end Iv

set_option maxRecDepth 100000 in
set_option maxHeartbeats 1000000 in
theorem Fuse_ok (f : Fl) (hf : f.Ok) (bf : Nat) (rb : Option Nat) (cb : Nat) (rp : Option Nat) (cp : Nat) (S : List Nat) (w0 : World) (hown : Own w0 S w0 (FlH bf rb cb rp cp f)) (n : Int) (ps : List Nat) (a : Option Addr) (ca : Nat) (hn0 : n ≤ 9223372036854775807) (hps : OldSl w0 S a ps.length 1 (ps.map u8V)) (hpsl : ps.length ≤ 140737488355328) : Sp Try.prog 19 [.pointer (some ⟨bf, 0, none⟩), .int .i64 n, .slice a ps.length ca] w0 S (fun v L => ∃ (rp2 : Option Nat) (cp2 : Nat), v = .int .i64 (flFuse f n ps).2 ∧ L = FlH bf rb cb rp2 cp2 (flFuse f n ps).1) := by
  have hbl := hf.hi
  have hbl0 := hf.lo
  have hblm := hf.len
  have hpr := hf.pr
  have her := hf.er
  have hpl := hf.pl
  refine spec_enter Try.func19 rfl Try.ntmps19 rfl hown ?_
  simp only [argEnv]
  refine gc_seq ?_
  refine gc_region ?_
  refine gl_op (op_rd rfl (rd_assign rfl) ?_)
  refine gl_nil ?_
  refine gx_then ?_
  refine gc_seq ?_
  refine gc_block ?_
  refine gc_seq ?_
  refine gc_region ?_
  refine gl_op (op_rd rfl (rd_move rfl) ?_)
  refine gl_op (op_callM [0, 1, 2] [] rfl (vf := []) (vc := []) rfl rfl Try.call37 (by decide) rfl (fun w how hc => none_ok f hf bf rb cb rp cp _ w hc) ?_)
  rintro _ _ ⟨rfl, rfl⟩
  refine gl_op (op_rd rfl (rd_assign rfl) ?_)
  refine gl_nil ?_
  refine gx_then ?_
  refine gc_cond_f rfl ?_
  refine gc_seq ?_
  refine gc_region ?_
  refine gl_op (op_rd rfl (rd_move rfl) ?_)
  refine gl_op (op_rd rfl (rd_lss rfl rfl) (gk_dec (fun h12 => ?_) (fun h12 => ?_)))
  · skip
    refine gl_op (op_rd rfl (rd_move rfl) ?_)
    refine gl_no rfl rfl rfl ?_
    refine gl_no rfl rfl rfl ?_
    refine gl_no rfl rfl rfl ?_
    refine gl_op (op_rd rfl (rd_pick_t rfl rfl) ?_)
    refine gl_op (op_rd rfl (rd_assign rfl) ?_)
    refine gl_nil ?_
    refine gx_then ?_
    refine gc_cond_t rfl ?_
    refine gc_seq ?_
    refine gc_region ?_
    refine gl_op (op_rd rfl (rd_assign rfl) ?_)
    refine gl_nil ?_
    refine gx_then ?_
    refine gc_ret ?_
    refine gx_block_ret ?_
    refine gx_then_ret ?_
    refine gx_ret1 (.inl rfl) Try.results19 rfl [0, 1, 2] (by decide) ?_
    have hp : flFuse f n ps = (f, 2) := by unfold flFuse; rw [if_pos (.inl h12)]
    rw [hp]
    exact ⟨rp, cp, rfl, rfl⟩
  · skip
    refine gl_op (op_rd rfl (rd_move rfl) ?_)
    refine gl_yes rfl rfl (op_rd rfl (rd_move rfl) ?_)
    refine gl_yes rfl rfl (op_rd rfl (rd_lenSlice Try.underlying36 rfl) ?_)
    refine gl_yes rfl rfl (op_rd rfl (rd_gtr rfl rfl) (gk_dec (fun h16 => ?_) (fun h16 => ?_)))
    · skip
      refine gl_op (op_rd rfl (rd_pick_f rfl rfl) ?_)
      refine gl_op (op_rd rfl (rd_assign rfl) ?_)
      refine gl_nil ?_
      refine gx_then ?_
      refine gc_cond_t rfl ?_
      refine gc_seq ?_
      refine gc_region ?_
      refine gl_op (op_rd rfl (rd_assign rfl) ?_)
      refine gl_nil ?_
      refine gx_then ?_
      refine gc_ret ?_
      refine gx_block_ret ?_
      refine gx_then_ret ?_
      refine gx_ret1 (.inl rfl) Try.results19 rfl [0, 1, 2] (by decide) ?_
      have hp : flFuse f n ps = (f, 2) := by unfold flFuse; rw [if_pos (.inr (by omega))]
      rw [hp]
      exact ⟨rp, cp, rfl, rfl⟩
    · skip
      refine gl_op (op_rd rfl (rd_pick_f rfl rfl) ?_)
      refine gl_op (op_rd rfl (rd_assign rfl) ?_)
      refine gl_nil ?_
      refine gx_then ?_
      refine gc_cond_f rfl ?_
      refine gc_seq ?_
      refine gc_region ?_
      refine gl_op (op_rd rfl (rd_move rfl) ?_)
      refine gl_op (op_rd rfl (rd_nilCheck rfl) ?_)
      refine gl_op (op_rd rfl (rd_fieldAddr rfl (fa_72_4 _)) ?_)
      refine gl_op (op_rd rfl (rd_load Try.underlying4 rfl rfl (by first | exact ld_blk 0 rfl rfl | exact ld_rowN 1 rfl (get_bools (by omega)) | exact ld_rowN 2 rfl (get_bools (by omega)) | exact ld_slN (by assumption) (get_bools (by omega)) | exact ld_old (by assumption) (by simp) | exact ld_cells (by assumption) (by simp) rfl)) ?_)
      refine gl_op (op_rd rfl (rd_assign rfl) ?_)
      refine gk_bool (fun h18 => ?_) (fun h18 => ?_)
      · skip
        refine gl_nil ?_
        refine gx_then ?_
        refine gc_cond_t rfl ?_
        refine gc_seq ?_
        refine gc_region ?_
        refine gl_op (op_rd rfl (rd_assign rfl) ?_)
        refine gl_nil ?_
        refine gx_then ?_
        refine gc_ret ?_
        refine gx_block_ret ?_
        refine gx_then_ret ?_
        refine gx_ret1 (.inl rfl) Try.results19 rfl [0, 1, 2] (by decide) ?_
        have hp : flFuse f n ps = (f, 9) := by unfold flFuse; rw [if_neg (by omega), if_pos h18]
        rw [hp]
        exact ⟨rp, cp, rfl, rfl⟩
      · skip
        refine gl_nil ?_
        refine gx_then ?_
        refine gc_cond_f rfl ?_
        refine gc_skip ?_
        refine gx_block ?_
        refine gx_then ?_
        refine gc_seq ?_
        refine gc_region ?_
        refine gl_op (op_rd rfl (rd_move rfl) ?_)
        refine gl_op (op_rd rfl (rd_move rfl) ?_)
        refine gl_op (op_rd rfl (rd_move rfl) ?_)
        refine gl_op (op_rd rfl (rd_move rfl) ?_)
        refine gl_op (op_call rfl (vf := []) (vc := []) rfl rfl Try.call42 (fun w2 ho => Clone_ok ps a ca w2 (hps.at ho) hpsl) ?_)
        rintro _ _ ⟨rc, cc, rfl, rfl⟩
        refine gl_op (op_rd rfl (rd_nilCheck rfl) ?_)
        refine gl_op (op_rd rfl (rd_fieldAddr rfl (fa_72_2 _)) ?_)
        first | refine gl_op (op_store 1 ty_3 rfl rfl rfl rfl rfl (by first | rfl | (simp only [List.set_cons_succ, List.set_cons_zero]; exact rfl)) (by first | rfl | (simp only [List.set_cons_succ, List.set_cons_zero]; exact rfl)) ?_) | refine gl_op (op_storeRow 0 ty_3 rfl rfl rfl rfl (by simp; omega) (by first | rfl | (simp only [List.set_cons_succ, List.set_cons_zero]; exact rfl)) ?_) | refine gl_op (op_storeRow 2 ty_3 rfl rfl rfl rfl (by simp; omega) (by first | rfl | (simp only [List.set_cons_succ, List.set_cons_zero]; exact rfl)) ?_) | refine gl_op (op_storeRow 3 ty_3 rfl rfl rfl rfl (by simp; omega) (by first | rfl | (simp only [List.set_cons_succ, List.set_cons_zero]; exact rfl)) ?_)
        refine gl_op (op_rd rfl (rd_nilCheck rfl) ?_)
        refine gl_op (op_rd rfl (rd_fieldAddr rfl (fa_72_3 _)) ?_)
        first | refine gl_op (op_store 1 ty_36 rfl rfl rfl rfl rfl (by first | rfl | (simp only [List.set_cons_succ, List.set_cons_zero]; exact rfl)) (by first | rfl | (simp only [List.set_cons_succ, List.set_cons_zero]; exact rfl)) ?_) | refine gl_op (op_storeRow 0 ty_36 rfl rfl rfl rfl (by simp; omega) (by first | rfl | (simp only [List.set_cons_succ, List.set_cons_zero]; exact rfl)) ?_) | refine gl_op (op_storeRow 2 ty_36 rfl rfl rfl rfl (by simp; omega) (by first | rfl | (simp only [List.set_cons_succ, List.set_cons_zero]; exact rfl)) ?_) | refine gl_op (op_storeRow 3 ty_36 rfl rfl rfl rfl (by simp; omega) (by first | rfl | (simp only [List.set_cons_succ, List.set_cons_zero]; exact rfl)) ?_)
        refine gl_nil ?_
        refine gx_then ?_
        refine gc_seq ?_
        refine gc_region ?_
        refine gl_op (op_rd rfl (rd_assign rfl) ?_)
        refine gl_nil ?_
        refine gx_then ?_
        refine gc_ret ?_
        refine gx_ret1 (.inl rfl) Try.results19 rfl [1, 2, 0] (by decide) ?_
        have hp : flFuse f n ps = ({ f with left := n, picks := ps }, 0) := by unfold flFuse; rw [if_neg (by omega), if_neg (by rw [h18]; decide)]
        rw [hp]
        exact ⟨rc, cc, rfl, rfl⟩

set_option maxRecDepth 100000 in
set_option maxHeartbeats 1000000 in
theorem Restart_ok (f : Fl) (hf : f.Ok) (bf : Nat) (rb : Option Nat) (cb : Nat) (rp : Option Nat) (cp : Nat) (S : List Nat) (w0 : World) (hown : Own w0 S w0 (FlH bf rb cb rp cp f)) : Sp Try.prog 21 [.pointer (some ⟨bf, 0, none⟩)] w0 S (fun v L => v = .int .i64 0 ∧ L = FlH bf rb cb none 0 (flRestart f)) := by
  refine spec_enter Try.func21 rfl Try.ntmps21 rfl hown ?_
  simp only [argEnv]
  refine gc_seq ?_
  refine gc_region ?_
  refine gl_op (op_rd rfl (rd_assign rfl) ?_)
  refine gl_nil ?_
  refine gx_then ?_
  refine gc_seq ?_
  refine gc_seq ?_
  refine gc_region ?_
  refine gl_op (op_rd rfl (rd_move rfl) ?_)
  refine gl_op (op_callM [0, 1, 2] [] rfl (vf := []) (vc := []) rfl rfl Try.call37 (by decide) rfl (fun w how hc => none_ok f hf bf rb cb rp cp _ w hc) ?_)
  rintro _ _ ⟨rfl, rfl⟩
  refine gl_nil ?_
  refine gx_then ?_
  refine gc_cond_f rfl ?_
  refine gc_skip ?_
  refine gx_then ?_
  refine gc_seq ?_
  refine gc_region ?_
  refine gl_op (op_rd rfl (rd_move rfl) ?_)
  refine gl_op (op_rd rfl (rd_move rfl) ?_)
  refine gl_op (op_rd rfl (rd_move rfl) ?_)
  refine gl_op (op_rd rfl (rd_nilCheck rfl) ?_)
  refine gl_op (op_rd rfl (rd_fieldAddr rfl (fa_72_4 _)) ?_)
  first | refine gl_op (op_store 0 ty_4 rfl rfl rfl rfl rfl (by first | rfl | (simp only [List.set_cons_succ, List.set_cons_zero]; exact rfl)) (by first | rfl | (simp only [List.set_cons_succ, List.set_cons_zero]; exact rfl)) ?_) | refine gl_op (op_storeRow 1 ty_4 rfl rfl rfl rfl (by simp; omega) (by first | rfl | (simp only [List.set_cons_succ, List.set_cons_zero]; exact rfl)) ?_) | refine gl_op (op_storeRow 2 ty_4 rfl rfl rfl rfl (by simp; omega) (by first | rfl | (simp only [List.set_cons_succ, List.set_cons_zero]; exact rfl)) ?_)
  refine gl_op (op_rd rfl (rd_nilCheck rfl) ?_)
  refine gl_op (op_rd rfl (rd_fieldAddr rfl (fa_72_2 _)) ?_)
  first | refine gl_op (op_store 0 ty_3 rfl rfl rfl rfl rfl (by first | rfl | (simp only [List.set_cons_succ, List.set_cons_zero]; exact rfl)) (by first | rfl | (simp only [List.set_cons_succ, List.set_cons_zero]; exact rfl)) ?_) | refine gl_op (op_storeRow 1 ty_3 rfl rfl rfl rfl (by simp; omega) (by first | rfl | (simp only [List.set_cons_succ, List.set_cons_zero]; exact rfl)) ?_) | refine gl_op (op_storeRow 2 ty_3 rfl rfl rfl rfl (by simp; omega) (by first | rfl | (simp only [List.set_cons_succ, List.set_cons_zero]; exact rfl)) ?_)
  refine gl_op (op_rd rfl (rd_nilCheck rfl) ?_)
  refine gl_op (op_rd rfl (rd_fieldAddr rfl (fa_72_3 _)) ?_)
  first | refine gl_op (op_store 0 ty_36 rfl rfl rfl rfl rfl (by first | rfl | (simp only [List.set_cons_succ, List.set_cons_zero]; exact rfl)) (by first | rfl | (simp only [List.set_cons_succ, List.set_cons_zero]; exact rfl)) ?_) | refine gl_op (op_storeRow 1 ty_36 rfl rfl rfl rfl (by simp; omega) (by first | rfl | (simp only [List.set_cons_succ, List.set_cons_zero]; exact rfl)) ?_) | refine gl_op (op_storeRow 2 ty_36 rfl rfl rfl rfl (by simp; omega) (by first | rfl | (simp only [List.set_cons_succ, List.set_cons_zero]; exact rfl)) ?_)
  refine gl_nil ?_
  refine gx_then ?_
  refine gc_seq ?_
  refine gk_nil 5 1 ?_
  refine gc_region ?_
  refine gl_op (op_rd rfl (rd_assign rfl) ?_)
  refine gl_nil ?_
  refine gx_then ?_
  refine gc_ret ?_
  refine gx_ret1 (.inl rfl) Try.results21 rfl [1, 2, 0] (by decide) ?_
  exact ⟨rfl, rfl⟩

set_option maxRecDepth 100000 in
set_option maxHeartbeats 1000000 in
theorem Erase_ok (f : Fl) (hf : f.Ok) (bf : Nat) (rb : Option Nat) (cb : Nat) (rp : Option Nat) (cp : Nat) (S : List Nat) (w0 : World) (hown : Own w0 S w0 (FlH bf rb cb rp cp f)) (at_ : Int) : Sp Try.prog 27 [.pointer (some ⟨bf, 0, none⟩), .int .i64 at_] w0 S (fun v L => v = .int .i64 (flErase f at_).2 ∧ L = FlH bf rb cb rp cp (flErase f at_).1) := by
  have hbl := hf.hi
  have hbl0 := hf.lo
  have hblm := hf.len
  have hpr := hf.pr
  have her := hf.er
  have hpl := hf.pl
  obtain ⟨gb, rfl, hcb⟩ := row_some (hown.holds (.row 5 1 rb f.b.length cb (f.b.map u8V)) (by simp)) (by omega)
  refine spec_enter Try.func27 rfl Try.ntmps27 rfl hown ?_
  simp only [argEnv]
  refine gc_seq ?_
  refine gc_region ?_
  refine gl_op (op_rd rfl (rd_assign rfl) ?_)
  refine gl_nil ?_
  refine gx_then ?_
  refine gc_seq ?_
  refine gc_seq ?_
  refine gc_region ?_
  refine gl_op (op_rd rfl (rd_move rfl) ?_)
  refine gl_op (op_rd rfl (rd_move rfl) ?_)
  refine gl_op (op_rd rfl (rd_move rfl) ?_)
  refine gl_op (op_callM [0, 1, 2] [] rfl (vf := []) (vc := []) rfl rfl Try.call33 (by decide) rfl (fun w how hc => Blocks_ok f hf bf (some gb) cb rp cp _ w hc) ?_)
  rintro _ _ ⟨rfl, rfl⟩
  refine gl_op (op_callM [0, 1, 2] [] rfl (vf := []) (vc := []) rfl rfl Try.call54 (by decide) rfl (fun w how hc => begins_ok f hf bf (some gb) cb rp cp _ w hc at_ (f.b.length / 256 : Nat)) ?_)
  rintro _ _ ⟨rfl, rfl⟩
  refine gl_op (op_rd rfl (rd_assign rfl) ?_)
  refine gl_nil ?_
  refine gx_then ?_
  refine gc_seq ?_
  refine gc_region ?_
  refine gl_op (op_rd rfl (rd_move rfl) ?_)
  refine gl_op (op_rd rfl (rd_neq rfl rfl) (gk_dec (fun h14 => ?_) (fun h14 => ?_)))
  · skip
    refine gl_nil ?_
    refine gx_then ?_
    refine gc_cond_t rfl ?_
    refine gc_seq ?_
    refine gc_region ?_
    refine gl_op (op_rd rfl (rd_move rfl) ?_)
    refine gl_op (op_rd rfl (rd_assign rfl) ?_)
    refine gl_nil ?_
    refine gx_then ?_
    refine gc_ret ?_
    refine gx_then_ret ?_
    refine gx_ret1 (.inl rfl) Try.results27 rfl [0, 1, 2] (by decide) ?_
    have hp : flErase f at_ = (f, flBegins f at_ (f.b.length / 256 : Nat)) := by unfold flErase; rw [if_pos h14]
    rw [hp]
    exact ⟨rfl, rfl⟩
  · skip
    have hbz : flBegins f at_ ((f.b.length / 256 : Nat) : Int) = 0 := by omega
    obtain ⟨hat0, hat1, hdn⟩ : 0 ≤ at_ ∧ at_ < ((f.b.length / 256 : Nat) : Int) ∧ f.down = false := by
      unfold flBegins at hbz
      split at hbz
      · omega
      · split at hbz
        · omega
        · split at hbz
          · omega
          · rename_i h1 h2 h3; exact ⟨by omega, by omega, by simpa using h3⟩
    obtain ⟨k, rfl⟩ : ∃ k : Nat, at_ = k := ⟨at_.toNat, by omega⟩
    refine gl_nil ?_
    refine gx_then ?_
    refine gc_cond_f rfl ?_
    refine gc_skip ?_
    refine gx_then ?_
    refine gc_seq ?_
    refine gc_region ?_
    refine gl_op (op_rd rfl (rd_move rfl) ?_)
    refine gl_op (op_rd rfl (rd_nilCheck rfl) ?_)
    refine gl_op (op_rd rfl (rd_fieldAddr rfl (fa_72_6 _)) ?_)
    refine gl_op (op_rd rfl (rd_load Try.underlying3 rfl rfl (by first | exact ld_blk 0 rfl rfl | exact ld_rowN 1 rfl (get_nats (by omega)) | exact ld_rowN 2 rfl (get_nats (by omega)) | exact ld_slN (by assumption) (get_nats (by omega)) | exact ld_rowN 1 rfl (get_ints (by omega)) | exact ld_rowN 2 rfl (get_ints (by omega)) | exact ld_slN (by assumption) (get_ints (by omega)) | exact ld_old (by assumption) (by simp) | exact ld_cells (by assumption) (by simp) rfl)) ?_)
    refine gl_op (op_rd rfl (by first | exact rd_addN (b := 1) rfl rfl (by omega) | exact rd_add rfl rfl (by omega) (by omega)) ?_)
    refine gl_op (op_rd rfl (rd_nilCheck rfl) ?_)
    refine gl_op (op_rd rfl (rd_fieldAddr rfl (fa_72_6 _)) ?_)
    first | refine gl_op (op_store 0 ty_3 rfl rfl rfl rfl rfl (by first | rfl | (simp only [List.set_cons_succ, List.set_cons_zero]; exact rfl)) (by first | rfl | (simp only [List.set_cons_succ, List.set_cons_zero]; exact rfl)) ?_) | refine gl_op (op_storeRow 1 ty_3 rfl rfl rfl rfl (by simp; omega) (by first | rfl | (simp only [List.set_cons_succ, List.set_cons_zero]; exact rfl)) ?_) | refine gl_op (op_storeRow 2 ty_3 rfl rfl rfl rfl (by simp; omega) (by first | rfl | (simp only [List.set_cons_succ, List.set_cons_zero]; exact rfl)) ?_)
    refine gl_nil ?_
    refine gx_then ?_
    refine gc_seq ?_
    refine gc_region ?_
    refine gl_op (op_rd rfl (rd_move rfl) ?_)
    refine gl_op (op_rd rfl (rd_nilCheck rfl) ?_)
    refine gl_op (op_rd rfl (rd_fieldAddr rfl (fa_72_1 _)) ?_)
    refine gl_op (op_rd rfl (rd_load Try.underlying36 rfl rfl (by first | exact ld_blk 0 rfl rfl | exact ld_old (by assumption) (by simp) | exact ld_cells (by assumption) (by simp) rfl)) ?_)
    refine gl_op (op_rd rfl (rd_move rfl) ?_)
    refine gl_op (op_rd rfl (by first | exact rd_mulN (b := 256) rfl rfl (by omega) | exact rd_mul rfl rfl (by omega) (by omega)) ?_)
    refine gl_op (op_rd rfl (rd_move rfl) ?_)
    refine gl_op (op_rd rfl (by first | exact rd_addN (b := 1) rfl rfl (by omega) | exact rd_add rfl rfl (by omega) (by omega)) ?_)
    refine gl_op (op_rd rfl (by first | exact rd_mulN (b := 256) rfl rfl (by omega) | exact rd_mul rfl rfl (by omega) (by omega)) ?_)
    refine gl_op (op_rd rfl (rd_slice2 Try.underlying36 ty_5 rfl rfl rfl (by omega) (by omega) (by omega)) ?_)
    refine gl_op (op_rd rfl (rd_assign rfl) ?_)
    refine gl_nil ?_
    refine gx_then ?_
    refine gc_seq ?_
    refine gc_seq ?_
    simp only [Int.toNat_natCast]
    rw [subA_row' (show k * 256 < cb by omega), show (k + 1) * 256 - k * 256 = 256 by omega]
    refine gc_region ?_
    refine gl_op (op_rd rfl (rd_move rfl) ?_)
    refine gl_op (op_callM [0, 1, 2] [] rfl (vf := []) (vc := []) rfl rfl Try.call55 (by decide) rfl (fun w how hc => fails_ok { f with er := f.er + 1 } ⟨hf.l0, hf.l1⟩ bf (some gb) cb rp cp _ w hc) ?_)
    rintro _ _ ⟨rfl, rfl⟩
    obtain ⟨g, hg⟩ : ∃ g, flFails { f with er := f.er + 1 } = g := ⟨_, rfl⟩
    have hgb : g.b = f.b := by rw [← hg, flFails_b]
    have hgp : g.picks = f.picks := by rw [← hg, flFails_picks]
    have hgl : g.b.length = f.b.length := by rw [hgb]
    have hgpl : g.picks.length = f.picks.length := by rw [hgp]
    rw [hg]
    refine gk_bool (fun hfd => ?_) (fun hfd => ?_)
    · skip
      have hgbs : ∀ z ∈ g.b, z < 256 := by rw [hgb]; exact hf.bs
      have hgps : ∀ z ∈ g.picks, z < 256 := by rw [hgp]; exact hf.ps
      refine gl_op (op_rd rfl (rd_not rfl) ?_)
      refine gl_op (op_rd rfl (rd_move rfl) ?_)
      refine gl_yes rfl rfl (op_rd rfl (rd_move rfl) ?_)
      refine gl_yes rfl rfl (op_rd rfl (rd_nilCheck rfl) ?_)
      refine gl_yes rfl rfl (op_rd rfl (rd_fieldAddr rfl (fa_72_3 _)) ?_)
      refine gl_yes rfl rfl (op_rd rfl (rd_load Try.underlying36 rfl rfl (by first | exact ld_blk 0 rfl rfl | exact ld_old (by assumption) (by simp) | exact ld_cells (by assumption) (by simp) rfl)) ?_)
      refine gl_yes rfl rfl (op_rd rfl (rd_lenSlice Try.underlying36 rfl) ?_)
      refine gl_yes rfl rfl (op_rd rfl (rd_eql rfl rfl) (gk_dec (fun h42 => ?_) (fun h42 => ?_)))
      · skip
        refine gl_op (op_rd rfl (rd_pick_f rfl rfl) ?_)
        refine gl_nil ?_
        refine gx_then ?_
        refine gc_cond_t rfl ?_
        refine gc_region ?_
        refine gl_op (op_rd rfl (rd_move rfl) ?_)
        refine gl_op (op_buildSlice (sz := 1) rfl rfl (fun _ => bs_36_1_0 _) rfl rfl (fun b45 => ?_))
        refine gl_op (op_rd rfl (rd_move rfl) ?_)
        refine gl_op (op_rd rfl (rd_lenSlice Try.underlying36 rfl) ?_)
        refine gl_op (op_call rfl (vf := []) (vc := []) rfl rfl Try.call36 (fun w2 ho => Repeat_ok 255 256 (rowA (some b45)) 1 w2 (ho.rowSl 0 rfl) (by omega)) ?_)
        rintro _ _ ⟨rr, cr, rfl, rfl⟩
        have hcs : (((List.replicate 256 255).map u8V).drop 0).take 256 = (List.replicate 256 255).map u8V := by rw [List.drop_zero, List.take_of_length_le (by simp)]
        refine gl_op (op_copyRow 3 (k * 256) (cs := (List.replicate 256 255).map u8V) Try.underlying36 ty_5 rfl rfl rfl rfl (by simp) (cs_row 0 (a := some rr) rfl hcs) (by simp; omega) (u8_one _) (by first | rfl | (simp only [List.set_cons_succ, List.set_cons_zero]; exact rfl)) ?_)
        rw [copyU8, List.length_replicate]
        refine gl_nil ?_
        refine gx_then ?_
        refine gc_seq ?_
        refine gc_seq ?_
        refine gc_region ?_
        refine gl_op (op_rd rfl (rd_move rfl) ?_)
        refine gl_op (op_rd rfl (rd_nilCheck rfl) ?_)
        refine gl_op (op_rd rfl (rd_fieldAddr rfl (fa_72_4 _)) ?_)
        refine gl_op (op_rd rfl (rd_load Try.underlying4 rfl rfl (by first | exact ld_blk 2 rfl rfl | exact ld_rowN 0 rfl (get_bools (by omega)) | exact ld_rowN 1 rfl (get_bools (by omega)) | exact ld_rowN 3 rfl (get_bools (by omega)) | exact ld_rowN 4 rfl (get_bools (by omega)) | exact ld_slN (by assumption) (get_bools (by omega)) | exact ld_old (by assumption) (by simp) | exact ld_cells (by assumption) (by simp) rfl)) ?_)
        refine gk_bool (fun h78 => ?_) (fun h78 => ?_)
        · skip
          refine gl_nil ?_
          refine gx_then ?_
          refine gc_cond_t rfl ?_
          refine gc_seq ?_
          refine gc_region ?_
          refine gl_op (op_rd rfl (rd_assign rfl) ?_)
          refine gl_nil ?_
          refine gx_then ?_
          refine gc_ret ?_
          refine gx_then_ret ?_
          refine gx_ret1 (.inl rfl) Try.results27 rfl [2, 3, 4] (by decide) ?_
          have hp : flErase f (k : Int) = flErase1 f k := by unfold flErase; rw [if_neg (by omega), Int.toNat_natCast]
          have hp1 : flErase1 f k = ({ g with b := g.b.take (k * 256) ++ List.replicate 256 255 ++ g.b.drop (k * 256 + 256) }, 9) := by unfold flErase1; rw [hg, if_pos (by rw [decide_eq_true (show f.picks.length = 0 by omega), Bool.or_true]), if_pos hfd, ← hgb]
          have hlen : (g.b.take (k * 256) ++ List.replicate 256 255 ++ g.b.drop (k * 256 + 256)).length = g.b.length := by simp; omega
          obtain ⟨B, hB⟩ : ∃ B, g.b.take (k * 256) ++ List.replicate 256 255 ++ g.b.drop (k * 256 + 256) = B := ⟨_, rfl⟩
          rw [hB] at hp1 hlen
          rw [hp, hp1]
          rw [hB]
          exact ⟨rfl, by simp only [pick, FlH, Fl.cells, hlen]; rfl⟩
        · skip
          rw [hfd] at h78; cases h78
      · skip
        refine gl_op (op_rd rfl (rd_pick_f rfl rfl) ?_)
        refine gl_nil ?_
        refine gx_then ?_
        refine gc_cond_f rfl ?_
        refine gc_seq ?_
        refine gc_region ?_
        refine gl_op (op_rd rfl (rd_move rfl) ?_)
        refine gl_op (op_rd rfl (rd_lenSlice Try.underlying36 rfl) ?_)
        refine gl_op (op_rd rfl (rd_move rfl) ?_)
        refine gl_nil ?_
        refine gx_then ?_
        refine gc_block ?_
        refine gc_loopF (ι := Nat) [(0, _), (6, _), (51, _)] [_, _] (fun j => j ≤ 256) (fun j Fr0 => ((52, natV j) :: Fr0)) (fun j Fr0 => (.row 5 1 (some gb) g.b.length cb ((orTo g.picks g.b (k * 256) j).map u8V) :: Fr0)) (fun j => 256 - j) 0 (Nat.zero_le _) ⟨rfl, rfl, rfl, rfl, trivial⟩ ⟨[1, 0, 2], by decide, rfl⟩ ?_
        rintro j hj
        obtain ⟨bj, hbj⟩ : ∃ bj, orTo g.picks g.b (k * 256) j = bj := ⟨_, rfl⟩
        have hbjl : bj.length = g.b.length := by rw [← hbj, orTo_len]
        have hbjs : ∀ z ∈ bj, z < 256 := by rw [← hbj]; exact orTo_lt hgbs hgps _ _
        rw [hbj]
        refine gc_seq ?_
        refine gc_region ?_
        refine gl_op (op_rd rfl (rd_lss rfl rfl) (gk_dec (fun h53 => ?_) (fun h53 => ?_)))
        · skip
          have hjm : j % g.picks.length < g.picks.length := Nat.mod_lt _ (by omega)
          refine gl_nil ?_
          refine gx_then ?_
          refine gc_seq ?_
          refine gc_cond_t rfl ?_
          refine gc_skip ?_
          refine gx_then ?_
          refine gc_seq ?_
          refine gc_block ?_
          refine gc_seq ?_
          refine gc_region ?_
          refine gl_op (op_rd rfl (rd_move rfl) ?_)
          refine gl_op (op_rd rfl (rd_assign rfl) ?_)
          refine gl_nil ?_
          refine gx_then ?_
          refine gc_drawP [1, 2] false 19 rfl ?_
          refine ga_first 0 #[true, false, false, false, false, false, false, false, false, false, false, false, false, false, false, false, false, false, false, false] rfl rfl rfl rfl (by kernel_rfl) rfl ⟨[1, 2], by decide, rfl⟩ (qt_rd (rd_move rfl)) ?_
          refine ga_first 1 #[true, true, false, false, false, false, false, false, false, false, false, false, false, false, false, false, false, false, false, false] rfl rfl rfl rfl (by kernel_rfl) rfl ⟨[1, 2], by decide, rfl⟩ (qt_rd (rd_move rfl)) ?_
          refine ga_first 2 #[true, true, true, false, false, false, false, false, false, false, false, false, false, false, false, false, false, false, false, false] rfl rfl rfl rfl (by kernel_rfl) rfl ⟨[1, 2], by decide, rfl⟩ (qt_rd (rd_index1 Try.underlying36 ty_5 rfl rfl (by omega) (by omega))) ?_
          refine ga_first 4 #[true, true, true, false, true, false, false, false, false, false, false, false, false, false, false, false, false, false, false, false] rfl rfl rfl rfl (by kernel_rfl) rfl ⟨[1, 2], by decide, rfl⟩ (qt_rd (rd_move rfl)) ?_
          refine ga_first 5 #[true, true, true, false, true, true, false, false, false, false, false, false, false, false, false, false, false, false, false, false] rfl rfl rfl rfl (by kernel_rfl) rfl ⟨[1, 2], by decide, rfl⟩ (qt_rd (rd_nilCheck rfl)) ?_
          refine ga_first 6 #[true, true, true, false, true, true, true, false, false, false, false, false, false, false, false, false, false, false, false, false] rfl rfl rfl rfl (by kernel_rfl) rfl ⟨[1, 2], by decide, rfl⟩ (qt_rd (rd_fieldAddr rfl (fa_72_3 _))) ?_
          refine ga_first 7 #[true, true, true, false, true, true, true, true, false, false, false, false, false, false, false, false, false, false, false, false] rfl rfl rfl rfl (by kernel_rfl) rfl ⟨[1, 2], by decide, rfl⟩ (qt_rd (rd_load Try.underlying36 rfl rfl (by first | exact ld_blk 0 rfl rfl | exact ld_old (by assumption) (by simp) | exact ld_cells (by assumption) (by simp) rfl))) ?_
          refine ga_first 8 #[true, true, true, false, true, true, true, true, true, false, false, false, false, false, false, false, false, false, false, false] rfl rfl rfl rfl (by kernel_rfl) rfl ⟨[1, 2], by decide, rfl⟩ (qt_rd (rd_move rfl)) ?_
          refine ga_first 9 #[true, true, true, false, true, true, true, true, true, true, false, false, false, false, false, false, false, false, false, false] rfl rfl rfl rfl (by kernel_rfl) rfl ⟨[1, 2], by decide, rfl⟩ (qt_rd (rd_move rfl)) ?_
          refine ga_first 10 #[true, true, true, false, true, true, true, true, true, true, true, false, false, false, false, false, false, false, false, false] rfl rfl rfl rfl (by kernel_rfl) rfl ⟨[1, 2], by decide, rfl⟩ (qt_rd (rd_nilCheck rfl)) ?_
          refine ga_first 11 #[true, true, true, false, true, true, true, true, true, true, true, true, false, false, false, false, false, false, false, false] rfl rfl rfl rfl (by kernel_rfl) rfl ⟨[1, 2], by decide, rfl⟩ (qt_rd (rd_fieldAddr rfl (fa_72_3 _))) ?_
          refine ga_first 12 #[true, true, true, false, true, true, true, true, true, true, true, true, true, false, false, false, false, false, false, false] rfl rfl rfl rfl (by kernel_rfl) rfl ⟨[1, 2], by decide, rfl⟩ (qt_rd (rd_load Try.underlying36 rfl rfl (by first | exact ld_blk 0 rfl rfl | exact ld_old (by assumption) (by simp) | exact ld_cells (by assumption) (by simp) rfl))) ?_
          refine ga_first 13 #[true, true, true, false, true, true, true, true, true, true, true, true, true, true, false, false, false, false, false, false] rfl rfl rfl rfl (by kernel_rfl) rfl ⟨[1, 2], by decide, rfl⟩ (qt_rd (rd_lenSlice Try.underlying36 rfl)) ?_
          refine ga_first 14 #[true, true, true, false, true, true, true, true, true, true, true, true, true, true, true, false, false, false, false, false] rfl rfl rfl rfl (by kernel_rfl) rfl ⟨[1, 2], by decide, rfl⟩ (qt_rd (by first | exact rd_remN rfl rfl (by omega) | exact rd_rem rfl rfl (by omega) (by omega))) ?_
          refine ga_first 15 #[true, true, true, false, true, true, true, true, true, true, true, true, true, true, true, true, false, false, false, false] rfl rfl rfl rfl (by kernel_rfl) rfl ⟨[1, 2], by decide, rfl⟩ (qt_rd (rd_indexRow1 1 rfl Try.underlying36 ty_5 rfl rfl (by omega) (by omega))) ?_
          refine ga_first 16 #[true, true, true, false, true, true, true, true, true, true, true, true, true, true, true, true, true, false, false, false] rfl rfl rfl rfl (by kernel_rfl) rfl ⟨[1, 2], by decide, rfl⟩ (qt_rd (rd_load Try.underlying5 rfl rfl (ld_rowN 1 rfl (get_u8n (gB_get (show (j % g.picks.length) < g.picks.length by omega)))))) ?_
          rw [show (⟨gb, k * 256, none⟩ : Addr).add (j : Int).toNat = ⟨gb, k * 256 + j, none⟩ by rw [Addr.add_lit, Int.toNat_natCast]]
          refine ga_only 3 #[true, true, true, true, true, true, true, true, true, true, true, true, true, true, true, true, true, false, false, false] rfl rfl (by kernel_rfl) rfl (.inr ⟨[1, 2], by decide, rfl⟩) (op_rd rfl (rd_load Try.underlying5 rfl rfl (ld_row 0 (a := some gb) (off := k * 256 + j) rfl (get_u8n (gB_get (show k * 256 + j < bj.length by omega))))) ?_)
          refine ga_first 17 #[true, true, true, true, true, true, true, true, true, true, true, true, true, true, true, true, true, true, false, false] rfl rfl rfl rfl (by kernel_rfl) rfl ⟨[1, 2], by decide, rfl⟩ (qt_rd (rd_or8 rfl rfl (by first | exact gB_lt hbjs _ | exact gB_lt hgps _) (by first | exact gB_lt hbjs _ | exact gB_lt hgps _))) ?_
          refine ga_first 18 #[true, true, true, true, true, true, true, true, true, true, true, true, true, true, true, true, true, true, true, false] rfl rfl rfl rfl (by kernel_rfl) rfl ⟨[1, 2], by decide, rfl⟩ (qt_rd (rd_index1 Try.underlying36 ty_5 rfl rfl (by omega) (by omega))) ?_
          rw [show (⟨gb, k * 256, none⟩ : Addr).add (j : Int).toNat = ⟨gb, k * 256 + j, none⟩ by rw [Addr.add_lit, Int.toNat_natCast]]
          refine ga_only 19 #[true, true, true, true, true, true, true, true, true, true, true, true, true, true, true, true, true, true, true, true] rfl rfl (by kernel_rfl) rfl (.inr ⟨[1, 2], by decide, rfl⟩) (op_storeRowE 0 ty_5 rfl rfl rfl rfl (by simp; omega) (setU8 bj (k * 256 + j) _) (by first | rfl | (simp only [List.set_cons_succ, List.set_cons_zero]; exact rfl)) ?_)
          refine ga_end (by kernel_rfl) (.inl (by kernel_rfl)) ?_
          refine gx_block ?_
          refine gx_then ?_
          rw [show bj.set (k * 256 + j) (gB bj (k * 256 + j) ||| gB g.picks (j % g.picks.length)) = orTo g.picks g.b (k * 256) (j + 1) by rw [orTo_succ, hbj]]
          refine gc_region ?_
          refine gl_op (op_rd rfl (by first | exact rd_addN (b := 1) rfl rfl (by omega) | exact rd_add rfl rfl (by omega) (by omega)) ?_)
          refine gl_op (op_rd rfl (rd_move rfl) ?_)
          refine gl_nil ?_
          refine gx_then ?_
          exact gx_cut (j + 1) ⟨by omega, by omega⟩ ⟨rfl, rfl, rfl, rfl, trivial⟩ ⟨[0, 1, 2], by decide, rfl⟩
        · skip
          refine gl_nil ?_
          refine gx_then ?_
          refine gc_seq ?_
          refine gc_cond_f rfl ?_
          refine gc_exit ?_
          refine gx_then_exit ?_
          refine gx_then_exit ?_
          refine gx_block_exit ?_
          refine gx_then ?_
          refine gc_seq ?_
          refine gc_seq ?_
          refine gc_region ?_
          refine gl_op (op_rd rfl (rd_move rfl) ?_)
          refine gl_op (op_rd rfl (rd_nilCheck rfl) ?_)
          refine gl_op (op_rd rfl (rd_fieldAddr rfl (fa_72_4 _)) ?_)
          refine gl_op (op_rd rfl (rd_load Try.underlying4 rfl rfl (by first | exact ld_blk 1 rfl rfl | exact ld_rowN 0 rfl (get_bools (by omega)) | exact ld_rowN 2 rfl (get_bools (by omega)) | exact ld_slN (by assumption) (get_bools (by omega)) | exact ld_old (by assumption) (by simp) | exact ld_cells (by assumption) (by simp) rfl)) ?_)
          refine gk_bool (fun h78 => ?_) (fun h78 => ?_)
          · skip
            refine gl_nil ?_
            refine gx_then ?_
            refine gc_cond_t rfl ?_
            refine gc_seq ?_
            refine gc_region ?_
            refine gl_op (op_rd rfl (rd_assign rfl) ?_)
            refine gl_nil ?_
            refine gx_then ?_
            refine gc_ret ?_
            refine gx_then_ret ?_
            refine gx_ret1 (.inl rfl) Try.results27 rfl [1, 0, 2] (by decide) ?_
            have hp : flErase f (k : Int) = flErase1 f k := by unfold flErase; rw [if_neg (by omega), Int.toNat_natCast]
            have hp1 : flErase1 f k = ({ g with b := orTo g.picks g.b (k * 256) 256 }, 9) := by unfold flErase1; rw [hg, if_neg (by rw [hfd, decide_eq_false (show ¬ f.picks.length = 0 by omega)]; decide), if_pos hfd, ← hgb, ← hgp]
            have hlen : (orTo g.picks g.b (k * 256) 256).length = g.b.length := by rw [orTo_len]
            obtain ⟨B, hB⟩ : ∃ B, orTo g.picks g.b (k * 256) 256 = B := ⟨_, rfl⟩
            rw [hB] at hp1 hlen
            rw [hp, hp1]
            have hjB : bj = B := by rw [← hbj, ← hB, show j = 256 by omega]
            rw [hjB]
            exact ⟨rfl, by simp only [pick, FlH, Fl.cells, hlen]; rfl⟩
          · skip
            rw [hfd] at h78; cases h78
    · skip
      have hgbs : ∀ z ∈ g.b, z < 256 := by rw [hgb]; exact hf.bs
      have hgps : ∀ z ∈ g.picks, z < 256 := by rw [hgp]; exact hf.ps
      refine gl_op (op_rd rfl (rd_not rfl) ?_)
      refine gl_op (op_rd rfl (rd_move rfl) ?_)
      refine gl_no rfl rfl rfl ?_
      refine gl_no rfl rfl rfl ?_
      refine gl_no rfl rfl rfl ?_
      refine gl_no rfl rfl rfl ?_
      refine gl_no rfl rfl rfl ?_
      refine gl_no rfl rfl rfl ?_
      refine gl_op (op_rd rfl (rd_pick_t rfl rfl) ?_)
      refine gl_nil ?_
      refine gx_then ?_
      refine gc_cond_t rfl ?_
      refine gc_region ?_
      refine gl_op (op_rd rfl (rd_move rfl) ?_)
      refine gl_op (op_buildSlice (sz := 1) rfl rfl (fun _ => bs_36_1_0 _) rfl rfl (fun b45 => ?_))
      refine gl_op (op_rd rfl (rd_move rfl) ?_)
      refine gl_op (op_rd rfl (rd_lenSlice Try.underlying36 rfl) ?_)
      refine gl_op (op_call rfl (vf := []) (vc := []) rfl rfl Try.call36 (fun w2 ho => Repeat_ok 255 256 (rowA (some b45)) 1 w2 (ho.rowSl 0 rfl) (by omega)) ?_)
      rintro _ _ ⟨rr, cr, rfl, rfl⟩
      have hcs : (((List.replicate 256 255).map u8V).drop 0).take 256 = (List.replicate 256 255).map u8V := by rw [List.drop_zero, List.take_of_length_le (by simp)]
      refine gl_op (op_copyRow 3 (k * 256) (cs := (List.replicate 256 255).map u8V) Try.underlying36 ty_5 rfl rfl rfl rfl (by simp) (cs_row 0 (a := some rr) rfl hcs) (by simp; omega) (u8_one _) (by first | rfl | (simp only [List.set_cons_succ, List.set_cons_zero]; exact rfl)) ?_)
      rw [copyU8, List.length_replicate]
      refine gl_nil ?_
      refine gx_then ?_
      refine gc_seq ?_
      refine gc_seq ?_
      refine gc_region ?_
      refine gl_op (op_rd rfl (rd_move rfl) ?_)
      refine gl_op (op_rd rfl (rd_nilCheck rfl) ?_)
      refine gl_op (op_rd rfl (rd_fieldAddr rfl (fa_72_4 _)) ?_)
      refine gl_op (op_rd rfl (rd_load Try.underlying4 rfl rfl (by first | exact ld_blk 2 rfl rfl | exact ld_rowN 0 rfl (get_bools (by omega)) | exact ld_rowN 1 rfl (get_bools (by omega)) | exact ld_rowN 3 rfl (get_bools (by omega)) | exact ld_rowN 4 rfl (get_bools (by omega)) | exact ld_slN (by assumption) (get_bools (by omega)) | exact ld_old (by assumption) (by simp) | exact ld_cells (by assumption) (by simp) rfl)) ?_)
      refine gk_bool (fun h78 => ?_) (fun h78 => ?_)
      · skip
        rw [hfd] at h78; cases h78
      · skip
        refine gl_nil ?_
        refine gx_then ?_
        refine gc_cond_f rfl ?_
        refine gc_skip ?_
        refine gx_then ?_
        refine gc_seq ?_
        refine gc_region ?_
        refine gl_op (op_rd rfl (rd_assign rfl) ?_)
        refine gl_nil ?_
        refine gx_then ?_
        refine gc_ret ?_
        refine gx_ret1 (.inl rfl) Try.results27 rfl [2, 3, 4] (by decide) ?_
        have hp : flErase f (k : Int) = flErase1 f k := by unfold flErase; rw [if_neg (by omega), Int.toNat_natCast]
        have hp1 : flErase1 f k = ({ g with b := g.b.take (k * 256) ++ List.replicate 256 255 ++ g.b.drop (k * 256 + 256) }, 0) := by unfold flErase1; rw [hg, if_pos (by rw [hfd]; rfl), if_neg (by rw [hfd]; decide), ← hgb]
        have hlen : (g.b.take (k * 256) ++ List.replicate 256 255 ++ g.b.drop (k * 256 + 256)).length = g.b.length := by simp; omega
        obtain ⟨B, hB⟩ : ∃ B, g.b.take (k * 256) ++ List.replicate 256 255 ++ g.b.drop (k * 256 + 256) = B := ⟨_, rfl⟩
        rw [hB] at hp1 hlen
        rw [hp, hp1]
        rw [hB]
        exact ⟨rfl, by simp only [pick, FlH, Fl.cells, hlen]; rfl⟩

end Go.Proofs.Ythcbcdjkfefnlaa
