import Derived.Test.YteocjpnckciboaaGv
import Derived.Test.YteocjpnckciboaaProg
/- Facts on types; what the relays compute, in plain Lean; the laws of reach and of the order. -/
set_option linter.unusedSimpArgs false
set_option linter.unusedVariables false
set_option linter.unnecessarySimpa false
set_option autoImplicit false
set_option linter.unusedVariables false
namespace Go.Proofs.Yteocjpnckciboaa
open Go.Gv
open Go.RowKit
theorem ty_3 : TyF Try.prog 3 (.int .i64 0) 1 8 := TyF.mk' (by kernel_rfl)
theorem ty_4 : TyF Try.prog 4 (.bool false) 1 1 := TyF.mk' (by kernel_rfl)
theorem ty_5 : TyF Try.prog 5 (.int .u8 0) 1 1 := TyF.mk' (by kernel_rfl)
theorem ty_22 : TyF Try.prog 22 (.slice none 0 0) 1 24 := TyF.mk' (by kernel_rfl)
theorem ty_23 : TyF Try.prog 23 (.slice none 0 0) 1 24 := TyF.mk' (by kernel_rfl)
theorem ty_25 : TyF Try.prog 25 (.agg #[.int .i64 0, .slice none 0 0, .slice none 0 0]) 3 56 := TyF.mk' (by kernel_rfl)
theorem ty_40 : TyF Try.prog 40 (.agg #[.int .i64 0, .slice none 0 0, .slice none 0 0]) 3 56 := TyF.mk' (by kernel_rfl)
theorem ty_48 : TyF Try.prog 48 (.agg #[.int .i64 0, .slice none 0 0]) 2 32 := TyF.mk' (by kernel_rfl)
theorem ty_50 : TyF Try.prog 50 (.agg #[.bool false, .int .i64 0, .int .i64 0, .int .i64 0, .slice none 0 0, .slice none 0 0]) 6 80 := TyF.mk' (by kernel_rfl)
theorem ty_60 : TyF Try.prog 60 (.pointer none) 1 8 := TyF.mk' (by kernel_rfl)
theorem ty_61 : TyF Try.prog 61 (.pointer none) 1 8 := TyF.mk' (by kernel_rfl)
theorem ty_64 : TyF Try.prog 64 (.pointer none) 1 8 := TyF.mk' (by kernel_rfl)
theorem ty_67 : TyF Try.prog 67 (.slice none 0 0) 1 24 := TyF.mk' (by kernel_rfl)
theorem ty_68 : TyF Try.prog 68 (.map none) 1 8 := TyF.mk' (by kernel_rfl)
theorem ty_72 : TyF Try.prog 72 (.agg #[.int .i64 0, .int .i64 0, .int .i64 0, .int .i64 0]) 4 32 := TyF.mk' (by kernel_rfl)
theorem ty_88 : TyF Try.prog 88 (.nilFunc) 1 8 := TyF.mk' (by kernel_rfl)
theorem ty_91 : TyF Try.prog 91 (.agg #[.slice none 0 0, .slice none 0 0, .slice none 0 0, .slice none 0 0]) 4 96 := TyF.mk' (by kernel_rfl)
theorem fa_25_0 (ad : Addr) (w : World) : (Instr.fieldAt 25 (.pointer (some ad)) 0).run Try.prog w = .ok (.pointer (some (ad.add 0))) w := by cases ad; kernel_rfl
theorem fa_25_1 (ad : Addr) (w : World) : (Instr.fieldAt 25 (.pointer (some ad)) 1).run Try.prog w = .ok (.pointer (some (ad.add 1))) w := by cases ad; kernel_rfl
theorem fa_25_2 (ad : Addr) (w : World) : (Instr.fieldAt 25 (.pointer (some ad)) 2).run Try.prog w = .ok (.pointer (some (ad.add 2))) w := by cases ad; kernel_rfl
theorem fa_40_0 (ad : Addr) (w : World) : (Instr.fieldAt 40 (.pointer (some ad)) 0).run Try.prog w = .ok (.pointer (some (ad.add 0))) w := by cases ad; kernel_rfl
theorem fa_40_1 (ad : Addr) (w : World) : (Instr.fieldAt 40 (.pointer (some ad)) 1).run Try.prog w = .ok (.pointer (some (ad.add 1))) w := by cases ad; kernel_rfl
theorem fa_40_2 (ad : Addr) (w : World) : (Instr.fieldAt 40 (.pointer (some ad)) 2).run Try.prog w = .ok (.pointer (some (ad.add 2))) w := by cases ad; kernel_rfl
theorem fa_48_0 (ad : Addr) (w : World) : (Instr.fieldAt 48 (.pointer (some ad)) 0).run Try.prog w = .ok (.pointer (some (ad.add 0))) w := by cases ad; kernel_rfl
theorem fa_48_1 (ad : Addr) (w : World) : (Instr.fieldAt 48 (.pointer (some ad)) 1).run Try.prog w = .ok (.pointer (some (ad.add 1))) w := by cases ad; kernel_rfl
theorem fa_50_0 (ad : Addr) (w : World) : (Instr.fieldAt 50 (.pointer (some ad)) 0).run Try.prog w = .ok (.pointer (some (ad.add 0))) w := by cases ad; kernel_rfl
theorem fa_50_1 (ad : Addr) (w : World) : (Instr.fieldAt 50 (.pointer (some ad)) 1).run Try.prog w = .ok (.pointer (some (ad.add 1))) w := by cases ad; kernel_rfl
theorem fa_50_2 (ad : Addr) (w : World) : (Instr.fieldAt 50 (.pointer (some ad)) 2).run Try.prog w = .ok (.pointer (some (ad.add 2))) w := by cases ad; kernel_rfl
theorem fa_50_3 (ad : Addr) (w : World) : (Instr.fieldAt 50 (.pointer (some ad)) 3).run Try.prog w = .ok (.pointer (some (ad.add 3))) w := by cases ad; kernel_rfl
theorem fa_70_0 (ad : Addr) (w : World) : (Instr.fieldAt 70 (.pointer (some ad)) 0).run Try.prog w = .ok (.pointer (some (ad.add 0))) w := by cases ad; kernel_rfl
theorem fa_70_1 (ad : Addr) (w : World) : (Instr.fieldAt 70 (.pointer (some ad)) 1).run Try.prog w = .ok (.pointer (some (ad.add 1))) w := by cases ad; kernel_rfl
theorem fa_72_0 (ad : Addr) (w : World) : (Instr.fieldAt 72 (.pointer (some ad)) 0).run Try.prog w = .ok (.pointer (some (ad.add 0))) w := by cases ad; kernel_rfl
theorem fa_72_1 (ad : Addr) (w : World) : (Instr.fieldAt 72 (.pointer (some ad)) 1).run Try.prog w = .ok (.pointer (some (ad.add 1))) w := by cases ad; kernel_rfl
theorem fa_72_2 (ad : Addr) (w : World) : (Instr.fieldAt 72 (.pointer (some ad)) 2).run Try.prog w = .ok (.pointer (some (ad.add 2))) w := by cases ad; kernel_rfl
theorem fa_72_3 (ad : Addr) (w : World) : (Instr.fieldAt 72 (.pointer (some ad)) 3).run Try.prog w = .ok (.pointer (some (ad.add 3))) w := by cases ad; kernel_rfl
theorem fa_91_0 (ad : Addr) (w : World) : (Instr.fieldAt 91 (.pointer (some ad)) 0).run Try.prog w = .ok (.pointer (some (ad.add 0))) w := by cases ad; kernel_rfl
theorem fa_91_1 (ad : Addr) (w : World) : (Instr.fieldAt 91 (.pointer (some ad)) 1).run Try.prog w = .ok (.pointer (some (ad.add 1))) w := by cases ad; kernel_rfl
theorem fa_91_2 (ad : Addr) (w : World) : (Instr.fieldAt 91 (.pointer (some ad)) 2).run Try.prog w = .ok (.pointer (some (ad.add 2))) w := by cases ad; kernel_rfl
theorem fa_91_3 (ad : Addr) (w : World) : (Instr.fieldAt 91 (.pointer (some ad)) 3).run Try.prog w = .ok (.pointer (some (ad.add 3))) w := by cases ad; kernel_rfl
theorem fa_97_0 (ad : Addr) (w : World) : (Instr.fieldAt 97 (.pointer (some ad)) 0).run Try.prog w = .ok (.pointer (some (ad.add 0))) w := by cases ad; kernel_rfl
theorem fa_97_1 (ad : Addr) (w : World) : (Instr.fieldAt 97 (.pointer (some ad)) 1).run Try.prog w = .ok (.pointer (some (ad.add 1))) w := by cases ad; kernel_rfl
theorem bd_25_0_1_2 (x1 : Int) (x2a : Option Addr) (x2n x2c : Nat) (x3a : Option Addr) (x3n x3c : Nat) {w : World} : (Instr.build 25 #[(0, .int .i64 x1), (1, .slice x2a x2n x2c), (2, .slice x3a x3n x3c)]).run Try.prog w = .ok (.agg #[.int .i64 x1, .slice x2a x2n x2c, .slice x3a x3n x3c]) w := by kernel_rfl
theorem bd_25_1 (x1a : Option Addr) (x1n x1c : Nat) {w : World} : (Instr.build 25 #[(1, .slice x1a x1n x1c)]).run Try.prog w = .ok (.agg #[.int .i64 0, .slice x1a x1n x1c, .slice none 0 0]) w := by kernel_rfl
theorem bd_40_  {w : World} : (Instr.build 40 #[]).run Try.prog w = .ok (.agg #[.int .i64 0, .slice none 0 0, .slice none 0 0]) w := by kernel_rfl
theorem bd_40_0_1_2 (x1 : Int) (x2a : Option Addr) (x2n x2c : Nat) (x3a : Option Addr) (x3n x3c : Nat) {w : World} : (Instr.build 40 #[(0, .int .i64 x1), (1, .slice x2a x2n x2c), (2, .slice x3a x3n x3c)]).run Try.prog w = .ok (.agg #[.int .i64 x1, .slice x2a x2n x2c, .slice x3a x3n x3c]) w := by kernel_rfl
theorem bd_40_0_2 (x1 : Int) (x2a : Option Addr) (x2n x2c : Nat) {w : World} : (Instr.build 40 #[(0, .int .i64 x1), (2, .slice x2a x2n x2c)]).run Try.prog w = .ok (.agg #[.int .i64 x1, .slice none 0 0, .slice x2a x2n x2c]) w := by kernel_rfl
theorem bd_48_0_1 (x1 : Int) (x2a : Option Addr) (x2n x2c : Nat) {w : World} : (Instr.build 48 #[(0, .int .i64 x1), (1, .slice x2a x2n x2c)]).run Try.prog w = .ok (.agg #[.int .i64 x1, .slice x2a x2n x2c]) w := by kernel_rfl
theorem bd_50_  {w : World} : (Instr.build 50 #[]).run Try.prog w = .ok (.agg #[.bool false, .int .i64 0, .int .i64 0, .int .i64 0, .slice none 0 0, .slice none 0 0]) w := by kernel_rfl
theorem bd_50_0 (x1 : Bool) {w : World} : (Instr.build 50 #[(0, .bool x1)]).run Try.prog w = .ok (.agg #[.bool x1, .int .i64 0, .int .i64 0, .int .i64 0, .slice none 0 0, .slice none 0 0]) w := by kernel_rfl
theorem bd_50_1_2_3 (x1 : Int) (x2 : Int) (x3 : Int) (x4a : Option Addr) (x4n x4c : Nat) (x5a : Option Addr) (x5n x5c : Nat) {w : World} : (Instr.build 50 #[(1, .int .i64 x1), (2, .int .i64 x2), (3, .agg #[.int .i64 x3, .slice x4a x4n x4c, .slice x5a x5n x5c])]).run Try.prog w = .ok (.agg #[.bool false, .int .i64 x1, .int .i64 x2, .int .i64 x3, .slice x4a x4n x4c, .slice x5a x5n x5c]) w := by kernel_rfl
theorem bd_70_1 (x1 : Option Nat) {w : World} : (Instr.build 70 #[(1, .map x1)]).run Try.prog w = .ok (.agg #[.slice none 0 0, .map x1]) w := by kernel_rfl
theorem bd_72_0_1_2_3 (x1 : Int) (x2 : Int) (x3 : Int) (x4 : Int) {w : World} : (Instr.build 72 #[(0, .int .i64 x1), (1, .int .i64 x2), (2, .int .i64 x3), (3, .int .i64 x4)]).run Try.prog w = .ok (.agg #[.int .i64 x1, .int .i64 x2, .int .i64 x3, .int .i64 x4]) w := by kernel_rfl
theorem bd_91_  {w : World} : (Instr.build 91 #[]).run Try.prog w = .ok (.agg #[.slice none 0 0, .slice none 0 0, .slice none 0 0, .slice none 0 0]) w := by kernel_rfl
theorem bd_91_3 (x1a : Option Addr) (x1n x1c : Nat) {w : World} : (Instr.build 91 #[(3, .slice x1a x1n x1c)]).run Try.prog w = .ok (.agg #[.slice none 0 0, .slice none 0 0, .slice none 0 0, .slice x1a x1n x1c]) w := by kernel_rfl
theorem bd_97_0_1 (x1 : Option Addr) (x2 : Int) {w : World} : (Instr.build 97 #[(0, .pointer x1), (1, .int .i64 x2)]).run Try.prog w = .ok (.agg #[.pointer x1, .int .i64 x2]) w := by kernel_rfl
theorem bs_22_1_0 (x1 : Int) (x2a : Option Addr) (x2n x2c : Nat) {w : World} : (Instr.buildSlice 22 1 #[(0, .agg #[.int .i64 x1, .slice x2a x2n x2c])]).run Try.prog w = .ok (.slice (some ⟨w.heap.size, 0, none⟩) 1 1) (w.alloc (.cells [.int .i64 x1, .slice x2a x2n x2c].toArray 48)) := by kernel_rfl
theorem bs_22_2_0_1 (x1 : Int) (x2a : Option Addr) (x2n x2c : Nat) (x3 : Int) (x4a : Option Addr) (x4n x4c : Nat) {w : World} : (Instr.buildSlice 22 2 #[(0, .agg #[.int .i64 x1, .slice x2a x2n x2c]), (1, .agg #[.int .i64 x3, .slice x4a x4n x4c])]).run Try.prog w = .ok (.slice (some ⟨w.heap.size, 0, none⟩) 2 2) (w.alloc (.cells [.int .i64 x1, .slice x2a x2n x2c, .int .i64 x3, .slice x4a x4n x4c].toArray 48)) := by kernel_rfl
theorem bs_22_4_0_1_2_3 (x1 : Int) (x2a : Option Addr) (x2n x2c : Nat) (x3 : Int) (x4a : Option Addr) (x4n x4c : Nat) (x5 : Int) (x6a : Option Addr) (x6n x6c : Nat) (x7 : Int) (x8a : Option Addr) (x8n x8c : Nat) {w : World} : (Instr.buildSlice 22 4 #[(0, .agg #[.int .i64 x1, .slice x2a x2n x2c]), (1, .agg #[.int .i64 x3, .slice x4a x4n x4c]), (2, .agg #[.int .i64 x5, .slice x6a x6n x6c]), (3, .agg #[.int .i64 x7, .slice x8a x8n x8c])]).run Try.prog w = .ok (.slice (some ⟨w.heap.size, 0, none⟩) 4 4) (w.alloc (.cells [.int .i64 x1, .slice x2a x2n x2c, .int .i64 x3, .slice x4a x4n x4c, .int .i64 x5, .slice x6a x6n x6c, .int .i64 x7, .slice x8a x8n x8c].toArray 48)) := by kernel_rfl
theorem bs_23_0_  {w : World} : (Instr.buildSlice 23 0 #[]).run Try.prog w = .ok (.slice (some ⟨w.heap.size, 0, none⟩) 0 0) (w.alloc (.cells [].toArray 3)) := by kernel_rfl
theorem bs_23_1_0 (x1 : Int) {w : World} : (Instr.buildSlice 23 1 #[(0, .int .i64 x1)]).run Try.prog w = .ok (.slice (some ⟨w.heap.size, 0, none⟩) 1 1) (w.alloc (.cells [.int .i64 x1].toArray 3)) := by kernel_rfl
theorem bs_23_2_0_1 (x1 : Int) (x2 : Int) {w : World} : (Instr.buildSlice 23 2 #[(0, .int .i64 x1), (1, .int .i64 x2)]).run Try.prog w = .ok (.slice (some ⟨w.heap.size, 0, none⟩) 2 2) (w.alloc (.cells [.int .i64 x1, .int .i64 x2].toArray 3)) := by kernel_rfl
theorem bs_23_4_0_1_2_3 (x1 : Int) (x2 : Int) (x3 : Int) (x4 : Int) {w : World} : (Instr.buildSlice 23 4 #[(0, .int .i64 x1), (1, .int .i64 x2), (2, .int .i64 x3), (3, .int .i64 x4)]).run Try.prog w = .ok (.slice (some ⟨w.heap.size, 0, none⟩) 4 4) (w.alloc (.cells [.int .i64 x1, .int .i64 x2, .int .i64 x3, .int .i64 x4].toArray 3)) := by kernel_rfl
theorem bs_67_1_0 (x1 : Int) (x2 : Int) (x3 : Int) (x4 : Int) {w : World} : (Instr.buildSlice 67 1 #[(0, .agg #[.int .i64 x1, .int .i64 x2, .int .i64 x3, .int .i64 x4])]).run Try.prog w = .ok (.slice (some ⟨w.heap.size, 0, none⟩) 1 1) (w.alloc (.cells [.int .i64 x1, .int .i64 x2, .int .i64 x3, .int .i64 x4].toArray 72)) := by kernel_rfl
theorem fd_40_0 (x1 : Int) (x2a : Option Addr) (x2n x2c : Nat) (x3a : Option Addr) (x3n x3c : Nat) (w : World) : (Instr.field 40 (.agg #[.int .i64 x1, .slice x2a x2n x2c, .slice x3a x3n x3c]) 0).run Try.prog w = .ok (.int .i64 x1) w := by kernel_rfl
end Go.Proofs.Yteocjpnckciboaa

set_option autoImplicit false
set_option linter.unusedVariables false
namespace Go.Proofs.Yteocjpnckciboaa
open Go.Gv
open Go.RowKit

abbrev intV (z : Int) : Value := .int .i64 z
abbrev natV (z : Nat) : Value := .int .i64 (z : Int)
/-- the value is v0, no memory is handed over -/
def RV (v0 : Value) : Value → List HL → Prop := fun v l => v = v0 ∧ l = []

namespace Ry
structure Gate where
  kind : Int
  ia : Option Addr
  ic : Nat
  ins : List Int
  deriving Inhabited
structure Circ where
  inputs : Int
  ga : Option Addr
  gc : Nat
  gates : List Gate
  oa : Option Addr
  oc : Nat
  outs : List Int

abbrev Gate.cells (g : Gate) : List Value := [.int .i64 g.kind, .slice g.ia g.ins.length g.ic]
abbrev Gate.val (g : Gate) : Value := .agg g.cells.toArray
abbrev Circ.cells (c : Circ) : List Value := [.int .i64 c.inputs, .slice c.ga c.gates.length c.gc, .slice c.oa c.outs.length c.oc]
abbrev Circ.val (c : Circ) : Value := .agg c.cells.toArray

structure Circ.In (c : Circ) (w : World) (S : List Nat) : Prop where
  gates : OldSl w S c.ga c.gates.length 2 (c.gates.flatMap Gate.cells)
  ins : ∀ g ∈ c.gates, OldSl w S g.ia g.ins.length 1 (g.ins.map intV)
  outs : OldSl w S c.oa c.outs.length 1 (c.outs.map intV)
  gb : c.gates.length ≤ 140737488355328
  ib : ∀ g ∈ c.gates, g.ins.length ≤ 140737488355328
  ob : c.outs.length ≤ 140737488355328

theorem Circ.In.at {c : Circ} {w0 w : World} {S : List Nat} {l : List HL} (h : c.In w0 S) (ho : Own w0 S w l) : c.In w [] :=
  ⟨h.gates.at ho, fun g hg => (h.ins g hg).at ho, h.outs.at ho, h.gb, h.ib, h.ob⟩
theorem Circ.In.atS {c : Circ} {w0 w : World} {S Sc : List Nat} {l : List HL} (h : c.In w0 S) (ho : Own w0 S w l) (hlt : ∀ b ∈ Sc, w0.heap.size ≤ b) : c.In w Sc :=
  ⟨h.gates.atS ho (by decide) hlt, fun g hg => (h.ins g hg).atS ho (by decide) hlt, h.outs.atS ho (by decide) hlt, h.gb, h.ib, h.ob⟩

def sigs (k : Int) (n : Nat) : Bool :=
  if k = 1 then decide (0 < n) else if k = 2 then decide (0 < n) else if k = 4 then decide (0 < n) else if k = 5 then decide (0 < n)
  else if k = 3 then decide (n = 1) else if k = 6 then decide (n = 2) else if k = 7 then decide (n = 2) else false
def Circ.bad (c : Circ) (n : Int) : Bool := decide (n < 0) || decide (c.inputs + c.gates.length ≤ n)
def Circ.long (c : Circ) : Bool := decide (8 < c.inputs) || decide (12 < c.gates.length) || decide (16 < c.outs.length) || c.gates.any (fun g => decide (4 < g.ins.length))
def Circ.wrong (c : Circ) : Bool := decide (c.inputs < 0) || decide (c.gates.length = 0) || c.gates.any (fun g => !sigs g.kind g.ins.length)
def Circ.out (c : Circ) : Bool := c.outs.any c.bad || c.gates.any (fun g => g.ins.any c.bad)
def Circ.check (c : Circ) : Int := if c.long then 3 else if c.wrong then 2 else if c.out then 7 else 0
def Circ.ready (c : Circ) (st inn : Int) : Int :=
  if c.check = 0 then (if st < 0 ∨ 2 ^ c.gates.length ≤ st.toNat ∨ inn < 0 ∨ 2 ^ c.inputs.toNat ≤ inn.toNat then 7 else 0) else c.check

/-- the first place where p holds -/
def idx {α : Type} (p : α → Bool) : List α → Nat → Int
  | [], _ => -1
  | x :: xs, k => if p x then k else idx p xs (k + 1)
theorem idx_stop {α : Type} (p : α → Bool) (d : α) : ∀ (xs : List α) (b k : Nat), k < xs.length → (∀ j, j < k → p (xs.getD j d) = false) → p (xs.getD k d) = true → idx p xs b = ((b + k : Nat) : Int)
  | [], _, k, h, _, _ => by simp at h
  | x :: xs, b, 0, _, _, h2 => by simp at h2; simp [idx, h2]
  | x :: xs, b, k + 1, h, h1, h2 => by
    have h0 : p x = false := by simpa using h1 0 (by omega)
    have := idx_stop p d xs (b + 1) k (by simpa using h) (fun j hj => by simpa using h1 (j + 1) (by omega)) (by simpa using h2)
    simp only [idx, h0, this]
    simp; omega
theorem idx_none {α : Type} (p : α → Bool) (d : α) : ∀ (xs : List α) (b : Nat), (∀ j, j < xs.length → p (xs.getD j d) = false) → idx p xs b = -1
  | [], _, _ => rfl
  | x :: xs, b, h => by
    have h0 : p x = false := by simpa using h 0 (by simp)
    have := idx_none p d xs (b + 1) (fun j hj => by simpa using h (j + 1) (by simpa using hj))
    simp only [idx, h0, this]; simp
theorem idx_any {α : Type} (p : α → Bool) : ∀ (xs : List α) (b : Nat), decide (0 ≤ idx p xs b) = xs.any p
  | [], _ => rfl
  | x :: xs, b => by
    by_cases h : p x = true
    · simp [idx, h]
    · simp only [idx, List.any_cons, if_neg h]
      rw [idx_any p xs (b + 1)]; simp [h]
theorem idx_le {α : Type} (p : α → Bool) : ∀ (xs : List α) (b : Nat), -1 ≤ idx p xs b ∧ idx p xs b < b + xs.length ∨ (idx p xs b = -1)
  | [], _ => .inr rfl
  | x :: xs, b => by
    simp only [idx]
    split
    · left; simp; omega
    · rcases idx_le p xs (b + 1) with h | h
      · left; simp; omega
      · exact .inr h
theorem Circ.check_long (c : Circ) (h : c.long = true) : c.check = 3 := by simp [Circ.check, h]
theorem Circ.check_wrong (c : Circ) (h : c.long = false) (h2 : c.wrong = true) : c.check = 2 := by simp [Circ.check, h, h2]
theorem Circ.check_out (c : Circ) (h : c.long = false) (h2 : c.wrong = false) (h3 : c.out = true) : c.check = 7 := by simp [Circ.check, h, h2, h3]
theorem Circ.check_ok (c : Circ) (h : c.long = false) (h2 : c.wrong = false) (h3 : c.out = false) : c.check = 0 := by simp [Circ.check, h, h2, h3]
theorem Circ.long_f (c : Circ) (a1 : ¬ 8 < c.inputs) (a2 : ¬ 12 < (c.gates.length : Int)) (a3 : ¬ 16 < (c.outs.length : Int)) (a4 : c.gates.any (fun g => decide (4 < g.ins.length)) = false) : c.long = false := by
  simp only [Circ.long, a4, Bool.or_false, Bool.or_eq_false_iff, decide_eq_false_iff_not]; omega
theorem Circ.wrong_f (c : Circ) (a1 : ¬ c.inputs < 0) (a2 : ¬ (c.gates.length : Int) = 0) (a4 : c.gates.any (fun g => !sigs g.kind g.ins.length) = false) : c.wrong = false := by
  simp only [Circ.wrong, a4, Bool.or_false, Bool.or_eq_false_iff, decide_eq_false_iff_not]; omega
theorem Circ.ready_bad {c : Circ} {st inn : Int} (h : c.check ≠ 0) : c.ready st inn = c.check := by simp [Circ.ready, h]
theorem Circ.ready_7 {c : Circ} {st inn : Int} (h : c.check = 0) (h2 : st < 0 ∨ 2 ^ c.gates.length ≤ st.toNat ∨ inn < 0 ∨ 2 ^ c.inputs.toNat ≤ inn.toNat) : c.ready st inn = 7 := by simp only [Circ.ready, h, if_true, if_pos h2]
theorem Circ.ready_0 {c : Circ} {st inn : Int} (h : c.check = 0) (h2 : ¬ (st < 0 ∨ 2 ^ c.gates.length ≤ st.toNat ∨ inn < 0 ∨ 2 ^ c.inputs.toNat ≤ inn.toNat)) : c.ready st inn = 0 := by simp only [Circ.ready, h, if_true, if_neg h2]
theorem Circ.of_ready {c : Circ} {st inn : Int} (h : c.ready st inn = 0) : c.check = 0 ∧ 0 ≤ st ∧ st.toNat < 2 ^ c.gates.length ∧ 0 ≤ inn ∧ inn.toNat < 2 ^ c.inputs.toNat := by
  unfold Circ.ready at h
  split at h
  · rename_i h1
    split at h
    · omega
    · rename_i h2; exact ⟨h1, by omega, by omega, by omega, by omega⟩
  · rename_i h1; exact absurd h h1
theorem shr_pos {n k : Nat} : 0 < n >>> k ↔ 2 ^ k ≤ n := by
  rw [Nat.shiftRight_eq_div_pow]
  constructor
  · intro h
    apply Nat.le_of_not_lt; intro h2
    rw [Nat.div_eq_of_lt h2] at h; omega
  · intro h; exact Nat.div_pos h (Nat.two_pow_pos k)
theorem Circ.wrong_t (c : Circ) (h : c.gates.length = 0) : c.wrong = true := by simp only [Circ.wrong, h, decide_true, Bool.or_true, Bool.true_or]
theorem mem_getD {α : Type} {d : α} {xs : List α} {k : Nat} (h : k < xs.length) : xs.getD k d ∈ xs := by simp [h]

/-- what a circuit that Check accepts is like -/
structure Circ.Good (c : Circ) : Prop where
  i0 : 0 ≤ c.inputs
  i8 : c.inputs ≤ 8
  g0 : 0 < c.gates.length
  g12 : c.gates.length ≤ 12
  o16 : c.outs.length ≤ 16
  in4 : ∀ g ∈ c.gates, g.ins.length ≤ 4
  sigs : ∀ g ∈ c.gates, sigs g.kind g.ins.length = true
  outs : ∀ n ∈ c.outs, 0 ≤ n ∧ n < c.inputs + c.gates.length
  ins : ∀ g ∈ c.gates, ∀ n ∈ g.ins, 0 ≤ n ∧ n < c.inputs + c.gates.length
theorem Circ.good {c : Circ} (h : c.check = 0) : c.Good := by
  unfold Circ.check at h
  split at h
  · omega
  · rename_i h1
    split at h
    · omega
    · rename_i h2
      split at h
      · omega
      · rename_i h3
        simp only [Circ.long, Circ.wrong, Circ.out, Circ.bad, Bool.not_eq_true, Bool.or_eq_false_iff, decide_eq_false_iff_not, List.any_eq_false] at h1 h2 h3
        obtain ⟨⟨⟨a1, a2⟩, a3⟩, a4⟩ := h1
        obtain ⟨⟨b1, b2⟩, b3⟩ := h2
        obtain ⟨d1, d2⟩ := h3
        refine ⟨by omega, by omega, by omega, by omega, by omega, fun g hg => ?_, fun g hg => ?_, fun n hn => ?_, fun g hg n hn => ?_⟩
        · have := a4 g hg; simpa using this
        · have := b3 g hg; simpa using this
        · have := d1 n hn; simp at this; omega
        · have := d2 g hg; simp at this; have := this n hn; omega
/-! ### values of gates -/
def sigA (all : Nat) (n : Int) : Bool := all.testBit n.toNat
def cnt (all : Nat) (ns : List Int) : Nat := (ns.filter (sigA all)).length
theorem cnt_le (all : Nat) (ns : List Int) : cnt all ns ≤ ns.length := List.length_filter_le _ _
theorem cnt_cons (all : Nat) (n : Int) (ns : List Int) : cnt all (n :: ns) = (if sigA all n then 1 else 0) + cnt all ns := by
  unfold cnt; rw [List.filter_cons]; split <;> simp [Nat.add_comm]
theorem cnt_take_succ (all : Nat) (ns : List Int) (k : Nat) (h : k < ns.length) : cnt all (ns.take (k + 1)) = cnt all (ns.take k) + (if sigA all (ns.getD k 0) then 1 else 0) := by
  unfold cnt
  rw [List.take_succ_eq_append_getElem h, List.filter_append]
  simp [List.filter_cons, h]; split <;> simp
theorem cnt_all (all : Nat) : ∀ (ns : List Int), (cnt all ns = ns.length) ↔ ns.all (sigA all) = true
  | [] => by simp [cnt]
  | n :: ns => by
    have h1 := cnt_le all ns
    have h2 := cnt_all all ns
    rw [cnt_cons]
    cases h : sigA all n
    · simp [h]; omega
    · simp [h]; rw [← List.all_eq_true, ← h2]; omega
theorem cnt_any (all : Nat) : ∀ (ns : List Int), (0 < cnt all ns) ↔ ns.any (sigA all) = true
  | [] => by simp [cnt]
  | n :: ns => by
    have h2 := cnt_any all ns
    rw [cnt_cons]
    cases h : sigA all n
    · simp [h]; rw [← List.any_eq_true, ← h2]
    · simp [h]; omega
def valueG (all st k : Nat) (g : Gate) : Bool :=
  if g.kind = 1 then g.ins.all (sigA all) else if g.kind = 4 then !g.ins.all (sigA all) else if g.kind = 2 then g.ins.any (sigA all) else if g.kind = 5 then !g.ins.any (sigA all)
  else if g.kind = 3 then !sigA all (g.ins.getD 0 0) else if g.kind = 6 then sigA all (g.ins.getD 0 0) != sigA all (g.ins.getD 1 0)
  else sigA all (g.ins.getD 0 0) || (st.testBit k && !sigA all (g.ins.getD 1 0))
theorem and1 (n k : Nat) : ((n >>> k) &&& 1) = if n.testBit k then 1 else 0 := by
  rw [Nat.testBit, Nat.and_comm]
  have := Nat.mod_two_eq_zero_or_one (n >>> k)
  simp [Nat.one_and_eq_mod_two]
  split <;> omega
theorem all_lt {c : Circ} (h : c.Good) {st inn : Nat} (hs : st < 2 ^ c.gates.length) (hi : inn < 2 ^ c.inputs.toNat) : st <<< c.inputs.toNat ||| inn < 1048576 := by
  have h0 := h.i0
  have h1 := h.i8
  have h2 := h.g12
  have e1 : 2 ^ c.inputs.toNat ≤ 2 ^ 8 := Nat.pow_le_pow_right (by decide) (by omega)
  have e2 : 2 ^ c.gates.length ≤ 2 ^ 12 := Nat.pow_le_pow_right (by decide) h2
  have e3 : st <<< c.inputs.toNat < 2 ^ 20 := by
    rw [Nat.shiftLeft_eq]
    have := Nat.mul_le_mul (Nat.le_of_lt_succ (by omega : st < 4095 + 1)) e1
    omega
  exact Nat.or_lt_two_pow (n := 20) e3 (by omega)
theorem st_lt {c : Circ} (h : c.Good) {st : Nat} (hs : st < 2 ^ c.gates.length) : st < 4096 := by
  have e2 : 2 ^ c.gates.length ≤ 2 ^ 12 := Nat.pow_le_pow_right (by decide) h.g12
  omega
theorem in_lt {c : Circ} (h : c.Good) {inn : Nat} (hi : inn < 2 ^ c.inputs.toNat) : inn < 256 := by
  have := h.i8
  have e2 : 2 ^ c.inputs.toNat ≤ 2 ^ 8 := Nat.pow_le_pow_right (by decide) (by omega)
  omega

/-- the board: the circuit's address, and the input -/
structure BoardIn (c : Circ) (pb pc : Addr) (inn : Nat) (w : World) : Prop where
  b : Cells w pb [.pointer (some pc), natV inn]
  p : Cells w pc c.cells
  c : c.In w []
theorem BoardIn.at {c : Circ} {pb pc : Addr} {inn : Nat} {w0 w : World} {l : List HL} (h : BoardIn c pb pc inn w0) (ho : Own w0 [] w l) : BoardIn c pb pc inn w := ⟨h.b.at ho, h.p.at ho, h.c.at ho⟩

theorem get_flat {α : Type} (f : α → List Value) (m : Nat) (hf : ∀ x, (f x).length = m) {zs : List α} {k j : Nat} {x : α} (h : zs[k]? = some x) (hj : j < m) {v : Value} (hv : (f x)[j]? = some v) : (zs.flatMap f)[k * m + j]? = some v := by
  have hlt : k < zs.length := (List.getElem?_eq_some_iff.1 h).1
  rw [flat_get f m hf x zs k j hlt hj]
  rw [show zs.getD k x = x from by simp [List.getD, h]]
  exact hv

def valueB (c : Circ) (k st inn : Nat) : Bool := match c.gates[k]? with
  | some g => valueG (st <<< c.inputs.toNat ||| inn) st k g
  | none => false
theorem valueB_eq {c : Circ} {k : Nat} {g : Gate} (h : c.gates[k]? = some g) (st inn : Nat) : valueB c k st inn = valueG (st <<< c.inputs.toNat ||| inn) st k g := by simp [valueB, h]
/-- the gates that are not at rest -/
def restless (c : Circ) (st inn k : Nat) : Bool := valueB c k st inn != st.testBit k
def nextL (c : Circ) (st inn : Nat) : List Nat := (List.range c.gates.length).filter (restless c st inn)
/-- as bits -/
def maskTo (f : Nat → Bool) : Nat → Nat
  | 0 => 0
  | k + 1 => maskTo f k ||| (if f k then 1 <<< k else 0)
theorem maskTo_lt (f : Nat → Bool) : ∀ k, maskTo f k < 2 ^ k
  | 0 => by simp [maskTo]
  | k + 1 => by
    have h := maskTo_lt f k
    have h2 : 2 ^ k < 2 ^ (k + 1) := Nat.pow_lt_pow_right (by decide) (by omega)
    refine Nat.or_lt_two_pow (by omega) ?_
    split
    · rw [Nat.one_shiftLeft]; exact h2
    · exact Nat.two_pow_pos _
theorem maskTo_test (f : Nat → Bool) : ∀ k j, (maskTo f k).testBit j = (decide (j < k) && f j)
  | 0, j => by simp [maskTo]
  | k + 1, j => by
    rw [maskTo, Nat.testBit_or, maskTo_test f k j]
    by_cases hj : j = k
    · subst hj
      cases h : f j <;> simp [Nat.one_shiftLeft, Nat.testBit_two_pow_self]
    · have : (if f k then 1 <<< k else 0).testBit j = false := by
        split
        · rw [Nat.one_shiftLeft, Nat.testBit_two_pow]; simp; omega
        · simp
      rw [this, Bool.or_false]
      congr 1
      rw [decide_eq_decide]; omega
def nextM (c : Circ) (st inn : Nat) : Nat := maskTo (restless c st inn) c.gates.length

def upTo (n k : Nat) : List Nat := (List.range k).filter n.testBit
theorem upTo_succ (n k : Nat) : upTo n (k+1) = upTo n k ++ (if n.testBit k then [k] else []) := by
  unfold upTo; rw [List.range_succ, List.filter_append]; congr 1; cases h : n.testBit k <;> simp [h]
theorem upTo_len (n k : Nat) : (upTo n k).length ≤ k := by
  have := List.length_filter_le n.testBit (List.range k); simpa [upTo] using this
theorem upTo_done (n k : Nat) (h : n >>> k = 0) (hk : k ≤ 12) : upTo n k = upTo n 12 := by
  have key : ∀ j, upTo n (k + j) = upTo n k := by
    intro j; induction j with
    | zero => rfl
    | succ j ih =>
      rw [show k + (j+1) = (k + j) + 1 from rfl, upTo_succ, ih]
      have : n.testBit (k + j) = false := by
        rw [← Nat.testBit_shiftRight, h]; simp
      simp [this]
  have := key (12 - k)
  rw [show k + (12 - k) = 12 by omega] at this
  exact this.symm
theorem upTo_next (c : Circ) (h : c.Good) (st inn : Nat) : upTo (nextM c st inn) 12 = nextL c st inn := by
  have h12 := h.g12
  unfold upTo nextL nextM
  have key : ∀ j, (List.range (c.gates.length + j)).filter (maskTo (restless c st inn) c.gates.length).testBit = (List.range c.gates.length).filter (restless c st inn) := by
    intro j
    induction j with
    | zero =>
      apply List.filter_congr
      intro k hk
      have hk2 : k < c.gates.length := by simpa using List.mem_range.1 hk
      rw [maskTo_test]; simp [hk2]
    | succ j ih =>
      rw [show c.gates.length + (j + 1) = (c.gates.length + j) + 1 from rfl, List.range_succ, List.filter_append, ih]
      simp [maskTo_test]; omega
  have := key (12 - c.gates.length)
  rwa [show c.gates.length + (12 - c.gates.length) = 12 by omega] at this
/-- the outputs -/
def outTo (all : Nat) : List Int → Nat → Nat → Nat
  | [], _, n => n
  | s :: ss, i, n => outTo all ss (i + 1) (n ||| ((all >>> s.toNat) &&& 1) <<< i)
def outB (c : Circ) (st inn : Nat) : Nat := outTo (st <<< c.inputs.toNat ||| inn) c.outs 0 0
theorem shl_lt {st ci : Nat} (h : st < 4096) (h8 : ci ≤ 8) : st * 2 ^ ci < 1048576 := by
  have e1 : 2 ^ ci ≤ 2 ^ 8 := Nat.pow_le_pow_right (by decide) h8
  have := Nat.mul_le_mul (Nat.le_of_lt_succ (by omega : st < 4095 + 1)) e1
  omega
theorem sigs_pos {k : Int} {n : Nat} (h : sigs k n = true) : 0 < n := by
  unfold sigs at h
  repeat' split at h
  all_goals simp at h
  all_goals omega
theorem sigs_not {k : Int} {n : Nat} (h : sigs k n = true) (hk : k = 3) : n = 1 := by subst hk; simpa [sigs] using h
theorem sigs_xor {k : Int} {n : Nat} (h : sigs k n = true) (hk : k = 6) : n = 2 := by subst hk; simpa [sigs] using h
theorem sigs_hold {k : Int} {n : Nat} (h : sigs k n = true) (h1 : ¬ k = 1) (h2 : ¬ k = 2) (h3 : ¬ k = 3) (h4 : ¬ k = 4) (h5 : ¬ k = 5) (h6 : ¬ k = 6) : n = 2 := by
  simp only [sigs, h1, h2, h3, h4, h5, h6, if_false] at h
  split at h <;> simp at h
  omega
section
variable {all st k : Nat} {g : Gate}
theorem valueG_and (h : g.kind = 1) : valueG all st k g = g.ins.all (sigA all) := by simp [valueG, h]
theorem valueG_and2 (h : g.kind = 4) : valueG all st k g = !g.ins.all (sigA all) := by simp [valueG, h]
theorem valueG_or (h : g.kind = 2) : valueG all st k g = g.ins.any (sigA all) := by simp [valueG, h]
theorem valueG_or2 (h : g.kind = 5) : valueG all st k g = !g.ins.any (sigA all) := by simp [valueG, h]
theorem valueG_not (h : g.kind = 3) (hs : sigs g.kind g.ins.length = true) : valueG all st k g = !g.ins.any (sigA all) := by
  have := sigs_not hs h
  match hg : g.ins, this with
  | [n], _ => simp [valueG, h, hg]
theorem valueG_xor (h : g.kind = 6) (hs : sigs g.kind g.ins.length = true) : valueG all st k g = decide (cnt all g.ins = 1) := by
  have := sigs_xor hs h
  match hg : g.ins, this with
  | [n, m], _ =>
    simp only [valueG, h, hg, cnt_cons]
    cases h1 : sigA all n <;> cases h2 : sigA all m <;> simp [cnt, h1, h2]
theorem valueG_hold (h1 : ¬ g.kind = 1) (h2 : ¬ g.kind = 2) (h3 : ¬ g.kind = 3) (h4 : ¬ g.kind = 4) (h5 : ¬ g.kind = 5) (h6 : ¬ g.kind = 6) : valueG all st k g = (sigA all (g.ins.getD 0 0) || (st.testBit k && !sigA all (g.ins.getD 1 0))) := by
  simp only [valueG, h1, h2, h3, h4, h5, h6, if_false]
end
theorem cnt_beq (all : Nat) (ns : List Int) : decide (((cnt all ns : Nat) : Int) = (ns.length : Int)) = ns.all (sigA all) := by
  rw [Bool.eq_iff_iff, decide_eq_true_eq, ← cnt_all]; omega
theorem cnt_bpos (all : Nat) (ns : List Int) : decide (0 < ((cnt all ns : Nat) : Int)) = ns.any (sigA all) := by
  rw [Bool.eq_iff_iff, decide_eq_true_eq, ← cnt_any]; omega
theorem bit1 (n k : Nat) : (n >>> k) &&& 1 = 1 ↔ n.testBit k = true := by rw [and1]; split <;> simp [*]
theorem bit0 {n k : Nat} (h : ¬ (((n >>> k) &&& 1 : Nat) : Int) = 1) : n.testBit k = false := by
  cases hb : n.testBit k with
  | false => rfl
  | true => exact absurd (by rw [(bit1 n k).2 hb]; rfl) h
theorem bitz (n k : Nat) : decide ((((n >>> k) &&& 1 : Nat) : Int) = 0) = !n.testBit k := by rw [and1]; cases n.testBit k <;> simp
theorem dec_bit (n k : Nat) : decide ((((n >>> k) &&& 1 : Nat) : Int) = 1) = n.testBit k := by rw [and1]; cases n.testBit k <;> simp
theorem mod_bit (n k : Nat) : (n >>> k) % 2 = if n.testBit k then 1 else 0 := by rw [← Nat.and_one_is_mod, and1]
theorem dec_mod (n k : Nat) : decide ((((n >>> k : Nat) : Int)) % 2 = 1) = n.testBit k := by
  have h := mod_bit n k
  cases hb : n.testBit k
  · rw [hb] at h; simp at h; simp only [decide_eq_false_iff_not]; omega
  · rw [hb] at h; simp at h; simp only [decide_eq_true_eq]; omega
theorem all_bit {st inn I n : Nat} (h : inn < 2 ^ I) : (st <<< I ||| inn).testBit n = if n < I then inn.testBit n else st.testBit (n - I) := by
  rw [Nat.testBit_or, Nat.testBit_shiftLeft]
  by_cases h1 : n < I
  · simp [h1, show ¬ I ≤ n by omega]
  · rw [if_neg h1]
    rw [Nat.testBit_lt_two_pow (Nat.lt_of_lt_of_le h (Nat.pow_le_pow_right (by decide) (by omega)))]
    simp [Nat.le_of_not_lt h1]
def flip (st k : Nat) : Nat := st ^^^ (1 <<< k)
theorem flip_test (st k j : Nat) : (flip st k).testBit j = (st.testBit j != decide (k = j)) := by
  unfold flip
  rw [Nat.testBit_xor, Nat.one_shiftLeft, Nat.testBit_two_pow]
theorem flip_lt {st k n : Nat} (h : st < 2 ^ n) (hk : k < n) : flip st k < 2 ^ n := by
  unfold flip
  refine Nat.xor_lt_two_pow h ?_
  rw [Nat.one_shiftLeft]; exact Nat.pow_lt_pow_right (by decide) hk
theorem add_two_pow {a k : Nat} (h : a.testBit k = false) : a + 2 ^ k = a ^^^ 2 ^ k := by
  have h0 : a / 2 ^ k % 2 = 0 := by
    have := mod_bit a k
    rw [h, Nat.shiftRight_eq_div_pow] at this
    simpa using this
  have hr : a % 2 ^ (k + 1) = a % 2 ^ k := by rw [Nat.mod_pow_succ, h0]; simp
  have hlt : a % 2 ^ k < 2 ^ k := Nat.mod_lt _ (Nat.two_pow_pos k)
  have hpow : 2 ^ (k + 1) = 2 ^ k + 2 ^ k := by rw [Nat.pow_succ]; omega
  have ha : a = 2 ^ (k + 1) * (a / 2 ^ (k + 1)) + a % 2 ^ k := by rw [← hr]; exact (Nat.div_add_mod a _).symm
  apply Nat.eq_of_testBit_eq
  intro j
  rw [Nat.testBit_xor, Nat.testBit_two_pow]
  have e1 : (a + 2 ^ k).testBit j = if j < k + 1 then (2 ^ k * 1 + a % 2 ^ k).testBit j else (a / 2 ^ (k + 1)).testBit (j - (k + 1)) := by
    conv => lhs; rw [ha]
    rw [Nat.add_assoc, Nat.add_comm (a % 2 ^ k) (2 ^ k), ← Nat.mul_one (2 ^ k)]
    rw [Nat.mul_one]
    have := Nat.testBit_two_pow_mul_add (a / 2 ^ (k + 1)) (b := 2 ^ k + a % 2 ^ k) (i := k + 1) (by omega) j
    rw [this, Nat.mul_one]
  have e2 : a.testBit j = if j < k + 1 then (a % 2 ^ k).testBit j else (a / 2 ^ (k + 1)).testBit (j - (k + 1)) := by
    conv => lhs; rw [ha]
    exact Nat.testBit_two_pow_mul_add (a / 2 ^ (k + 1)) (b := a % 2 ^ k) (i := k + 1) (by omega) j
  rw [e1, e2]
  by_cases hj : j < k + 1
  · rw [if_pos hj, if_pos hj, Nat.testBit_two_pow_mul_add 1 hlt]
    by_cases hk : j < k
    · rw [if_pos hk]; simp [show ¬ k = j by omega]
    · have : j = k := by omega
      subst this
      have h3 : (a % 2 ^ j).testBit j = false := Nat.testBit_lt_two_pow hlt
      simp [h3]
  · rw [if_neg hj, if_neg hj]; simp [show ¬ k = j by omega]
theorem flip_add {st k : Nat} (h : st.testBit k = false) : flip st k = st + 2 ^ k := by
  rw [add_two_pow h, flip, Nat.one_shiftLeft]
theorem flip_flip (st k : Nat) : flip (flip st k) k = st := by
  apply Nat.eq_of_testBit_eq; intro j
  rw [flip_test, flip_test]; cases st.testBit j <;> cases decide (k = j) <;> rfl
theorem flip_sub {st k : Nat} (h : st.testBit k = true) : flip st k = st - 2 ^ k ∧ 2 ^ k ≤ st := by
  have h1 : (flip st k).testBit k = false := by rw [flip_test, h]; simp
  have h2 := flip_add h1
  rw [flip_flip] at h2
  omega
theorem getD_of_mem {α : Type} (d : α) {xs : List α} {x : α} (h : x ∈ xs) : ∃ i, i < xs.length ∧ xs.getD i d = x := by
  obtain ⟨i, hi⟩ := List.mem_iff_getElem?.1 h
  obtain ⟨h1, h2⟩ := List.getElem?_eq_some_iff.1 hi
  exact ⟨i, h1, by simp [h1, h2]⟩
theorem Circ.long_g (c : Circ) {g : Gate} (h : g ∈ c.gates) (h4 : 4 < g.ins.length) : c.long = true := by
  have : c.gates.any (fun g => decide (4 < g.ins.length)) = true := List.any_eq_true.2 ⟨g, h, by simpa using h4⟩
  simp [Circ.long, this]
theorem Circ.wrong_g (c : Circ) {g : Gate} (h : g ∈ c.gates) (hs : sigs g.kind g.ins.length = false) : c.wrong = true := by
  have : c.gates.any (fun g => !sigs g.kind g.ins.length) = true := List.any_eq_true.2 ⟨g, h, by simp [hs]⟩
  simp [Circ.wrong, this]
/-- all signals that are named -/
def Circ.sigTo (c : Circ) (k : Nat) : List Int := c.outs ++ (c.gates.take k).flatMap (·.ins)
def Circ.allsig (c : Circ) : List Int := c.outs ++ c.gates.flatMap (·.ins)
theorem Circ.sigTo_all (c : Circ) : c.sigTo c.gates.length = c.allsig := by simp [Circ.sigTo, Circ.allsig]
theorem Circ.sigTo_succ (c : Circ) {k : Nat} (h : k < c.gates.length) : c.sigTo (k + 1) = c.sigTo k ++ (c.gates.getD k default).ins := by
  unfold Circ.sigTo
  rw [List.take_succ_eq_append_getElem h, List.flatMap_append, List.append_assoc]
  simp [h]
theorem Circ.in4 (c : Circ) (h : c.long = false) (g : Gate) (hg : g ∈ c.gates) : g.ins.length ≤ 4 := by
  simp only [Circ.long, Bool.or_eq_false_iff, List.any_eq_false] at h
  have := h.2 g hg; simpa using this
theorem flat4 (f : Gate → List Int) : ∀ (gs : List Gate), (∀ g ∈ gs, (f g).length ≤ 4) → (gs.flatMap f).length ≤ 4 * gs.length
  | [], _ => by simp
  | g :: gs, h => by
    have h1 := h g (by simp)
    have h2 := flat4 f gs (fun g hg => h g (by simp [hg]))
    simp [List.flatMap_cons] at *; omega
theorem Circ.allsig_len (c : Circ) (h : c.long = false) : c.allsig.length ≤ 64 := by
  have h4 := flat4 (·.ins) c.gates (c.in4 h)
  simp only [Circ.long, Bool.or_eq_false_iff, decide_eq_false_iff_not] at h
  unfold Circ.allsig
  rw [List.length_append]; omega
theorem Circ.sigTo_le (c : Circ) (k : Nat) : (c.sigTo k).length ≤ c.allsig.length := by
  have : (c.gates.take k).flatMap (·.ins) ++ (c.gates.drop k).flatMap (·.ins) = c.gates.flatMap (·.ins) := by
    rw [← List.flatMap_append, List.take_append_drop]
  unfold Circ.sigTo Circ.allsig
  rw [← this]; simp
theorem Circ.out_of (c : Circ) {n : Int} (h : n ∈ c.allsig) (hb : c.bad n = true) : c.out = true := by
  unfold Circ.out
  simp only [Bool.or_eq_true, List.any_eq_true]
  rcases List.mem_append.1 h with h | h
  · exact .inl ⟨n, h, hb⟩
  · obtain ⟨g, hg, hn⟩ := List.mem_flatMap.1 h
    exact .inr ⟨g, hg, n, hn, hb⟩
theorem Circ.out_none (c : Circ) (h : ∀ n ∈ c.allsig, c.bad n = false) : c.out = false := by
  unfold Circ.out
  simp only [Bool.or_eq_false_iff, List.any_eq_false]
  exact ⟨fun n hn => by rw [h n (List.mem_append_left _ hn)]; simp, fun g hg => by
    simp only [List.any_eq_true, not_exists, not_and]
    intro n hn
    rw [h n (List.mem_append_right _ (List.mem_flatMap.2 ⟨g, hg, hn⟩))]; simp⟩
theorem all_take_succ {f : Int → Bool} (ns : List Int) {j : Nat} (h : j < ns.length) : (ns.take (j + 1)).all f = ((ns.take j).all f && f (ns.getD j 0)) := by
  rw [List.take_succ_eq_append_getElem h, List.all_append]; simp [h]
theorem any_take_succ {f : Int → Bool} (ns : List Int) {j : Nat} (h : j < ns.length) : (ns.take (j + 1)).any f = ((ns.take j).any f || f (ns.getD j 0)) := by
  rw [List.take_succ_eq_append_getElem h, List.any_append]; simp [h]
theorem valueG_not1 {all st k : Nat} {g : Gate} (h : g.kind = 3) : valueG all st k g = !sigA all (g.ins.getD 0 0) := by simp only [valueG, h]; rfl
theorem valueG_xor1 {all st k : Nat} {g : Gate} (h : g.kind = 6) : valueG all st k g = (sigA all (g.ins.getD 0 0) != sigA all (g.ins.getD 1 0)) := by simp only [valueG, h]; rfl
theorem filter_range_le (f : Nat → Bool) (k : Nat) : ((List.range k).filter f).length ≤ k := by
  have := List.length_filter_le f (List.range k); simpa using this
theorem filter_range_t (f : Nat → Bool) {k : Nat} (h : f k = true) : (List.range (k + 1)).filter f = (List.range k).filter f ++ [k] := by
  rw [List.range_succ, List.filter_append]; simp [h]
theorem filter_range_f (f : Nat → Bool) {k : Nat} (h : f k = false) : (List.range (k + 1)).filter f = (List.range k).filter f := by
  rw [List.range_succ, List.filter_append]; simp [h]
theorem pow_le_of {k : Nat} {st : Int} (h : ((1 <<< k : Nat) : Int) ≤ st) : 2 ^ k ≤ st.toNat := by
  rw [Nat.one_shiftLeft] at h; omega
theorem not_pow_le {k : Nat} {st : Int} (h : ¬ ((1 <<< k : Nat) : Int) ≤ st) : ¬ 2 ^ k ≤ st.toNat := by
  rw [Nat.one_shiftLeft] at h
  have := Nat.two_pow_pos k
  omega
theorem or_pow {m k : Nat} (h : m < 2 ^ k) : m ||| 1 <<< k = m + 1 <<< k := by
  have h2 := Nat.two_pow_add_eq_or_of_lt h 1
  rw [Nat.mul_one] at h2
  rw [Nat.one_shiftLeft, Nat.or_comm, ← h2, Nat.add_comm]
theorem list_ext_getD {xs ys : List Int} (h : xs.length = ys.length) (he : ∀ i, i < xs.length → xs.getD i 0 = ys.getD i 0) : xs = ys := by
  apply List.ext_getElem h
  intro i h1 h2
  have := he i h1
  simpa [h1, h2] using this
end Ry
end Go.Proofs.Yteocjpnckciboaa

set_option autoImplicit false
set_option linter.unusedVariables false
namespace Go.Proofs.Yteocjpnckciboaa
open Go.Gv
open Go.RowKit
namespace Ry
/-! the graph of the states that are reached -/
structure Nd where
  state : Nat
  frm : Int
  gate : Nat
  deriving Inhabited
def Nd.cells (c : Circ) (inn : Nat) (x : Nd) : List Value := [natV x.state, natV (nextM c x.state inn), .int .i64 x.frm, natV x.gate]
def plc : List Nd → Nat → List (Int × Int)
  | [], _ => []
  | x :: l, i => ((x.state : Int), (i : Int)) :: plc l (i + 1)
theorem plc_append (ns : List Nd) (x : Nd) (i : Nat) : plc (ns ++ [x]) i = plc ns i ++ [((x.state : Int), ((i + ns.length : Nat) : Int))] := by
  induction ns generalizing i with
  | nil => simp [plc]
  | cons y ns ih => simp [plc, ih]; omega
def hasS (ns : List Nd) (s : Nat) : Bool := ns.any fun x => x.state == s
theorem lk_isSome (ns : List Nd) (s i : Nat) : (lk (s : Int) (plc ns i)).isSome = hasS ns s := by
  induction ns generalizing i with
  | nil => rfl
  | cons y ns ih =>
    by_cases h : s = y.state
    · subst h; simp [plc, lk, hasS]
    · have h1 : ¬ (s : Int) = (y.state : Int) := by omega
      have h2 : ¬ y.state = s := fun e => h e.symm
      simp [plc, lk, h1, ih, hasS, h2]
theorem lk_none {ns : List Nd} {s i : Nat} (h : hasS ns s = false) : lk (s : Int) (plc ns i) = none := by
  have := lk_isSome ns s i
  rw [h] at this
  simpa using this
def addN (ns : List Nd) (s : Nat) (f : Int) (g : Nat) : List Nd := if hasS ns s then ns else ns ++ [⟨s, f, g⟩]
theorem addN_t {ns : List Nd} {s : Nat} {f : Int} {g : Nat} (h : hasS ns s = true) : addN ns s f g = ns := by simp [addN, h]
theorem addN_f {ns : List Nd} {s : Nat} {f : Int} {g : Nat} (h : hasS ns s = false) : addN ns s f g = ns ++ [⟨s, f, g⟩] := by simp [addN, h]
theorem BoardIn.atS {c : Circ} {pb pc : Addr} {inn : Nat} {wb w0 w : World} {S : List Nat} {lw l : List HL} (h : BoardIn c pb pc inn wb) (hwb : Own wb [] w0 lw) (hS : ∀ b ∈ S, wb.heap.size ≤ b) (ho : Own w0 S w l) : BoardIn c pb pc inn w := by
  have hold : ∀ b, b < wb.heap.size → w.heap[b]? = wb.heap[b]? := fun b hb =>
    (ho.old b (Nat.lt_of_lt_of_le hb hwb.size) (fun hm => absurd (hS b hm) (by omega))).trans (hwb.old b hb (by simp))
  have hown : Own wb [] w [] := ⟨ho.os.trans hwb.os, ho.tape.trans hwb.tape, ho.output.trans hwb.output, Nat.le_trans hwb.size ho.size, fun b hb _ => hold b hb, by simp, by simp, by simp⟩
  exact h.at hown
theorem placeS {w0 w : World} {l : List HL} (ho : Own w0 [] w l) (ic : List Nat) : ∀ b ∈ (pick ic l).filterMap HL.block, w0.heap.size ≤ b := by
  intro b hb
  obtain ⟨x, hx, hxb⟩ := List.mem_filterMap.1 hb
  rcases ho.place x (pick_mem hx) b hxb with h | h
  · simp at h
  · exact h
/-! Reverse -/
def revAt (xs : List Nat) (i : Nat) (ys : List Nat) : Prop := ys.length = xs.length ∧ ∀ k, k < xs.length → ys.getD k 0 = if k < i ∨ xs.length ≤ k + i then xs.getD (xs.length - 1 - k) 0 else xs.getD k 0
theorem revAt_0 (xs : List Nat) : revAt xs 0 xs := ⟨rfl, fun k hk => by rw [if_neg (by omega)]⟩
theorem getD_set (l : List Nat) (i k a : Nat) (h : i < l.length) : (l.set i a).getD k 0 = if i = k then a else l.getD k 0 := by
  simp only [List.getD_eq_getElem?_getD, List.getElem?_set, h]
  split <;> simp
theorem revAt_succ {xs ys : List Nat} {i : Nat} (h : revAt xs i ys) {j : Nat} (hij : i < j) (hj : (xs.length : Int) - 1 - i = j) : revAt xs (i + 1) ((ys.set i (ys.getD j 0)).set j (ys.getD i 0)) := by
  obtain ⟨h1, h2⟩ := h
  refine ⟨by simp [h1], fun k hk => ?_⟩
  have hjl : j < xs.length := by omega
  rw [getD_set _ _ _ _ (by rw [List.length_set, h1]; exact hjl), getD_set _ _ _ _ (by rw [h1]; omega)]
  by_cases h3 : j = k
  · subst h3
    rw [if_pos rfl, if_pos (by omega), h2 i (by omega), if_neg (by omega)]
    congr 1; omega
  · rw [if_neg h3]
    by_cases h4 : i = k
    · subst h4
      rw [if_pos rfl, if_pos (by omega), h2 j hjl, if_neg (by omega)]
      congr 1; omega
    · rw [if_neg h4, h2 k hk]
      by_cases h5 : k < i ∨ xs.length ≤ k + i
      · rw [if_pos h5, if_pos (by omega)]
      · rw [if_neg h5, if_neg (by omega)]
theorem revAt_end {xs ys : List Nat} {i : Nat} (h : revAt xs i ys) (hi : xs.length ≤ 2 * i + 1) : ys = xs.reverse := by
  obtain ⟨h1, h2⟩ := h
  apply List.ext_getElem (by simp [h1])
  intro k h3 h4
  have h5 := h2 k (by omega)
  have h6 : ys.getD k 0 = ys[k] := by simp [h3]
  rw [List.getElem_reverse, ← h6, h5]
  split
  · rw [List.getD_eq_getElem?_getD, List.getElem?_eq_getElem (by omega)]; rfl
  · have : xs.length - 1 - k = k := by omega
    simp only [this]
    rw [List.getD_eq_getElem?_getD, List.getElem?_eq_getElem (by omega)]; rfl
/-! the graph in memory -/
structure GraphIn (c : Circ) (inn : Nat) (ns : List Nd) (pg : Addr) (a : Option Addr) (cp m : Nat) (w : World) : Prop where
  g : Cells w pg [.slice a ns.length cp, .map (some m)]
  row : OldSl w [] a ns.length 4 (ns.flatMap (Nd.cells c inn))
  m : w.heap[m]? = some (mapObj (plc ns 0))
theorem GraphIn.at {c : Circ} {inn : Nat} {ns : List Nd} {pg : Addr} {a : Option Addr} {cp m : Nat} {w0 w : World} {l : List HL} (h : GraphIn c inn ns pg a cp m w0) (ho : Own w0 [] w l) : GraphIn c inn ns pg a cp m w :=
  ⟨h.g.at ho, h.row.at ho, (ho.old m (lt_size h.m) (by simp)).trans h.m⟩
theorem GraphIn.mk' {c : Circ} {inn : Nat} {ns : List Nd} {G m cp : Nat} {r : Option Nat} {t : TypeId} {w0 w : World} {S : List Nat} {l : List HL} (ho : Own w0 S w l) (i j k : Nat) (hi : l[i]? = some (.blk G [.slice (rowA r) ns.length cp, .map (some m)] t)) (hj : l[j]? = some (.row 72 4 r ns.length cp (ns.flatMap (Nd.cells c inn)))) (hk : l[k]? = some (.obj m (mapObj (plc ns 0)))) :
    GraphIn c inn ns ⟨G, 0, none⟩ (rowA r) cp m w :=
  ⟨ho.blkCells i hi, ho.rowSl j hj, ho.holds _ (List.mem_of_getElem? hk)⟩
/-- each node's origin comes before it -/
def Wf (ns : List Nd) : Prop := ∀ (i : Nat) (x : Nd), ns[i]? = some x → x.frm < i
def wayR (ns : List Nd) : Nat → Nat → List Nat
  | 0, _ => []
  | f + 1, i => match ns[i]? with
    | some x => if x.frm < 0 then [] else x.gate :: wayR ns f x.frm.toNat
    | none => []
def wayP (ns : List Nd) (i : Nat) : List Nat := (wayR ns (i + 1) i).reverse
theorem wayR_more {ns : List Nd} (hw : Wf ns) (y : Nat) : ∀ d, wayR ns (y + 1 + d) y = wayR ns (y + 1) y := by
  induction y using Nat.strongRecOn with
  | _ y ih =>
    intro d
    rw [show y + 1 + d = (y + d) + 1 by omega]
    simp only [wayR]
    cases hx : ns[y]? with
    | none => rfl
    | some x =>
      simp only
      split
      · rfl
      · rename_i hn
        have h1 := hw y x hx
        have h2 : x.frm.toNat < y := by omega
        have e1 := ih x.frm.toNat h2 (y + d - x.frm.toNat - 1)
        have e2 := ih x.frm.toNat h2 (y - x.frm.toNat - 1)
        rw [show x.frm.toNat + 1 + (y + d - x.frm.toNat - 1) = y + d by omega] at e1
        rw [show x.frm.toNat + 1 + (y - x.frm.toNat - 1) = y by omega] at e2
        rw [e1, e2]
theorem wayR_fuel {ns : List Nd} (hw : Wf ns) (f i : Nat) (h : i < f) : wayR ns f i = wayR ns (i + 1) i := by
  have := wayR_more hw i (f - i - 1)
  rwa [show i + 1 + (f - i - 1) = f by omega] at this
theorem wayR_end {ns : List Nd} {i : Nat} {x : Nd} (hx : ns[i]? = some x) (h : x.frm < 0) : wayR ns (i + 1) i = [] := by simp [wayR, hx, h]
theorem wayR_step {ns : List Nd} (hw : Wf ns) {i f : Nat} {x : Nd} (hx : ns[i]? = some x) (h : x.frm = (f : Nat)) : wayR ns (i + 1) i = x.gate :: wayR ns (f + 1) f := by
  have h1 := hw i x hx
  have h2 : ¬ x.frm < 0 := by omega
  rw [wayR, hx]
  simp only []
  rw [if_neg h2, h, Int.toNat_natCast, wayR_fuel hw i f (by omega)]
/-! reach -/
def begsP (begin : List Nat) : List Nd := begin.foldl (fun ns s => addN ns s (-1) 0) []
def expandP (i : Nat) (x : Nd) (ks : List Nat) (ns : List Nd) : List Nd := ks.foldl (fun ns k => addN ns (flip x.state k) (i : Int) k) ns
def reachGo (c : Circ) (inn : Nat) : Nat → Nat → List Nd → Option (List Nd)
  | 0, _, _ => none
  | f + 1, i, ns => match ns[i]? with
    | none => if ns.length ≤ 1000 then some ns else none
    | some x => if 1000 < ns.length then none else reachGo c inn f (i + 1) (expandP i x (nextL c x.state inn) ns)
def reachP (c : Circ) (inn : Nat) (begin : List Nat) : Option (List Nd) := reachGo c inn 1002 0 (begsP begin)
theorem addN_len (ns : List Nd) (s : Nat) (f : Int) (g : Nat) : (addN ns s f g).length ≤ ns.length + 1 ∧ ns.length ≤ (addN ns s f g).length := by
  unfold addN; split <;> simp
theorem addN_all {ns : List Nd} {s : Nat} {f : Int} {g n : Nat} (h : ∀ x ∈ ns, x.state < n) (hs : s < n) : ∀ x ∈ addN ns s f g, x.state < n := by
  unfold addN
  split
  · exact h
  · intro x hx
    rcases List.mem_append.1 hx with hx | hx
    · exact h x hx
    · simp at hx; subst hx; exact hs
theorem begsP_succ {begin : List Nat} {j : Nat} (h : j < begin.length) : begsP (begin.take (j + 1)) = addN (begsP (begin.take j)) (begin.getD j 0) (-1) 0 := by
  unfold begsP
  rw [List.take_succ_eq_append_getElem h, List.foldl_append]
  simp [h]
theorem expandP_succ {i : Nat} {x : Nd} {ks : List Nat} {ns : List Nd} {j : Nat} (h : j < ks.length) : expandP i x (ks.take (j + 1)) ns = addN (expandP i x (ks.take j) ns) (flip x.state (ks.getD j 0)) (i : Int) (ks.getD j 0) := by
  unfold expandP
  rw [List.take_succ_eq_append_getElem h, List.foldl_append]
  simp [h]
section
variable {c : Circ} {inn : Nat}
theorem reachGo_end {f i : Nat} {ns : List Nd} (h : ns.length ≤ i) : reachGo c inn (f + 1) i ns = if ns.length ≤ 1000 then some ns else none := by
  simp [reachGo, h]
theorem reachGo_big {f i : Nat} {ns : List Nd} (h : i < ns.length) (hb : 1000 < ns.length) : reachGo c inn (f + 1) i ns = none := by
  simp [reachGo, h, hb]
theorem reachGo_step {f i : Nat} {ns : List Nd} {x : Nd} (hx : ns[i]? = some x) (hb : ns.length ≤ 1000) : reachGo c inn (f + 1) i ns = reachGo c inn f (i + 1) (expandP i x (nextL c x.state inn) ns) := by
  rw [reachGo, hx]
  simp only []
  rw [if_neg (by omega)]
theorem nextM_lt {c : Circ} (h : c.Good) {st inn : Nat} : nextM c st inn < 4096 := by
  have h12 := h.g12
  refine Nat.lt_pow_two_of_testBit (n := 12) _ fun i hi => ?_
  unfold nextM
  rw [maskTo_test]
  simp; omega
theorem nextL_len (c : Circ) (st inn : Nat) : (nextL c st inn).length ≤ c.gates.length := filter_range_le _ _
theorem nextL_lt {c : Circ} {st inn k : Nat} (h : k ∈ nextL c st inn) : k < c.gates.length := by
  unfold nextL at h
  exact List.mem_range.1 (List.mem_filter.1 h).1
end
end Ry
end Go.Proofs.Yteocjpnckciboaa

set_option autoImplicit false
set_option linter.unusedVariables false
namespace Go.Proofs.Yteocjpnckciboaa
open Go.Gv
open Go.RowKit
namespace Ry
def Nd.val (c : Circ) (inn : Nat) (x : Nd) : Value := .agg #[natV x.state, natV (nextM c x.state inn), .int .i64 x.frm, natV x.gate]
/-- what is known of the states that are reached -/
structure Gr (c : Circ) (inn : Nat) (ns : List Nd) : Prop where
  wf : Wf ns
  st : ∀ x ∈ ns, x.state < 2 ^ c.gates.length
  len : ns.length ≤ 1000
  back : ∀ x ∈ ns, ∃ ms, reachP c inn [x.state] = some ms ∧ Wf ms ∧ (∀ y ∈ ms, y.state < 2 ^ c.gates.length) ∧ ms.length ≤ 1000
def pl (ns : List Nd) (s : Nat) : Nat := ((lk (s : Int) (plc ns 0)).getD 0).toNat
theorem lk_lt (ns : List Nd) (s i : Nat) : ∀ v, lk (s : Int) (plc ns i) = some v → ∃ j : Nat, v = j ∧ i ≤ j ∧ j < i + ns.length := by
  induction ns generalizing i with
  | nil => intro v h; simp [plc, lk] at h
  | cons y ns ih =>
    intro v h
    simp only [plc, lk] at h
    split at h
    · simp at h; exact ⟨i, h.symm, Nat.le_refl _, by simp⟩
    · obtain ⟨j, h1, h2, h3⟩ := ih (i + 1) v h
      exact ⟨j, h1, by omega, by simp; omega⟩
theorem pl_lt (ns : List Nd) (s : Nat) (h : 0 < ns.length) : pl ns s < ns.length ∧ (lk (s : Int) (plc ns 0)).getD 0 = (pl ns s : Nat) := by
  unfold pl
  cases hl : lk (s : Int) (plc ns 0) with
  | none => simp [h]
  | some v =>
    obtain ⟨j, h1, h2, h3⟩ := lk_lt ns s 0 v hl
    subst h1
    simp; omega
def succs (c : Circ) (inn : Nat) (ns : List Nd) (x : Nd) : List Nat := (nextL c x.state inn).map fun k => pl ns (flip x.state k)
def bump (d : Int) (to : List Int) (p : Nat) : List Int := to.set p (to.getD p 0 + d)
def toC (c : Circ) (inn : Nat) (ns : List Nd) : List Int := (ns.flatMap (succs c inn ns)).foldl (bump 1) (List.replicate ns.length 0)
def zeroAt (to : List Int) (i : Nat) : Bool := to.getD i 0 == 0
def freeI (to : List Int) : List Nat := (List.range to.length).filter (zeroAt to)
def drainN (r : List Int × List Nat) (p : Nat) : List Int × List Nat := (bump (-1) r.1 p, if (bump (-1) r.1 p).getD p 0 = 0 then r.2 ++ [p] else r.2)
def drainGo (c : Circ) (inn : Nat) (ns : List Nd) : Nat → Nat → List Int → List Nat → List Nat
  | 0, _, _, free => free
  | f + 1, i, to, free => match free[i]? with
    | none => free
    | some a => match (succs c inn ns (ns.getD a default)).foldl drainN (to, free) with
      | (to2, free2) => drainGo c inn ns f (i + 1) to2 free2
def endsP (c : Circ) (inn : Nat) (ns : List Nd) : Bool := (drainGo c inn ns (ns.length + 1) 0 (toC c inn ns) (freeI (toC c inn ns))).length == ns.length
def backAt (c : Circ) (inn s : Nat) (ms : List Nd) : Nat → List Nd → List Nat
  | _, [] => []
  | i, x :: r => match (nextL c x.state inn).find? (fun k => flip x.state k == s) with
    | some k => wayP ms i ++ [k]
    | none => backAt c inn s ms (i + 1) r
def backP (c : Circ) (inn s : Nat) : List Nat := match reachP c inn [s] with
  | some ms => backAt c inn s ms 0 ms
  | none => []
def restAt (c : Circ) (inn : Nat) (ns : List Nd) (i : Nat) : Bool := match ns[i]? with
  | some x => nextM c x.state inn == 0
  | none => false
def rests (c : Circ) (inn : Nat) (ns : List Nd) : List Nat := (List.range ns.length).filter (restAt c inn ns)
structure Rc where
  kind : Nat
  a : List Nat
  b : List Nat
def loopFrom (c : Circ) (inn : Nat) (ns : List Nd) : Nat → List Nd → Rc
  | _, [] => ⟨0, [], []⟩
  | i, x :: r => match backP c inn x.state with
    | [] => loopFrom c inn ns (i + 1) r
    | k :: l => ⟨2, wayP ns i, k :: l⟩
def raceP (c : Circ) (inn : Nat) (ns : List Nd) : Rc :=
  if 1 < (rests c inn ns).length then ⟨1, wayP ns ((rests c inn ns).getD 0 0), wayP ns ((rests c inn ns).getD 1 0)⟩
  else if endsP c inn ns then ⟨0, [], []⟩ else loopFrom c inn ns 0 ns
def isRest (c : Circ) (inn : Nat) (x : Nd) : Bool := nextM c x.state inn == 0
def settledP (c : Circ) (inn : Nat) (ns : List Nd) : Nat := match ns.find? (isRest c inn) with
  | some x => x.state
  | none => 0
def afterP (c : Circ) (inn : Nat) (ns : List Nd) (k : Nat) : List Nat := (ns.filter fun x => (nextM c x.state inn).testBit k).map fun x => flip x.state k
def glitchAt (c : Circ) (inn : Nat) (ns : List Nd) (k : Nat) : Bool := match reachP c inn (afterP c inn ns k) with
  | some ms => ms.any fun x => (nextM c x.state inn).testBit k
  | none => false
def glitchesP (c : Circ) (inn : Nat) (ns : List Nd) : List Nat := (List.range c.gates.length).filter (glitchAt c inn ns)
theorem test_dec (m k : Nat) : decide ((((m >>> k) &&& 1 : Nat) : Int) = 1) = m.testBit k := by
  rw [and1]
  cases h : m.testBit k <;> simp
theorem settled_at {c : Circ} {inn : Nat} {ns : List Nd} (h : ∃ x ∈ ns, isRest c inn x = true) : ∃ (k : Nat) (x : Nd), k < ns.length ∧ ns[k]? = some x ∧ idx (isRest c inn) ns 0 = (k : Int) ∧ settledP c inn ns = x.state := by
  unfold settledP
  obtain ⟨x, hx, hr⟩ := h
  have gen : ∀ (l : List Nd) (i : Nat), (∃ x ∈ l, isRest c inn x = true) → ∃ (k : Nat) (x : Nd), k < l.length ∧ l[k]? = some x ∧ idx (isRest c inn) l i = ((i + k : Nat) : Int) ∧ l.find? (isRest c inn) = some x := by
    intro l
    induction l with
    | nil => intro i h; obtain ⟨x, hx, _⟩ := h; cases hx
    | cons y l ih =>
      intro i h
      by_cases hy : isRest c inn y = true
      · exact ⟨0, y, by simp, rfl, by simp [idx, hy], by simp [List.find?, hy]⟩
      · obtain ⟨x, hx, hr⟩ := h
        rcases List.mem_cons.1 hx with rfl | hx
        · exact absurd hr hy
        · obtain ⟨k, z, h1, h2, h3, h4⟩ := ih (i + 1) ⟨x, hx, hr⟩
          refine ⟨k + 1, z, by simp; omega, by simpa using h2, ?_, by simp [List.find?, hy, h4]⟩
          simp only [idx, hy]
          simp only [Bool.false_eq_true, if_false]
          rw [h3]; congr 1; omega
  obtain ⟨k, z, h1, h2, h3, h4⟩ := gen ns 0 ⟨x, hx, hr⟩
  exact ⟨k, z, h1, h2, by simpa using h3, by rw [h4]⟩
theorem bump_getD {d : Int} {to : List Int} {p : Nat} (h : p < to.length) (q : Nat) : (bump d to p).getD q 0 = if p = q then to.getD p 0 + d else to.getD q 0 := by
  unfold bump
  simp only [List.getD_eq_getElem?_getD, List.getElem?_set, h]
  split <;> simp
theorem bump_len (d : Int) (to : List Int) (p : Nat) : (bump d to p).length = to.length := by simp [bump]
theorem bump_map (d : Int) (to : List Int) (p : Nat) : (bump d to p).map intV = (to.map intV).set p (intV (to.getD p 0 + d)) := by simp [bump, List.map_set]
structure Bd (n : Nat) (lo hi : Int) (to : List Int) : Prop where
  len : to.length = n
  bd : ∀ p, lo ≤ to.getD p 0 ∧ to.getD p 0 ≤ hi
theorem Bd.up {n : Nat} {hi : Int} {to : List Int} (h : Bd n 0 hi to) {p : Nat} (hp : p < n) : Bd n 0 (hi + 1) (bump 1 to p) := by
  refine ⟨by rw [bump_len, h.len], fun q => ?_⟩
  rw [bump_getD (by rw [h.len]; exact hp)]
  have h1 := h.bd p
  have h2 := h.bd q
  split <;> omega
structure FI (n : Nat) (lo hi : Int) (to : List Int) (free : List Nat) : Prop where
  len : to.length = n
  nd : free.Nodup
  lt : ∀ p ∈ free, p < n ∧ to.getD p 0 ≤ 0
  bd : ∀ p, lo ≤ to.getD p 0 ∧ to.getD p 0 ≤ hi
theorem FI.step {n : Nat} {lo hi : Int} {to : List Int} {free : List Nat} (h : FI n lo hi to free) {p : Nat} (hp : p < n) : FI n (lo - 1) hi (bump (-1) to p) free := by
  have hl : p < to.length := by rw [h.len]; exact hp
  refine ⟨by rw [bump_len, h.len], h.nd, fun q hq => ⟨(h.lt q hq).1, ?_⟩, fun q => ?_⟩
  · rw [bump_getD hl]
    have h1 := (h.lt q hq).2
    split
    · rename_i e; subst e; omega
    · exact h1
  · rw [bump_getD hl]
    have h1 := h.bd p
    have h2 := h.bd q
    split <;> omega
theorem FI.push {n : Nat} {lo hi : Int} {to : List Int} {free : List Nat} (h : FI n lo hi to free) {p : Nat} (hp : p < n) (hz : (bump (-1) to p).getD p 0 = 0) : FI n (lo - 1) hi (bump (-1) to p) (free ++ [p]) := by
  have hl : p < to.length := by rw [h.len]; exact hp
  have h' := h.step hp
  refine ⟨h'.len, ?_, fun q hq => ?_, h'.bd⟩
  · rw [List.nodup_append]
    refine ⟨h.nd, by simp, fun a ha b hb e => ?_⟩
    simp at hb; subst hb; subst e
    have h1 := (h.lt a ha).2
    rw [bump_getD hl, if_pos rfl] at hz
    omega
  · rcases List.mem_append.1 hq with hq | hq
    · exact h'.lt q hq
    · simp at hq; subst hq; exact ⟨hp, by omega⟩
theorem nodup_len : ∀ (n : Nat) (l : List Nat), l.Nodup → (∀ x ∈ l, x < n) → l.length ≤ n
  | 0, l, _, h => by
    cases l with
    | nil => simp
    | cons x l => exact absurd (h x (by simp)) (by omega)
  | n + 1, l, hd, h => by
    have h1 := nodup_len n (l.erase n) (hd.erase n) (fun x hx => by
      have h2 := (List.Nodup.mem_erase_iff hd).1 hx
      have h3 := h x h2.2
      have h4 := h2.1
      omega)
    have h2 := List.length_erase (a := n) (l := l)
    split at h2 <;> omega
theorem FI.flen {n : Nat} {lo hi : Int} {to : List Int} {free : List Nat} (h : FI n lo hi to free) : free.length ≤ n := nodup_len n free h.nd fun x hx => (h.lt x hx).1
theorem FI_init {n : Nat} {hi : Int} {to : List Int} (h : Bd n 0 hi to) : FI n 0 hi to (freeI to) := by
  refine ⟨h.len, List.Pairwise.filter _ List.nodup_range, fun p hp => ?_, h.bd⟩
  unfold freeI at hp
  obtain ⟨h1, h2⟩ := List.mem_filter.1 hp
  rw [h.len] at h1
  unfold zeroAt at h2
  have h3 : to.getD p 0 = 0 := by simpa using h2
  exact ⟨List.mem_range.1 h1, by omega⟩
section
variable {c : Circ} {inn : Nat} {ns : List Nd}
theorem flat_take_succ {i : Nat} {x : Nd} (hx : ns[i]? = some x) (ms : List Nd) : (ns.take (i + 1)).flatMap (succs c inn ms) = (ns.take i).flatMap (succs c inn ms) ++ succs c inn ms x := by
  have h : i < ns.length := (List.getElem?_eq_some_iff.1 hx).1
  have e : ns[i] = x := (List.getElem?_eq_some_iff.1 hx).2
  rw [List.take_succ_eq_append_getElem h, List.flatMap_append, e]; simp
theorem succs_take {x : Nd} {j : Nat} (h : j < (nextL c x.state inn).length) : (succs c inn ns x).take (j + 1) = (succs c inn ns x).take j ++ [pl ns (flip x.state ((nextL c x.state inn).getD j 0))] := by
  unfold succs
  rw [List.take_succ_eq_append_getElem (by simpa using h)]; simp [h]
theorem succs_all {x : Nd} {j : Nat} (h : j = (nextL c x.state inn).length) : (succs c inn ns x).take j = succs c inn ns x := by
  rw [List.take_of_length_le]; unfold succs; simp [h]
theorem drain_f {to : List Int} {free : List Nat} {p : Nat} (h : (bump (-1) to p).getD p 0 ≠ 0) : drainN (to, free) p = (bump (-1) to p, free) := by simp only [drainN]; rw [if_neg h]
theorem drain_t {to : List Int} {free : List Nat} {p : Nat} (h : (bump (-1) to p).getD p 0 = 0) : drainN (to, free) p = (bump (-1) to p, free ++ [p]) := by simp only [drainN]; rw [if_pos h]
theorem drainGo_end {f i : Nat} {to : List Int} {free : List Nat} (h : free.length ≤ i) : drainGo c inn ns (f + 1) i to free = free := by
  simp [drainGo, h]
theorem drainGo_step {f i p : Nat} {to to2 : List Int} {free free2 : List Nat} {x : Nd} (hi : i < free.length) (hp : free.getD i 0 = p) (hx : ns[p]? = some x) (h : (succs c inn ns x).foldl drainN (to, free) = (to2, free2)) : drainGo c inn ns (f + 1) i to free = drainGo c inn ns f (i + 1) to2 free2 := by
  have e : free[i]? = some p := by rw [List.getElem?_eq_getElem hi]; rw [← hp]; simp [hi]
  have e2 : ns.getD p default = x := by simp [List.getD, hx]
  rw [drainGo, e]
  simp only []
  rw [e2, h]
theorem foldl_snoc {α β : Type} (f : β → α → β) (b : β) (l : List α) (a : α) : (l ++ [a]).foldl f b = f (l.foldl f b) a := by simp
end
section
variable {c : Circ} {inn : Nat} {ns : List Nd}
theorem find_at {p : Nat → Bool} : ∀ (ks : List Nat) (j : Nat), j < ks.length → (∀ q, q < j → p (ks.getD q 0) = false) → p (ks.getD j 0) = true → ks.find? p = some (ks.getD j 0)
  | [], j, h, _, _ => by simp at h
  | k :: ks, 0, _, _, h2 => by
    have : p k = true := by simpa using h2
    simp [List.find?, this]
  | k :: ks, j + 1, h, h1, h2 => by
    have h0 : p k = false := by simpa using h1 0 (by omega)
    have := find_at (p := p) ks j (by simpa using h) (fun q hq => by have := h1 (q + 1) (by omega); simpa using this) (by simpa using h2)
    simp only [List.find?, h0]
    simpa using this
theorem find_not {p : Nat → Bool} (ks : List Nat) (h : ∀ q, q < ks.length → p (ks.getD q 0) = false) : ks.find? p = none := by
  rw [List.find?_eq_none]
  intro k hk
  obtain ⟨q, hq, he⟩ := getD_of_mem 0 hk
  rw [← he, h q hq]; simp
theorem backAt_hit {s i k : Nat} {ms r : List Nd} {x : Nd} (h : (nextL c x.state inn).find? (fun k => flip x.state k == s) = some k) : backAt c inn s ms i (x :: r) = wayP ms i ++ [k] := by simp [backAt, h]
theorem backAt_skip {s i : Nat} {ms r : List Nd} {x : Nd} (h : (nextL c x.state inn).find? (fun k => flip x.state k == s) = none) : backAt c inn s ms i (x :: r) = backAt c inn s ms (i + 1) r := by simp [backAt, h]
theorem drop_at {i : Nat} {x : Nd} (hx : ns[i]? = some x) : ns.drop i = x :: ns.drop (i + 1) := by
  have h : i < ns.length := (List.getElem?_eq_some_iff.1 hx).1
  rw [List.drop_eq_getElem_cons h, (List.getElem?_eq_some_iff.1 hx).2]
theorem loopFrom_skip {i : Nat} {x : Nd} {r : List Nd} (h : backP c inn x.state = []) : loopFrom c inn ns i (x :: r) = loopFrom c inn ns (i + 1) r := by simp [loopFrom, h]
theorem loopFrom_hit {i : Nat} {x : Nd} {r : List Nd} (h : backP c inn x.state ≠ []) : loopFrom c inn ns i (x :: r) = ⟨2, wayP ns i, backP c inn x.state⟩ := by
  cases hb : backP c inn x.state with
  | nil => exact absurd hb h
  | cons k l => simp [loopFrom, hb]
theorem restAt_some {i : Nat} {x : Nd} (hx : ns[i]? = some x) : restAt c inn ns i = (nextM c x.state inn == 0) := by simp [restAt, hx]
theorem rests_lt {i : Nat} (h : i < (rests c inn ns).length) : (rests c inn ns).getD i 0 < ns.length := by
  have := mem_getD (d := 0) h
  unfold rests at this
  exact List.mem_range.1 (List.mem_filter.1 this).1
theorem raceP_two (h : 1 < (rests c inn ns).length) : raceP c inn ns = ⟨1, wayP ns ((rests c inn ns).getD 0 0), wayP ns ((rests c inn ns).getD 1 0)⟩ := by unfold raceP; rw [if_pos h]
theorem raceP_ends (h : ¬ 1 < (rests c inn ns).length) (h2 : endsP c inn ns = true) : raceP c inn ns = ⟨0, [], []⟩ := by unfold raceP; rw [if_neg h, if_pos h2]
theorem raceP_loop (h : ¬ 1 < (rests c inn ns).length) (h2 : endsP c inn ns = false) : raceP c inn ns = loopFrom c inn ns 0 ns := by unfold raceP; rw [if_neg h, h2]; rfl
end
theorem wayR_len {ns : List Nd} (hw : Wf ns) : ∀ f i, (wayR ns f i).length ≤ i := by
  intro f
  induction f with
  | zero => intro i; simp [wayR]
  | succ f ih =>
    intro i
    simp only [wayR]
    cases hx : ns[i]? with
    | none => simp
    | some x =>
      simp only
      split
      · simp
      · have h1 := hw i x hx
        have h2 := ih x.frm.toNat
        simp only [List.length_cons]
        omega
theorem wayP_len {ns : List Nd} (hw : Wf ns) (i : Nat) : (wayP ns i).length ≤ i := by
  unfold wayP; rw [List.length_reverse]; exact wayR_len hw _ _
structure Facts (c : Circ) (inn : Nat) : Prop where
  gr : ∀ s ns, s < 2 ^ c.gates.length → reachP c inn [s] = some ns → Gr c inn ns
  rest : ∀ s ns, s < 2 ^ c.gates.length → reachP c inn [s] = some ns → (raceP c inn ns).kind = 0 → ∃ x ∈ ns, isRest c inn x = true
  glit : ∀ s ns k, s < 2 ^ c.gates.length → reachP c inn [s] = some ns → ∃ ms, reachP c inn (afterP c inn ns k) = some ms ∧ ms.length ≤ 1000
def raceR (c : Circ) (st inn : Int) : Rc × Int := if c.ready st inn = 0 then match reachP c inn.toNat [st.toNat] with
  | some ns => (raceP c inn.toNat ns, 0)
  | none => (⟨0, [], []⟩, 5) else (⟨0, [], []⟩, c.ready st inn)
def settleR (c : Circ) (st inn : Int) : Nat × Int := if c.ready st inn = 0 then match reachP c inn.toNat [st.toNat] with
  | some ns => if (raceP c inn.toNat ns).kind ≠ 0 then (0, 9) else (settledP c inn.toNat ns, 0)
  | none => (0, 5) else (0, c.ready st inn)
def glitchesR (c : Circ) (st inn : Int) : List Nat × Int := if c.ready st inn = 0 then match reachP c inn.toNat [st.toNat] with
  | some ns => if (raceP c inn.toNat ns).kind ≠ 0 then ([], 9) else (glitchesP c inn.toNat ns, 0)
  | none => ([], 5) else ([], c.ready st inn)
section
variable {c : Circ} {st inn : Int} {ns : List Nd}
theorem raceR_bad (h : c.ready st inn ≠ 0) : raceR c st inn = (⟨0, [], []⟩, c.ready st inn) := by unfold raceR; rw [if_neg h]
theorem raceR_full (h : c.ready st inn = 0) (hre : reachP c inn.toNat [st.toNat] = none) : raceR c st inn = (⟨0, [], []⟩, 5) := by unfold raceR; rw [if_pos h, hre]
theorem raceR_ok (h : c.ready st inn = 0) (hre : reachP c inn.toNat [st.toNat] = some ns) : raceR c st inn = (raceP c inn.toNat ns, 0) := by unfold raceR; rw [if_pos h, hre]
theorem settleR_bad (h : c.ready st inn ≠ 0) : settleR c st inn = (0, c.ready st inn) := by unfold settleR; rw [if_neg h]
theorem settleR_full (h : c.ready st inn = 0) (hre : reachP c inn.toNat [st.toNat] = none) : settleR c st inn = (0, 5) := by unfold settleR; rw [if_pos h, hre]
theorem settleR_race (h : c.ready st inn = 0) (hre : reachP c inn.toNat [st.toNat] = some ns) (hk : (raceP c inn.toNat ns).kind ≠ 0) : settleR c st inn = (0, 9) := by unfold settleR; rw [if_pos h, hre]; simp only []; rw [if_pos hk]
theorem settleR_ok (h : c.ready st inn = 0) (hre : reachP c inn.toNat [st.toNat] = some ns) (hk : (raceP c inn.toNat ns).kind = 0) : settleR c st inn = (settledP c inn.toNat ns, 0) := by unfold settleR; rw [if_pos h, hre]; simp only []; rw [if_neg (by simpa using hk)]
theorem glitchesR_bad (h : c.ready st inn ≠ 0) : glitchesR c st inn = ([], c.ready st inn) := by unfold glitchesR; rw [if_neg h]
theorem glitchesR_full (h : c.ready st inn = 0) (hre : reachP c inn.toNat [st.toNat] = none) : glitchesR c st inn = ([], 5) := by unfold glitchesR; rw [if_pos h, hre]
theorem glitchesR_race (h : c.ready st inn = 0) (hre : reachP c inn.toNat [st.toNat] = some ns) (hk : (raceP c inn.toNat ns).kind ≠ 0) : glitchesR c st inn = ([], 9) := by unfold glitchesR; rw [if_pos h, hre]; simp only []; rw [if_pos hk]
theorem glitchesR_ok (h : c.ready st inn = 0) (hre : reachP c inn.toNat [st.toNat] = some ns) (hk : (raceP c inn.toNat ns).kind = 0) : glitchesR c st inn = (glitchesP c inn.toNat ns, 0) := by unfold glitchesR; rw [if_pos h, hre]; simp only []; rw [if_neg (by simpa using hk)]
end
section
variable {c : Circ} {inn : Nat} {ns : List Nd}
theorem afterP_t {i k : Nat} {x : Nd} (hx : ns[i]? = some x) (h : (nextM c x.state inn).testBit k = true) : afterP c inn (ns.take (i + 1)) k = afterP c inn (ns.take i) k ++ [flip x.state k] := by
  have hl : i < ns.length := (List.getElem?_eq_some_iff.1 hx).1
  have e : ns[i] = x := (List.getElem?_eq_some_iff.1 hx).2
  unfold afterP
  rw [List.take_succ_eq_append_getElem hl, List.filter_append, List.map_append, e]; simp [h]
theorem afterP_f {i k : Nat} {x : Nd} (hx : ns[i]? = some x) (h : (nextM c x.state inn).testBit k = false) : afterP c inn (ns.take (i + 1)) k = afterP c inn (ns.take i) k := by
  have hl : i < ns.length := (List.getElem?_eq_some_iff.1 hx).1
  have e : ns[i] = x := (List.getElem?_eq_some_iff.1 hx).2
  unfold afterP
  rw [List.take_succ_eq_append_getElem hl, List.filter_append, List.map_append, e]; simp [h]
theorem afterP_len (k : Nat) : (afterP c inn ns k).length ≤ ns.length := by unfold afterP; rw [List.length_map]; exact List.length_filter_le _ _
theorem afterP_lt {k n : Nat} (h : ∀ x ∈ ns, x.state < 2 ^ n) (hk : k < n) : ∀ s ∈ afterP c inn ns k, s < 2 ^ n := by
  intro s hs
  unfold afterP at hs
  obtain ⟨x, hx, rfl⟩ := List.mem_map.1 hs
  exact flip_lt (h x (List.mem_filter.1 hx).1) hk
theorem glitchAt_of {k : Nat} {ms : List Nd} (h : reachP c inn (afterP c inn ns k) = some ms) : glitchAt c inn ns k = ms.any fun x => (nextM c x.state inn).testBit k := by unfold glitchAt; rw [h]
end
end Ry
end Go.Proofs.Yteocjpnckciboaa

set_option autoImplicit false
set_option linter.unusedVariables false
namespace Go.Proofs.Yteocjpnckciboaa
open Go.Gv
open Go.RowKit
namespace Ry
abbrev pa (b : Nat) : Option Addr := some ⟨b, 0, none⟩
def latch (b1 b3 b5 b6 : Nat) : Circ := ⟨2, pa b5, 2, [⟨5, pa b1, 2, [1, 3]⟩, ⟨5, pa b3, 2, [0, 2]⟩], pa b6, 2, [2, 3]⟩
def chooser (b1 b3 b5 b7 b9 b10 : Nat) : Circ := ⟨3, pa b9, 4, [⟨3, pa b1, 1, [0]⟩, ⟨1, pa b3, 2, [1, 3]⟩, ⟨1, pa b5, 2, [2, 0]⟩, ⟨2, pa b7, 2, [4, 5]⟩], pa b10, 1, [6]⟩
theorem latch_race (b1 b3 b5 b6 : Nat) : raceR (latch b1 b3 b5 b6) 0 0 = (⟨1, [0], [1]⟩, 0) := by kernel_rfl
theorem latch_settle (b1 b3 b5 b6 : Nat) : settleR (latch b1 b3 b5 b6) 0 2 = (2, 0) := by kernel_rfl
theorem chooser_glitches (b1 b3 b5 b7 b9 b10 : Nat) : glitchesR (chooser b1 b3 b5 b7 b9 b10) 12 6 = ([3], 0) := by kernel_rfl
def latchL (b1 b3 b5 b6 : Nat) : List HL := [.row 3 1 (some b6) 2 2 [intV 2, intV 3], .row 48 2 (some b5) 2 2 [intV 5, .slice (pa b1) 2 2, intV 5, .slice (pa b3) 2 2], .row 3 1 (some b3) 2 2 [intV 0, intV 2], .row 3 1 (some b1) 2 2 [intV 1, intV 3]]
theorem latch_in {b1 b3 b5 b6 : Nat} {w0 w : World} {S : List Nat} {l : List HL} (ho : Own w0 S w l) (idx : List Nat) (hi : idx.Nodup) (hl : pick idx l = latchL b1 b3 b5 b6) : (latch b1 b3 b5 b6).In w [] := by
  have h := ho.pick idx hi
  rw [hl] at h
  refine ⟨h.rowSl 1 rfl, ?_, h.rowSl 0 rfl, by simp [latch], ?_, by simp [latch]⟩
  · intro g hg
    simp only [latch, List.mem_cons, List.not_mem_nil, or_false] at hg
    rcases hg with rfl | rfl
    · exact h.rowSl 3 rfl
    · exact h.rowSl 2 rfl
  · intro g hg
    simp only [latch, List.mem_cons, List.not_mem_nil, or_false] at hg
    rcases hg with rfl | rfl <;> simp
def chooserL (b1 b3 b5 b7 b9 b10 : Nat) : List HL := [.row 3 1 (some b10) 1 1 [intV 6], .row 48 2 (some b9) 4 4 [intV 3, .slice (pa b1) 1 1, intV 1, .slice (pa b3) 2 2, intV 1, .slice (pa b5) 2 2, intV 2, .slice (pa b7) 2 2], .row 3 1 (some b7) 2 2 [intV 4, intV 5], .row 3 1 (some b5) 2 2 [intV 2, intV 0], .row 3 1 (some b3) 2 2 [intV 1, intV 3], .row 3 1 (some b1) 1 1 [intV 0]]
theorem chooser_in {b1 b3 b5 b7 b9 b10 : Nat} {w0 w : World} {S : List Nat} {l : List HL} (ho : Own w0 S w l) (idx : List Nat) (hi : idx.Nodup) (hl : pick idx l = chooserL b1 b3 b5 b7 b9 b10) : (chooser b1 b3 b5 b7 b9 b10).In w [] := by
  have h := ho.pick idx hi
  rw [hl] at h
  refine ⟨h.rowSl 1 rfl, ?_, h.rowSl 0 rfl, by simp [chooser], ?_, by simp [chooser]⟩
  · intro g hg
    simp only [chooser, List.mem_cons, List.not_mem_nil, or_false] at hg
    rcases hg with rfl | rfl | rfl | rfl
    · exact h.rowSl 5 rfl
    · exact h.rowSl 4 rfl
    · exact h.rowSl 3 rfl
    · exact h.rowSl 2 rfl
  · intro g hg
    simp only [chooser, List.mem_cons, List.not_mem_nil, or_false] at hg
    rcases hg with rfl | rfl | rfl | rfl <;> simp
theorem natInt (xs : List Nat) : (xs.map fun n : Nat => (n : Int)).map intV = xs.map natV := by simp [List.map_map]
theorem natInt_eq (xs ys : List Nat) : (xs.map (fun n : Nat => (n : Int)) = ys.map fun n : Nat => (n : Int)) ↔ xs = ys := by
  constructor
  · intro h
    have := congrArg (List.map Int.toNat) h
    simpa [List.map_map, Function.comp_def] using this
  · intro h; rw [h]
def rcEq (x y : Rc) : Bool := decide (x.kind = y.kind) && decide (x.a = y.a) && decide (x.b = y.b)
end Ry
end Go.Proofs.Yteocjpnckciboaa

set_option autoImplicit false
set_option linter.unusedVariables false
namespace Go.Proofs.Yteocjpnckciboaa
open Go.Gv
open Go.RowKit
namespace Ry
section
variable {c : Circ} {inn : Nat}
/-! ## what reach finds -/
theorem hasS_iff {ns : List Nd} {s : Nat} : hasS ns s = true ↔ ∃ x ∈ ns, x.state = s := by
  unfold hasS; simp
theorem hasS_at {ns : List Nd} {s : Nat} (h : hasS ns s = true) : ∃ (i : Nat) (x : Nd), ns[i]? = some x ∧ x.state = s := by
  obtain ⟨x, hx, e⟩ := hasS_iff.1 h
  obtain ⟨i, hi⟩ := List.getElem?_of_mem hx
  exact ⟨i, x, hi, e⟩
theorem mem_nextM (h : c.Good) {st k : Nat} (hb : (nextM c st inn).testBit k = true) : k ∈ nextL c st inn := by
  unfold nextM at hb
  rw [maskTo_test] at hb
  simp only [Bool.and_eq_true, decide_eq_true_eq] at hb
  unfold nextL
  exact List.mem_filter.2 ⟨List.mem_range.2 hb.1, hb.2⟩
theorem mem_nextM' {st k : Nat} (hk : k ∈ nextL c st inn) : (nextM c st inn).testBit k = true := by
  unfold nextL at hk
  obtain ⟨h1, h2⟩ := List.mem_filter.1 hk
  unfold nextM
  rw [maskTo_test]
  simp [List.mem_range.1 h1, h2]
structure Inv0 (c : Circ) (inn : Nat) (B : List Nat) (U : Nat → Prop) (ns : List Nd) : Prop where
  wf : Wf ns
  nd : (ns.map Nd.state).Nodup
  u : ∀ x ∈ ns, U x.state
  ed : ∀ x ∈ ns, (x.frm < 0 ∧ x.state ∈ B) ∨ ∃ y, 0 ≤ x.frm ∧ ns[x.frm.toNat]? = some y ∧ x.gate ∈ nextL c y.state inn ∧ x.state = flip y.state x.gate
/-- longer, with the same at the old places -/
def Ext (ns ms : List Nd) : Prop := ∀ (j : Nat) (y : Nd), ns[j]? = some y → ms[j]? = some y
theorem Ext.refl (ns : List Nd) : Ext ns ns := fun _ _ h => h
theorem Ext.trans {a b d : List Nd} (h : Ext a b) (h2 : Ext b d) : Ext a d := fun j y hy => h2 j y (h j y hy)
theorem Ext.has {ns ms : List Nd} (h : Ext ns ms) {s : Nat} (hs : hasS ns s = true) : hasS ms s = true := by
  obtain ⟨i, x, hi, e⟩ := hasS_at hs
  exact hasS_iff.2 ⟨x, List.mem_of_getElem? (h i x hi), e⟩
theorem Ext.len {ns ms : List Nd} (h : Ext ns ms) : ns.length ≤ ms.length := by
  cases hn : ns.length with
  | zero => omega
  | succ n =>
    have h1 := h n _ (List.getElem?_eq_getElem (show n < ns.length by omega))
    have := (List.getElem?_eq_some_iff.1 h1).1
    omega
theorem addN_ext (ns : List Nd) (s : Nat) (f : Int) (g : Nat) : Ext ns (addN ns s f g) := by
  intro j y hy
  unfold addN
  split
  · exact hy
  · rw [List.getElem?_append_left (List.getElem?_eq_some_iff.1 hy).1]; exact hy
theorem addN_has (ns : List Nd) (s : Nat) (f : Int) (g : Nat) : hasS (addN ns s f g) s = true := by
  cases h : hasS ns s with
  | true => rw [addN_t h]; exact h
  | false => rw [addN_f h]; exact hasS_iff.2 ⟨⟨s, f, g⟩, by simp, rfl⟩
theorem addN_inv {B : List Nat} {U : Nat → Prop} {ns : List Nd} {s : Nat} {f : Int} {g : Nat} (h : Inv0 c inn B U ns) (hu : U s)
    (he : (f < 0 ∧ s ∈ B) ∨ ∃ y, 0 ≤ f ∧ ns[f.toNat]? = some y ∧ g ∈ nextL c y.state inn ∧ s = flip y.state g) : Inv0 c inn B U (addN ns s f g) := by
  cases hh : hasS ns s with
  | true => rw [addN_t hh]; exact h
  | false =>
    rw [addN_f hh]
    have hno : ∀ x ∈ ns, x.state ≠ s := fun x hx e => by
      have := hasS_iff.2 ⟨x, hx, e⟩
      rw [hh] at this; cases this
    refine ⟨?_, ?_, ?_, ?_⟩
    · intro i x hx
      rcases Nat.lt_or_ge i ns.length with hi | hi
      · rw [List.getElem?_append_left hi] at hx; exact h.wf i x hx
      · rw [List.getElem?_append_right hi] at hx
        have : i - ns.length = 0 := by
          rcases Nat.eq_zero_or_pos (i - ns.length) with h0 | h0
          · exact h0
          · rw [List.getElem?_eq_none (by simp only [List.length_singleton]; exact h0)] at hx; cases hx
        rw [this] at hx
        simp at hx
        subst hx
        rcases he with ⟨h1, _⟩ | ⟨y, h1, h2, _⟩
        · simp only; omega
        · have := (List.getElem?_eq_some_iff.1 h2).1
          simp only; omega
    · rw [List.map_append, List.nodup_append]
      refine ⟨h.nd, by simp, ?_⟩
      intro a ha b hb e
      obtain ⟨x, hx, rfl⟩ := List.mem_map.1 ha
      simp at hb
      exact hno x hx (e.trans hb)
    · intro x hx
      rcases List.mem_append.1 hx with hx | hx
      · exact h.u x hx
      · simp at hx; subst hx; exact hu
    · intro x hx
      have hext := addN_ext ns s f g
      rw [addN_f hh] at hext
      rcases List.mem_append.1 hx with hx | hx
      · rcases h.ed x hx with h1 | ⟨y, h1, h2, h3⟩
        · exact .inl h1
        · exact .inr ⟨y, h1, hext _ _ h2, h3⟩
      · simp at hx; subst hx
        rcases he with h1 | ⟨y, h1, h2, h3⟩
        · exact .inl h1
        · exact .inr ⟨y, h1, hext _ _ h2, h3⟩
theorem expandP_inv {B : List Nat} {U : Nat → Prop} {i : Nat} {x : Nd} : ∀ (ks : List Nat) (ns : List Nd), Inv0 c inn B U ns → ns[i]? = some x → (∀ k ∈ ks, k ∈ nextL c x.state inn ∧ U (flip x.state k)) →
    Inv0 c inn B U (expandP i x ks ns) ∧ Ext ns (expandP i x ks ns) ∧ ∀ k ∈ ks, hasS (expandP i x ks ns) (flip x.state k) = true
  | [], ns, h, _, _ => ⟨h, Ext.refl _, by simp⟩
  | k :: ks, ns, h, hx, hk => by
    have h1 := hk k (by simp)
    have ha : Inv0 c inn B U (addN ns (flip x.state k) (i : Int) k) := addN_inv h h1.2 (.inr ⟨x, Int.natCast_nonneg _, by simpa using hx, h1.1, rfl⟩)
    have he := addN_ext ns (flip x.state k) (i : Int) k
    obtain ⟨r1, r2, r3⟩ := expandP_inv ks _ ha (he _ _ hx) fun k' hk' => hk k' (List.mem_cons_of_mem _ hk')
    refine ⟨r1, he.trans r2, fun k' hk' => ?_⟩
    rcases List.mem_cons.1 hk' with rfl | hk'
    · exact r2.has (addN_has _ _ _ _)
    · exact r3 k' hk'
theorem begs_inv {B : List Nat} {U : Nat → Prop} : ∀ (b : List Nat) (ns : List Nd), Inv0 c inn B U ns → (∀ s ∈ b, U s ∧ s ∈ B) →
    Inv0 c inn B U (b.foldl (fun ns s => addN ns s (-1) 0) ns) ∧ Ext ns (b.foldl (fun ns s => addN ns s (-1) 0) ns) ∧ ∀ s ∈ b, hasS (b.foldl (fun ns s => addN ns s (-1) 0) ns) s = true
  | [], ns, h, _ => ⟨h, Ext.refl _, by simp⟩
  | s :: b, ns, h, hb => by
    have h1 := hb s (by simp)
    have ha : Inv0 c inn B U (addN ns s (-1) 0) := addN_inv h h1.1 (.inl ⟨by decide, h1.2⟩)
    have he := addN_ext ns s (-1) 0
    obtain ⟨r1, r2, r3⟩ := begs_inv b _ ha fun s' hs' => hb s' (List.mem_cons_of_mem _ hs')
    refine ⟨r1, he.trans r2, fun s' hs' => ?_⟩
    rcases List.mem_cons.1 hs' with rfl | hs'
    · exact r2.has (addN_has _ _ _ _)
    · exact r3 s' hs'
structure Inv (c : Circ) (inn : Nat) (B : List Nat) (U : Nat → Prop) (i : Nat) (ns : List Nd) : Prop extends Inv0 c inn B U ns where
  cl : ∀ (j : Nat) (y : Nd), j < i → ns[j]? = some y → ∀ k ∈ nextL c y.state inn, hasS ns (flip y.state k) = true
  bg : ∀ s ∈ B, hasS ns s = true
def ClosedU (c : Circ) (inn : Nat) (U : Nat → Prop) : Prop := ∀ s k, U s → k ∈ nextL c s inn → U (flip s k)
theorem begs_Inv {B : List Nat} {U : Nat → Prop} (hB : ∀ s ∈ B, U s) : Inv c inn B U 0 (begsP B) := by
  obtain ⟨h1, _, h3⟩ := begs_inv (c := c) (inn := inn) (B := B) (U := U) B [] ⟨by intro i x h; simp at h, by simp, by simp, by simp⟩ fun s hs => ⟨hB s hs, hs⟩
  exact ⟨h1, by intro j y h; omega, h3⟩
theorem step_Inv {B : List Nat} {U : Nat → Prop} (hU : ClosedU c inn U) {i : Nat} {x : Nd} {ns : List Nd} (h : Inv c inn B U i ns) (hx : ns[i]? = some x) :
    Inv c inn B U (i + 1) (expandP i x (nextL c x.state inn) ns) ∧ Ext ns (expandP i x (nextL c x.state inn) ns) := by
  obtain ⟨r1, r2, r3⟩ := expandP_inv (nextL c x.state inn) ns h.toInv0 hx fun k hk => ⟨hk, hU _ _ (h.u x (List.mem_of_getElem? hx)) hk⟩
  refine ⟨⟨r1, ?_, fun s hs => r2.has (h.bg s hs)⟩, r2⟩
  intro j y hj hy k hk
  rcases Nat.lt_succ_iff_lt_or_eq.1 hj with hj | rfl
  · have hjl : j < ns.length := Nat.lt_trans hj (List.getElem?_eq_some_iff.1 hx).1
    have hy2 := r2 j _ (List.getElem?_eq_getElem hjl)
    rw [hy] at hy2
    cases hy2
    exact r2.has (h.cl j _ hj (List.getElem?_eq_getElem hjl) k hk)
  · have := r2 j x hx
    rw [hy] at this
    cases this
    exact r3 k hk
structure Reached (c : Circ) (inn : Nat) (B : List Nat) (U : Nat → Prop) (ns : List Nd) : Prop extends Inv0 c inn B U ns where
  cl : ∀ y ∈ ns, ∀ k ∈ nextL c y.state inn, hasS ns (flip y.state k) = true
  bg : ∀ s ∈ B, hasS ns s = true
  len : ns.length ≤ 1000
theorem reachGo_spec {B : List Nat} {U : Nat → Prop} (hU : ClosedU c inn U) : ∀ (f i : Nat) (ns ms : List Nd), Inv c inn B U i ns → reachGo c inn f i ns = some ms → Reached c inn B U ms ∧ Ext ns ms
  | 0, _, _, _, _, h => by simp [reachGo] at h
  | f + 1, i, ns, ms, hi, h => by
    rcases Nat.lt_or_ge i ns.length with hl | hl
    · have hx := List.getElem?_eq_getElem hl
      rcases Nat.lt_or_ge 1000 ns.length with hb | hb
      · rw [reachGo_big hl hb] at h; cases h
      · rw [reachGo_step hx hb] at h
        obtain ⟨h1, h2⟩ := step_Inv hU hi hx
        obtain ⟨h3, h4⟩ := reachGo_spec hU f (i + 1) _ ms h1 h
        exact ⟨h3, h2.trans h4⟩
    · rw [reachGo_end hl] at h
      split at h
      · cases h
        refine ⟨⟨hi.toInv0, fun y hy k hk => ?_, hi.bg, by assumption⟩, Ext.refl _⟩
        obtain ⟨j, hj⟩ := List.getElem?_of_mem hy
        exact hi.cl j y (Nat.lt_of_lt_of_le (List.getElem?_eq_some_iff.1 hj).1 hl) hj k hk
      · cases h
theorem reach_spec {B : List Nat} {U : Nat → Prop} (hU : ClosedU c inn U) (hB : ∀ s ∈ B, U s) {ms : List Nd} (h : reachP c inn B = some ms) : Reached c inn B U ms :=
  (reachGo_spec hU _ _ _ ms (begs_Inv hB) h).1
theorem nodup_sub : ∀ (l us : List Nat), l.Nodup → (∀ x ∈ l, x ∈ us) → l.length ≤ us.length
  | [], _, _, _ => by simp
  | a :: t, us, hd, h => by
    have ha : a ∈ us := h a (by simp)
    have hd' := List.nodup_cons.1 hd
    have := nodup_sub t (us.erase a) hd'.2 fun x hx => by
      have hxa : x ≠ a := fun e => hd'.1 (e ▸ hx)
      exact (List.mem_erase_of_ne hxa).2 (h x (List.mem_cons_of_mem _ hx))
    rw [List.length_erase_of_mem ha] at this
    have := List.length_pos_of_mem ha
    simp only [List.length_cons]
    omega
theorem reachGo_total {B us : List Nat} (hus : us.length ≤ 1000) (hU : ClosedU c inn (· ∈ us)) : ∀ (f i : Nat) (ns : List Nd), Inv c inn B (· ∈ us) i ns → i ≤ ns.length → 1002 ≤ i + f → ∃ ms, reachGo c inn f i ns = some ms
  | f, i, ns, hi, hil, hf => by
    have hlen : ns.length ≤ 1000 := by
      have := nodup_sub (ns.map Nd.state) us hi.nd fun s hs => by
        obtain ⟨x, hx, rfl⟩ := List.mem_map.1 hs
        exact hi.u x hx
      rw [List.length_map] at this; omega
    cases f with
    | zero => omega
    | succ f =>
      rcases Nat.lt_or_ge i ns.length with hl | hl
      · have hx := List.getElem?_eq_getElem hl
        obtain ⟨h1, h2⟩ := step_Inv hU hi hx
        rw [reachGo_step hx hlen]
        exact reachGo_total hus hU f (i + 1) _ h1 (Nat.le_trans hl h2.len) (by omega)
      · exact ⟨ns, by rw [reachGo_end hl, if_pos hlen]⟩
theorem reach_total {B us : List Nat} (hus : us.length ≤ 1000) (hU : ClosedU c inn (· ∈ us)) (hB : ∀ s ∈ B, s ∈ us) : ∃ ms, reachP c inn B = some ms :=
  reachGo_total hus hU 1002 0 (begsP B) (begs_Inv hB) (Nat.zero_le _) (Nat.le_refl _)
theorem closed_lt (h : c.Good) : ClosedU c inn (· < 2 ^ c.gates.length) := fun s k hs hk => flip_lt hs (nextL_lt hk)
theorem Reached.closed {B : List Nat} {U : Nat → Prop} {ns : List Nd} (h : Reached c inn B U ns) : ClosedU c inn (· ∈ ns.map Nd.state) := by
  intro s k hs hk
  obtain ⟨x, hx, rfl⟩ := List.mem_map.1 hs
  obtain ⟨y, hy, e⟩ := hasS_iff.1 (h.cl x hx k hk)
  exact List.mem_map.2 ⟨y, hy, e⟩
/-- all states that are reached from some of those that are reached -/
theorem Reached.sub {B B2 : List Nat} {U : Nat → Prop} {ns : List Nd} (h : Reached c inn B U ns) (hB : ∀ s ∈ B2, s ∈ ns.map Nd.state) : ∃ ms, reachP c inn B2 = some ms ∧ Reached c inn B2 (· ∈ ns.map Nd.state) ms := by
  obtain ⟨ms, hms⟩ := reach_total (by rw [List.length_map]; exact h.len) h.closed hB
  exact ⟨ms, hms, reach_spec h.closed hB hms⟩
theorem facts_gr (h : c.Good) {s : Nat} {ns : List Nd} (hs : s < 2 ^ c.gates.length) (hr : reachP c inn [s] = some ns) : Gr c inn ns := by
  have R := reach_spec (U := (· < 2 ^ c.gates.length)) (closed_lt h) (by simpa using hs) hr
  refine ⟨R.wf, R.u, R.len, fun x hx => ?_⟩
  obtain ⟨ms, h1, h2⟩ := R.sub (B2 := [x.state]) (by simp; exact ⟨x, hx, rfl⟩)
  refine ⟨ms, h1, h2.wf, fun y hy => ?_, h2.len⟩
  obtain ⟨z, hz, e⟩ := List.mem_map.1 (h2.u y hy)
  rw [← e]; exact R.u z hz
theorem facts_glit (h : c.Good) {s : Nat} {ns : List Nd} (k : Nat) (hs : s < 2 ^ c.gates.length) (hr : reachP c inn [s] = some ns) : ∃ ms, reachP c inn (afterP c inn ns k) = some ms ∧ ms.length ≤ 1000 := by
  have R := reach_spec (U := (· < 2 ^ c.gates.length)) (closed_lt h) (by simpa using hs) hr
  obtain ⟨ms, h1, h2⟩ := R.sub (B2 := afterP c inn ns k) (by
    intro t ht
    unfold afterP at ht
    obtain ⟨x, hx, rfl⟩ := List.mem_map.1 ht
    obtain ⟨hx1, hx2⟩ := List.mem_filter.1 hx
    obtain ⟨y, hy, e⟩ := hasS_iff.1 (R.cl x hx1 k (mem_nextM h hx2))
    exact List.mem_map.2 ⟨y, hy, e⟩)
  exact ⟨ms, h1, h2.len⟩
end
end Ry
end Go.Proofs.Yteocjpnckciboaa

set_option autoImplicit false
set_option linter.unusedVariables false
namespace Go.Proofs.Yteocjpnckciboaa
open Go.Gv
open Go.RowKit
namespace Ry
section
variable {c : Circ} {inn : Nat} {ns : List Nd}
/-! ## taking away: an order in which each goes before those that it leads to -/
/-- the places to which a place leads -/
def sc (c : Circ) (inn : Nat) (ns : List Nd) (a : Nat) : List Nat := succs c inn ns (ns.getD a default)
def cn (c : Circ) (inn : Nat) (ns : List Nd) (p : Nat) (L : List Nat) : Nat := (L.flatMap (sc c inn ns)).count p
theorem cn_append (p : Nat) (L M : List Nat) : cn c inn ns p (L ++ M) = cn c inn ns p L + cn c inn ns p M := by
  unfold cn; rw [List.flatMap_append, List.count_append]
theorem cn_one (p a : Nat) : cn c inn ns p [a] = (sc c inn ns a).count p := by unfold cn; simp
theorem cn_nil (p : Nat) : cn c inn ns p [] = 0 := by unfold cn; simp
theorem cn_erase {p n : Nat} {L : List Nat} (h : n ∈ L) : cn c inn ns p L = (sc c inn ns n).count p + cn c inn ns p (L.erase n) := by
  have := (List.perm_cons_erase h).flatMap_right (sc c inn ns)
  unfold cn
  rw [this.count_eq, List.flatMap_cons, List.count_append]
theorem cn_le {p : Nat} : ∀ (n : Nat) (L : List Nat), L.Nodup → (∀ a ∈ L, a < n) → cn c inn ns p L ≤ cn c inn ns p (List.range n)
  | 0, L, _, h => by
    cases L with
    | nil => simp
    | cons a L => exact absurd (h a (by simp)) (by omega)
  | n + 1, L, hd, h => by
    rw [List.range_succ, cn_append, cn_one]
    by_cases hn : n ∈ L
    · have h1 := cn_le (p := p) n (L.erase n) (hd.erase n) fun x hx => by
        have h2 := (List.Nodup.mem_erase_iff hd).1 hx
        have h3 := h x h2.2
        have h4 := h2.1
        omega
      rw [cn_erase hn]; omega
    · have h1 := cn_le (p := p) n L hd fun x hx => by
        have h3 := h x hx
        have h4 : x ≠ n := fun e => hn (e ▸ hx)
        omega
      omega
theorem cn_ge {p : Nat} : ∀ (n : Nat) (L : List Nat), L.Nodup → (∀ a, a < n → p ∈ sc c inn ns a → a ∈ L) → cn c inn ns p (List.range n) ≤ cn c inn ns p L
  | 0, L, _, _ => by simp [cn_nil]
  | n + 1, L, hd, h => by
    rw [List.range_succ, cn_append, cn_one]
    by_cases hn : n ∈ L
    · have h1 := cn_ge (p := p) n (L.erase n) (hd.erase n) fun a ha hp => (List.Nodup.mem_erase_iff hd).2 ⟨by omega, h a (by omega) hp⟩
      rw [cn_erase hn]; omega
    · have h1 := cn_ge (p := p) n L hd fun a ha hp => h a (by omega) hp
      have h2 : (sc c inn ns n).count p = 0 := List.count_eq_zero.2 fun hp => hn (h n (by omega) hp)
      omega
theorem flat_sc : ns.flatMap (succs c inn ns) = (List.range ns.length).flatMap (sc c inn ns) := by
  have : ns = (List.range ns.length).map fun a => ns.getD a default := by
    apply List.ext_getElem (by simp)
    intro i h1 h2
    simp [h1]
  conv => lhs; arg 2; rw [this]
  rw [List.flatMap_map]; rfl
theorem sc_lt {a p : Nat} (h0 : 0 < ns.length) (h : p ∈ sc c inn ns a) : p < ns.length := by
  unfold sc succs at h
  obtain ⟨k, _, rfl⟩ := List.mem_map.1 h
  exact (pl_lt ns _ h0).1
theorem foldl_bump : ∀ (L : List Nat) (to : List Int), (∀ p ∈ L, p < to.length) → (L.foldl (bump 1) to).length = to.length ∧ ∀ p, (L.foldl (bump 1) to).getD p 0 = to.getD p 0 + L.count p
  | [], to, _ => ⟨rfl, fun p => by simp⟩
  | a :: L, to, h => by
    have ha : a < to.length := h a (by simp)
    obtain ⟨r1, r2⟩ := foldl_bump L (bump 1 to a) fun p hp => by rw [bump_len]; exact h p (List.mem_cons_of_mem _ hp)
    refine ⟨by simpa [bump_len] using r1, fun p => ?_⟩
    rw [List.foldl_cons, r2, bump_getD ha, List.count_cons]
    by_cases e : a = p
    · subst e; simp; omega
    · simp [e]
theorem toC_len (h0 : 0 < ns.length) : (toC c inn ns).length = ns.length := by
  unfold toC
  rw [flat_sc, (foldl_bump _ _ fun p hp => ?_).1]; simp
  obtain ⟨a, _, ha⟩ := List.mem_flatMap.1 hp
  simpa using sc_lt h0 ha
theorem toC_get (h0 : 0 < ns.length) {p : Nat} : (toC c inn ns).getD p 0 = cn c inn ns p (List.range ns.length) := by
  unfold toC
  rw [flat_sc, (foldl_bump _ _ fun p hp => ?_).2]
  · unfold cn
    simp [List.getD, List.getElem?_replicate]
    split <;> simp
  · obtain ⟨a, _, ha⟩ := List.mem_flatMap.1 hp
    simpa using sc_lt h0 ha
structure Kn (n : Nat) (to : List Int) (free : List Nat) : Prop where
  len : to.length = n
  nd : free.Nodup
  k : ∀ p, p ∈ free ↔ p < n ∧ to.getD p 0 ≤ 0
theorem drain_Kn {n : Nat} {to : List Int} {free : List Nat} (h : Kn n to free) {p : Nat} (hp : p < n) : Kn n (drainN (to, free) p).1 (drainN (to, free) p).2 ∧ (∀ q, (drainN (to, free) p).1.getD q 0 = to.getD q 0 - (if p = q then 1 else 0)) ∧ ∃ e, (drainN (to, free) p).2 = free ++ e := by
  have hl : p < to.length := by rw [h.len]; exact hp
  have hg : ∀ q, (bump (-1) to p).getD q 0 = to.getD q 0 - (if p = q then 1 else 0) := fun q => by
    rw [bump_getD hl]
    by_cases e : p = q
    · subst e; simp; omega
    · simp [e]
  by_cases hz : (bump (-1) to p).getD p 0 = 0
  · rw [drain_t hz]
    have hz2 := hg p
    rw [if_pos rfl, hz] at hz2
    have hpn : p ∉ free := fun hm => by have := ((h.k p).1 hm).2; omega
    refine ⟨⟨by simp [bump_len, h.len], ?_, fun q => ?_⟩, hg, ⟨[p], rfl⟩⟩
    · rw [List.nodup_append]
      refine ⟨h.nd, by simp, fun a ha b hb e => ?_⟩
      simp at hb; subst hb; subst e; exact hpn ha
    · rw [List.mem_append, h.k q, hg q]
      by_cases e : p = q
      · subst e; rw [if_pos rfl]
        exact ⟨fun _ => ⟨hp, by omega⟩, fun _ => .inr (by simp)⟩
      · have e' : ¬ q = p := fun h => e h.symm
        simp [e, e']
  · rw [drain_f hz]
    refine ⟨⟨by simp [bump_len, h.len], h.nd, fun q => ?_⟩, hg, ⟨[], by simp⟩⟩
    rw [h.k q, hg q]
    by_cases e : p = q
    · subst e
      have hz2 := hg p
      rw [if_pos rfl] at hz2 ⊢
      omega
    · simp [e]
theorem foldl_drain {n : Nat} : ∀ (L : List Nat) (to : List Int) (free : List Nat), Kn n to free → (∀ p ∈ L, p < n) →
    Kn n (L.foldl drainN (to, free)).1 (L.foldl drainN (to, free)).2 ∧ (∀ q, (L.foldl drainN (to, free)).1.getD q 0 = to.getD q 0 - L.count q) ∧ ∃ e, (L.foldl drainN (to, free)).2 = free ++ e
  | [], to, free, h, _ => ⟨h, fun q => by simp, ⟨[], by simp⟩⟩
  | p :: L, to, free, h, hL => by
    obtain ⟨h1, h2, e1, h3⟩ := drain_Kn h (hL p (by simp))
    obtain ⟨r1, r2, e2, r3⟩ := foldl_drain L (drainN (to, free) p).1 (drainN (to, free) p).2 h1 fun q hq => hL q (List.mem_cons_of_mem _ hq)
    refine ⟨r1, fun q => ?_, e1 ++ e2, ?_⟩
    · rw [List.foldl_cons, r2, h2, List.count_cons]
      by_cases e : p = q
      · subst e; simp; omega
      · simp [e]
    · rw [List.foldl_cons, r3, h3, List.append_assoc]
structure Kahn (c : Circ) (inn : Nat) (ns : List Nd) (i : Nat) (to : List Int) (free : List Nat) : Prop extends Kn ns.length to free where
  f : ∀ p, to.getD p 0 = (cn c inn ns p (List.range ns.length) : Int) - cn c inn ns p (free.take i)
  t : ∀ q p, q < i → free[q]? = some p → cn c inn ns p (List.range ns.length) ≤ cn c inn ns p (free.take q)
  il : i ≤ free.length
theorem Kahn.flen {i : Nat} {to : List Int} {free : List Nat} (h : Kahn c inn ns i to free) : free.length ≤ ns.length := nodup_len _ _ h.nd fun p hp => ((h.k p).1 hp).1
theorem drainGo_Kahn (h0 : 0 < ns.length) : ∀ (f i : Nat) (to : List Int) (free : List Nat), Kahn c inn ns i to free → ns.length + 1 ≤ i + f →
    ∃ to2, Kahn c inn ns (drainGo c inn ns f i to free).length to2 (drainGo c inn ns f i to free)
  | 0, i, to, free, h, hf => by have := h.flen; have := h.il; omega
  | f + 1, i, to, free, h, hf => by
    rcases Nat.lt_or_ge i free.length with hl | hl
    · obtain ⟨a, ha⟩ : ∃ a, free[i]? = some a := ⟨free[i], List.getElem?_eq_getElem hl⟩
      have hal : a < ns.length := ((h.k a).1 (List.mem_of_getElem? ha)).1
      obtain ⟨r1, r2, e, r3⟩ := foldl_drain (sc c inn ns a) to free h.toKn fun p hp => sc_lt h0 hp
      have hstep : drainGo c inn ns (f + 1) i to free = drainGo c inn ns f (i + 1) ((sc c inn ns a).foldl drainN (to, free)).1 ((sc c inn ns a).foldl drainN (to, free)).2 := by
        refine drainGo_step (x := ns.getD a default) (p := a) hl (by simp [List.getD, ha]) (by simp [List.getD, hal]) rfl
      rw [hstep]
      have htk : (free ++ e).take (i + 1) = free.take i ++ [a] := by
        rw [List.take_append_of_le_length (by omega), List.take_succ_eq_append_getElem hl]
        rw [List.getElem?_eq_getElem hl] at ha
        cases ha; rfl
      refine drainGo_Kahn h0 f (i + 1) _ _ ⟨r1, fun p => ?_, fun q p hq hp => ?_, by rw [r3, List.length_append]; omega⟩ (by omega)
      · rw [r2, h.f p, r3, htk, cn_append, cn_one]; omega
      · rw [r3] at hp ⊢
        have hq2 : q < free.length := by omega
        rw [List.getElem?_append_left hq2] at hp
        rw [List.take_append_of_le_length (by omega)]
        rcases Nat.lt_succ_iff_lt_or_eq.1 hq with hq | rfl
        · exact h.t q p hq hp
        · have h1 := ((h.k p).1 (List.mem_of_getElem? hp)).2
          rw [h.f p] at h1
          omega
    · rw [drainGo_end hl]
      have : i = free.length := Nat.le_antisymm h.il hl
      subst this
      exact ⟨to, h⟩
theorem Kahn_init (h0 : 0 < ns.length) : Kahn c inn ns 0 (toC c inn ns) (freeI (toC c inn ns)) := by
  refine ⟨⟨toC_len h0, List.Pairwise.filter _ List.nodup_range, fun p => ?_⟩, fun p => ?_, fun q p h => by omega, Nat.zero_le _⟩
  · unfold freeI zeroAt
    rw [List.mem_filter, List.mem_range, toC_len h0, toC_get h0, beq_iff_eq]
    omega
  · rw [toC_get h0]; simp [cn_nil]
def doneP (c : Circ) (inn : Nat) (ns : List Nd) : List Nat := drainGo c inn ns (ns.length + 1) 0 (toC c inn ns) (freeI (toC c inn ns))
theorem done_Kahn (h0 : 0 < ns.length) : ∃ to, Kahn c inn ns (doneP c inn ns).length to (doneP c inn ns) := drainGo_Kahn h0 _ _ _ _ (Kahn_init h0) (by omega)
/-- an edge leads forward in the order in which they are taken away -/
theorem done_before (h0 : 0 < ns.length) {q p a : Nat} (hp : (doneP c inn ns)[q]? = some p) (ha : a < ns.length) (he : p ∈ sc c inn ns a) : a ∈ (doneP c inn ns).take q := by
  obtain ⟨to, K⟩ := done_Kahn (c := c) (inn := inn) h0
  have hq := (List.getElem?_eq_some_iff.1 hp).1
  have h1 := K.t q p hq hp
  apply Decidable.byContradiction
  intro hn
  have hnd : ((doneP c inn ns).take q ++ [a]).Nodup := by
    rw [List.nodup_append]
    refine ⟨K.nd.sublist (List.take_sublist _ _), by simp, fun x hx b hb e => ?_⟩
    simp at hb; subst hb; subst e; exact hn hx
  have h2 := cn_le (c := c) (inn := inn) (ns := ns) (p := p) ns.length _ hnd fun x hx => by
    rcases List.mem_append.1 hx with hx | hx
    · exact ((K.k x).1 (List.mem_of_mem_take hx)).1
    · simp at hx; subst hx; exact ha
  rw [cn_append, cn_one] at h2
  have := List.count_pos_iff.2 he
  omega
theorem left_from (h0 : 0 < ns.length) {p : Nat} (hp : p < ns.length) (hn : p ∉ doneP c inn ns) : ∃ a, a < ns.length ∧ a ∉ doneP c inn ns ∧ p ∈ sc c inn ns a := by
  obtain ⟨to, K⟩ := done_Kahn (c := c) (inn := inn) h0
  apply Classical.byContradiction
  intro hno
  have h1 := cn_ge (c := c) (inn := inn) (ns := ns) (p := p) ns.length (doneP c inn ns) K.nd fun a ha he => by
    apply Classical.byContradiction
    intro h; exact hno ⟨a, ha, h, he⟩
  have h2 := K.f p
  rw [List.take_length] at h2
  exact hn ((K.k p).2 ⟨hp, by omega⟩)
end
end Ry
end Go.Proofs.Yteocjpnckciboaa

set_option autoImplicit false
set_option linter.unusedVariables false
namespace Go.Proofs.Yteocjpnckciboaa
open Go.Gv
open Go.RowKit
namespace Ry
section
variable {c : Circ} {inn : Nat} {ns : List Nd}
theorem lk_get : ∀ (ns : List Nd) (s i : Nat), hasS ns s = true → ∃ (j : Nat) (y : Nd), lk (s : Int) (plc ns i) = some ((i + j : Nat) : Int) ∧ ns[j]? = some y ∧ y.state = s
  | [], s, i, h => by simp [hasS] at h
  | y :: ns, s, i, h => by
    by_cases e : s = y.state
    · exact ⟨0, y, by simp [plc, lk, e], rfl, e.symm⟩
    · have h1 : ¬ (s : Int) = (y.state : Int) := by omega
      have h2 : ¬ y.state = s := fun e' => e e'.symm
      have h3 : hasS ns s = true := by simpa [hasS, h2] using h
      obtain ⟨j, z, r1, r2, r3⟩ := lk_get ns s (i + 1) h3
      exact ⟨j + 1, z, by simp [plc, lk, h1, r1]; omega, by simpa using r2, r3⟩
theorem pl_get {s : Nat} (h : hasS ns s = true) : ∃ y, ns[pl ns s]? = some y ∧ y.state = s := by
  obtain ⟨j, y, h1, h2, h3⟩ := lk_get ns s 0 h
  refine ⟨y, ?_, h3⟩
  unfold pl
  rw [h1]; simpa using h2
theorem nd_inj (hd : (ns.map Nd.state).Nodup) {i j : Nat} {x y : Nd} (hi : ns[i]? = some x) (hj : ns[j]? = some y) (e : x.state = y.state) : i = j := by
  have h1 : (ns.map Nd.state)[i]? = some x.state := by simp [hi]
  have h2 : (ns.map Nd.state)[j]? = some x.state := by simp [hj, e]
  obtain ⟨l1, e1⟩ := List.getElem?_eq_some_iff.1 h1
  obtain ⟨l2, e2⟩ := List.getElem?_eq_some_iff.1 h2
  have hp := List.pairwise_iff_getElem.1 hd
  rcases Nat.lt_trichotomy i j with h | h | h
  · exact absurd (e1.trans e2.symm) (hp i j l1 l2 h)
  · exact h
  · exact absurd (e2.trans e1.symm) (hp j i l2 l1 h)
/-- what is known of a list of states that is closed -/
structure Cl (c : Circ) (inn : Nat) (ns : List Nd) : Prop where
  nd : (ns.map Nd.state).Nodup
  cl : ∀ y ∈ ns, ∀ k ∈ nextL c y.state inn, hasS ns (flip y.state k) = true
theorem Reached.toCl {B : List Nat} {U : Nat → Prop} (h : Reached c inn B U ns) : Cl c inn ns := ⟨h.nd, h.cl⟩
theorem Cl.edge (h : Cl c inn ns) {a : Nat} {x : Nd} (hx : ns[a]? = some x) {k : Nat} (hk : k ∈ nextL c x.state inn) : pl ns (flip x.state k) ∈ sc c inn ns a ∧ ∃ y, ns[pl ns (flip x.state k)]? = some y ∧ y.state = flip x.state k := by
  refine ⟨?_, pl_get (h.cl x (List.mem_of_getElem? hx) k hk)⟩
  unfold sc succs
  have : ns.getD a default = x := by simp [List.getD, hx]
  rw [this]
  exact List.mem_map.2 ⟨k, hk, rfl⟩
theorem Cl.edge' (h : Cl c inn ns) {a p : Nat} (ha : a < ns.length) (hp : p ∈ sc c inn ns a) : ∃ x y k, ns[a]? = some x ∧ ns[p]? = some y ∧ k ∈ nextL c x.state inn ∧ y.state = flip x.state k := by
  have hx := List.getElem?_eq_getElem ha
  unfold sc succs at hp
  have : ns.getD a default = ns[a] := by simp [List.getD, ha]
  rw [this] at hp
  obtain ⟨k, hk, rfl⟩ := List.mem_map.1 hp
  obtain ⟨_, y, h1, h2⟩ := h.edge hx hk
  exact ⟨ns[a], y, k, hx, h1, hk, h2⟩
theorem rest_iff (h : c.Good) {x : Nd} : isRest c inn x = true ↔ nextL c x.state inn = [] := by
  unfold isRest
  constructor
  · intro h0
    have h1 : nextM c x.state inn = 0 := by simpa using h0
    rw [← upTo_next c h, h1]
    unfold upTo
    rw [List.filter_eq_nil_iff]
    intro a _; simp
  · intro h0
    have h1 : nextM c x.state inn = 0 := by
      apply Nat.eq_of_testBit_eq
      intro i
      rw [Nat.zero_testBit]
      cases hb : (nextM c x.state inn).testBit i with
      | false => rfl
      | true => have := mem_nextM h hb; rw [h0] at this; cases this
    rw [h1]; rfl
theorem all_in {n : Nat} {l : List Nat} (hd : l.Nodup) (hlt : ∀ x ∈ l, x < n) (hlen : l.length = n) {p : Nat} (hp : p < n) : p ∈ l := by
  apply Decidable.byContradiction
  intro hn
  have := nodup_len n (p :: l) (List.nodup_cons.2 ⟨hn, hd⟩) fun x hx => by
    rcases List.mem_cons.1 hx with rfl | hx
    · exact hp
    · exact hlt x hx
  simp at this; omega
def posS (c : Circ) (inn : Nat) (ns : List Nd) (s : Nat) : Nat := (doneP c inn ns).idxOf (pl ns s)
theorem ends_len (he : endsP c inn ns = true) : (doneP c inn ns).length = ns.length := by
  unfold endsP at he
  exact beq_iff_eq.1 he
/-- no state that is reached leads back to itself: an order -/
theorem topo (h : Cl c inn ns) (he : endsP c inn ns = true) {x : Nd} {k : Nat} (hx : x ∈ ns) (hk : k ∈ nextL c x.state inn) : posS c inn ns x.state < posS c inn ns (flip x.state k) ∧ posS c inn ns (flip x.state k) < ns.length := by
  have h0 : 0 < ns.length := List.length_pos_of_mem hx
  obtain ⟨to, K⟩ := done_Kahn (c := c) (inn := inn) h0
  have hlen := ends_len he
  obtain ⟨a, ha⟩ := List.getElem?_of_mem hx
  have hal := (List.getElem?_eq_some_iff.1 ha).1
  obtain ⟨h1, y, h2, h3⟩ := h.edge ha hk
  have hpl := (List.getElem?_eq_some_iff.1 h2).1
  have hpa : pl ns x.state = a := by
    obtain ⟨z, hz1, hz2⟩ := pl_get (hasS_iff.2 ⟨x, hx, rfl⟩)
    exact nd_inj h.nd hz1 ha hz2
  have hin : pl ns (flip x.state k) ∈ doneP c inn ns := all_in K.nd (fun p hp => ((K.k p).1 hp).1) hlen hpl
  have hq : (doneP c inn ns).idxOf (pl ns (flip x.state k)) < (doneP c inn ns).length := List.idxOf_lt_length_of_mem hin
  have hget : (doneP c inn ns)[(doneP c inn ns).idxOf (pl ns (flip x.state k))]? = some (pl ns (flip x.state k)) := by
    rw [List.getElem?_eq_getElem hq, List.getElem_idxOf hq]
  have hb := done_before h0 hget hal h1
  refine ⟨?_, by unfold posS; omega⟩
  unfold posS
  rw [hpa]
  obtain ⟨i, hi⟩ := List.getElem?_of_mem hb
  have hil := (List.getElem?_eq_some_iff.1 hi).1
  rw [List.length_take] at hil
  rw [List.getElem?_take] at hi
  rw [if_pos (by omega)] at hi
  have hid : (doneP c inn ns).idxOf a ≤ i := by
    rcases Nat.lt_or_ge i ((doneP c inn ns).idxOf a) with hlt | hge
    · have := List.not_of_lt_findIdx (p := (· == a)) hlt
      rw [(List.getElem?_eq_some_iff.1 hi).2] at this
      simp at this
    · exact hge
  omega
theorem rest_of_ends (hg : c.Good) (h : Cl c inn ns) (h0 : 0 < ns.length) (he : endsP c inn ns = true) : ∃ x ∈ ns, isRest c inn x = true := by
  have key : ∀ d (x : Nd), x ∈ ns → ns.length ≤ posS c inn ns x.state + d → ∃ x ∈ ns, isRest c inn x = true := by
    intro d
    induction d with
    | zero =>
      intro x hx hd
      by_cases hr : nextL c x.state inn = []
      · exact ⟨x, hx, (rest_iff hg).2 hr⟩
      · obtain ⟨k, hk⟩ := List.exists_mem_of_ne_nil _ hr
        have := topo h he hx hk
        omega
    | succ d ih =>
      intro x hx hd
      by_cases hr : nextL c x.state inn = []
      · exact ⟨x, hx, (rest_iff hg).2 hr⟩
      · obtain ⟨k, hk⟩ := List.exists_mem_of_ne_nil _ hr
        have h1 := topo h he hx hk
        obtain ⟨y, hy, e⟩ := hasS_iff.1 (h.cl x hx k hk)
        exact ih y hy (by rw [e]; omega)
  exact key ns.length ns[0] (List.getElem_mem h0) (by omega)
theorem backAt_nil {s : Nat} {ms : List Nd} : ∀ (l : List Nd) (i : Nat), backAt c inn s ms i l = [] → ∀ x ∈ l, ∀ k ∈ nextL c x.state inn, flip x.state k ≠ s
  | [], _, _, x, hx, _, _ => by cases hx
  | y :: l, i, h, x, hx, k, hk => by
    cases hf : (nextL c y.state inn).find? (fun k => flip y.state k == s) with
    | some q => rw [backAt_hit hf] at h; simp at h
    | none =>
      rw [backAt_skip hf] at h
      rcases List.mem_cons.1 hx with rfl | hx
      · have := List.find?_eq_none.1 hf k hk
        simpa using this
      · exact backAt_nil l (i + 1) h x hx k hk
theorem loopFrom_zero : ∀ (l : List Nd) (i : Nat), (loopFrom c inn ns i l).kind = 0 → ∀ x ∈ l, backP c inn x.state = []
  | [], _, _, x, hx => by cases hx
  | y :: l, i, h, x, hx => by
    by_cases hb : backP c inn y.state = []
    · rw [loopFrom_skip hb] at h
      rcases List.mem_cons.1 hx with rfl | hx
      · exact hb
      · exact loopFrom_zero l (i + 1) h x hx
    · rw [loopFrom_hit hb] at h; cases h
def fR (c : Circ) (inn s : Nat) : Nat := ((reachP c inn [s]).getD []).length
theorem fR_lt {B : List Nat} {U : Nat → Prop} (R : Reached c inn B U ns) (hb : ∀ x ∈ ns, backP c inn x.state = []) {x y : Nd} {k : Nat} (hx : x ∈ ns) (hy : y ∈ ns) (hk : k ∈ nextL c x.state inn) (e : y.state = flip x.state k) : fR c inn y.state < fR c inn x.state := by
  obtain ⟨mx, h1, R1⟩ := R.sub (B2 := [x.state]) (by simp; exact ⟨x, hx, rfl⟩)
  obtain ⟨x', hx', ex⟩ := hasS_iff.1 (R1.bg x.state (by simp))
  have hyx : ∀ s ∈ [y.state], s ∈ mx.map Nd.state := by
    intro s hs
    simp at hs; subst hs
    obtain ⟨z, hz, ez⟩ := hasS_iff.1 (R1.cl x' hx' k (by rw [ex]; exact hk))
    exact List.mem_map.2 ⟨z, hz, by rw [ez, ex, e]⟩
  obtain ⟨my, h2, R2⟩ := R1.sub hyx
  have hbk := hb y hy
  unfold backP at hbk
  rw [h2] at hbk
  have hno : x.state ∉ my.map Nd.state := fun hm => by
    obtain ⟨z, hz, ez⟩ := List.mem_map.1 hm
    exact backAt_nil my 0 hbk z hz k (by rw [ez]; exact hk) (by rw [ez, e])
  have := nodup_sub (x.state :: my.map Nd.state) (mx.map Nd.state) (List.nodup_cons.2 ⟨hno, R2.nd⟩) fun s hs => by
    rcases List.mem_cons.1 hs with rfl | hs
    · exact List.mem_map.2 ⟨x', hx', ex⟩
    · obtain ⟨z, hz, rfl⟩ := List.mem_map.1 hs
      exact R2.u z hz
  simp only [List.length_cons, List.length_map] at this
  unfold fR
  rw [h1, h2]
  exact this
theorem no_back {B : List Nat} {U : Nat → Prop} (R : Reached c inn B U ns) (hb : ∀ x ∈ ns, backP c inn x.state = []) : endsP c inn ns = true := by
  rcases Nat.eq_zero_or_pos ns.length with h0 | h0
  · have : ns = [] := List.eq_nil_of_length_eq_zero h0
    subst this; rfl
  obtain ⟨to, K⟩ := done_Kahn (c := c) (inn := inn) h0
  have hall : ∀ p, p < ns.length → p ∈ doneP c inn ns := by
    intro p hp
    apply Decidable.byContradiction
    intro hn
    have key : ∀ d p, p < ns.length → p ∉ doneP c inn ns → ∀ y, ns[p]? = some y → fR c inn y.state + d < 1001 → False := by
      intro d
      have gen : ∀ d p, p < ns.length → p ∉ doneP c inn ns → ∀ y, ns[p]? = some y → 1001 ≤ fR c inn y.state + d → False := by
        intro d
        induction d with
        | zero =>
          intro p hp hn y hy hd
          obtain ⟨my, h2, R2⟩ := R.sub (B2 := [y.state]) (by simp; exact ⟨y, List.mem_of_getElem? hy, rfl⟩)
          unfold fR at hd
          rw [h2] at hd
          have := R2.len
          simp at hd; omega
        | succ d ih =>
          intro p hp hn y hy hd
          obtain ⟨a, ha, han, hpa⟩ := left_from h0 hp hn
          obtain ⟨x, y', k, hx, hy', hk, e⟩ := R.toCl.edge' ha hpa
          rw [hy] at hy'; cases hy'
          have := fR_lt R hb (List.mem_of_getElem? hx) (List.mem_of_getElem? hy) hk e
          exact ih a ha han x hx (by omega)
      intro p hp hn y hy _
      exact gen 1001 p hp hn y hy (by omega)
    have hy := List.getElem?_eq_getElem hp
    have hf : fR c inn ns[p].state < 1001 := by
      obtain ⟨my, h2, R2⟩ := R.sub (B2 := [ns[p].state]) (by simp; exact ⟨ns[p], List.getElem_mem hp, rfl⟩)
      unfold fR; rw [h2]
      have := R2.len
      simp; omega
    exact key 0 p hp hn ns[p] hy (by omega)
  have h1 := nodup_sub (List.range ns.length) (doneP c inn ns) List.nodup_range fun p hp => hall p (List.mem_range.1 hp)
  have h2 := K.flen
  unfold endsP
  rw [beq_iff_eq]
  rw [List.length_range] at h1
  exact Nat.le_antisymm h2 h1
theorem race_zero {B : List Nat} {U : Nat → Prop} (R : Reached c inn B U ns) (hk : (raceP c inn ns).kind = 0) : (rests c inn ns).length ≤ 1 ∧ endsP c inn ns = true := by
  by_cases h1 : 1 < (rests c inn ns).length
  · rw [raceP_two h1] at hk; cases hk
  · refine ⟨by omega, ?_⟩
    cases he : endsP c inn ns with
    | true => rfl
    | false =>
      rw [raceP_loop h1 he] at hk
      rw [no_back R (loopFrom_zero ns 0 hk)] at he
      cases he
theorem facts (c : Circ) (inn : Nat) (hin : inn < 2 ^ c.inputs.toNat) (h : c.Good) : Facts c inn := by
  refine ⟨fun s ns hs hr => facts_gr h hs hr, fun s ns hs hr hk => ?_, fun s ns k hs hr => facts_glit h k hs hr⟩
  have R := reach_spec (U := (· < 2 ^ c.gates.length)) (closed_lt h) (by simpa using hs) hr
  have h0 : 0 < ns.length := by
    obtain ⟨x, hx, _⟩ := hasS_iff.1 (R.bg s (by simp))
    exact List.length_pos_of_mem hx
  exact rest_of_ends h R.toCl h0 (race_zero R hk).2
end
end Ry
end Go.Proofs.Yteocjpnckciboaa
