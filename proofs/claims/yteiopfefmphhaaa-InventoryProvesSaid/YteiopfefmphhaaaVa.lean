import Derived.Test.YteiopfefmphhaaaGw
import Derived.Test.YteiopfefmphhaaaProg
/- Facts on types; pipes and wishes; the walks of Check and Fit and of their references. -/
set_option linter.unusedSimpArgs false
set_option linter.unusedVariables false
set_option linter.unnecessarySimpa false
set_option autoImplicit false
set_option linter.unusedVariables false
namespace Go.Proofs.Yteiopfefmphhaaa
open Go.Gv
open Go.RowKit
theorem ty_2 : TyF Try.prog 2 (.int .i64 0) 1 8 := TyF.mk' (by kernel_rfl)
theorem ty_3 : TyF Try.prog 3 (.int .i64 0) 1 8 := TyF.mk' (by kernel_rfl)
theorem ty_4 : TyF Try.prog 4 (.bool false) 1 1 := TyF.mk' (by kernel_rfl)
theorem ty_22 : TyF Try.prog 22 (.slice none 0 0) 1 24 := TyF.mk' (by kernel_rfl)
theorem ty_23 : TyF Try.prog 23 (.slice none 0 0) 1 24 := TyF.mk' (by kernel_rfl)
theorem ty_25 : TyF Try.prog 25 (.agg #[.int .i64 0, .int .i64 0, .int .i64 0]) 3 24 := TyF.mk' (by kernel_rfl)
theorem ty_27 : TyF Try.prog 27 (.agg #[.int .i64 0, .int .i64 0]) 2 16 := TyF.mk' (by kernel_rfl)
theorem ty_29 : TyF Try.prog 29 (.agg #[.int .i64 0, .int .i64 0, .int .i64 0, .int .i64 0, .int .i64 0]) 5 40 := TyF.mk' (by kernel_rfl)
theorem ty_52 : TyF Try.prog 52 (.nilFunc) 1 8 := TyF.mk' (by kernel_rfl)
theorem ty_53 : TyF Try.prog 53 (.nilFunc) 1 8 := TyF.mk' (by kernel_rfl)
theorem ty_62 : TyF Try.prog 62 (.agg #[.int .i64 0, .int .i64 0]) 2 16 := TyF.mk' (by kernel_rfl)
theorem ty_65 : TyF Try.prog 65 (.slice none 0 0) 1 24 := TyF.mk' (by kernel_rfl)
theorem ty_71 : TyF Try.prog 71 (.agg #[.int .i64 0, .int .i64 0]) 2 16 := TyF.mk' (by kernel_rfl)
theorem ty_80 : TyF Try.prog 80 (.agg #[]) 0 0 := TyF.mk' (by kernel_rfl)
theorem ty_83 : TyF Try.prog 83 (.slice none 0 0) 1 24 := TyF.mk' (by kernel_rfl)
theorem ty_86 : TyF Try.prog 86 (.map none) 1 8 := TyF.mk' (by kernel_rfl)
theorem fa_25_0 (ad : Addr) (w : World) : (Instr.fieldAt 25 (.pointer (some ad)) 0).run Try.prog w = .ok (.pointer (some (ad.add 0))) w := by cases ad; kernel_rfl
theorem fa_25_1 (ad : Addr) (w : World) : (Instr.fieldAt 25 (.pointer (some ad)) 1).run Try.prog w = .ok (.pointer (some (ad.add 1))) w := by cases ad; kernel_rfl
theorem fa_25_2 (ad : Addr) (w : World) : (Instr.fieldAt 25 (.pointer (some ad)) 2).run Try.prog w = .ok (.pointer (some (ad.add 2))) w := by cases ad; kernel_rfl
theorem fa_27_0 (ad : Addr) (w : World) : (Instr.fieldAt 27 (.pointer (some ad)) 0).run Try.prog w = .ok (.pointer (some (ad.add 0))) w := by cases ad; kernel_rfl
theorem fa_27_1 (ad : Addr) (w : World) : (Instr.fieldAt 27 (.pointer (some ad)) 1).run Try.prog w = .ok (.pointer (some (ad.add 1))) w := by cases ad; kernel_rfl
theorem fa_29_0 (ad : Addr) (w : World) : (Instr.fieldAt 29 (.pointer (some ad)) 0).run Try.prog w = .ok (.pointer (some (ad.add 0))) w := by cases ad; kernel_rfl
theorem fa_29_1 (ad : Addr) (w : World) : (Instr.fieldAt 29 (.pointer (some ad)) 1).run Try.prog w = .ok (.pointer (some (ad.add 1))) w := by cases ad; kernel_rfl
theorem fa_29_2 (ad : Addr) (w : World) : (Instr.fieldAt 29 (.pointer (some ad)) 2).run Try.prog w = .ok (.pointer (some (ad.add 3))) w := by cases ad; kernel_rfl
theorem fa_31_0 (ad : Addr) (w : World) : (Instr.fieldAt 31 (.pointer (some ad)) 0).run Try.prog w = .ok (.pointer (some (ad.add 0))) w := by cases ad; kernel_rfl
theorem fa_31_1 (ad : Addr) (w : World) : (Instr.fieldAt 31 (.pointer (some ad)) 1).run Try.prog w = .ok (.pointer (some (ad.add 1))) w := by cases ad; kernel_rfl
theorem fa_31_2 (ad : Addr) (w : World) : (Instr.fieldAt 31 (.pointer (some ad)) 2).run Try.prog w = .ok (.pointer (some (ad.add 2))) w := by cases ad; kernel_rfl
theorem fa_31_3 (ad : Addr) (w : World) : (Instr.fieldAt 31 (.pointer (some ad)) 3).run Try.prog w = .ok (.pointer (some (ad.add 5))) w := by cases ad; kernel_rfl
theorem fa_71_0 (ad : Addr) (w : World) : (Instr.fieldAt 71 (.pointer (some ad)) 0).run Try.prog w = .ok (.pointer (some (ad.add 0))) w := by cases ad; kernel_rfl
theorem fa_71_1 (ad : Addr) (w : World) : (Instr.fieldAt 71 (.pointer (some ad)) 1).run Try.prog w = .ok (.pointer (some (ad.add 1))) w := by cases ad; kernel_rfl
theorem fa_85_0 (ad : Addr) (w : World) : (Instr.fieldAt 85 (.pointer (some ad)) 0).run Try.prog w = .ok (.pointer (some (ad.add 0))) w := by cases ad; kernel_rfl
theorem fa_85_1 (ad : Addr) (w : World) : (Instr.fieldAt 85 (.pointer (some ad)) 1).run Try.prog w = .ok (.pointer (some (ad.add 1))) w := by cases ad; kernel_rfl
theorem fa_85_2 (ad : Addr) (w : World) : (Instr.fieldAt 85 (.pointer (some ad)) 2).run Try.prog w = .ok (.pointer (some (ad.add 2))) w := by cases ad; kernel_rfl
theorem bd_25_1_2 (x1 : Int) (x2 : Int) {w : World} : (Instr.build 25 #[(1, .int .i64 x1), (2, .int .i64 x2)]).run Try.prog w = .ok (.agg #[.int .i64 0, .int .i64 x1, .int .i64 x2]) w := by kernel_rfl
theorem bd_27_0_1 (x1 : Int) (x2 : Int) {w : World} : (Instr.build 27 #[(0, .int .i64 x1), (1, .int .i64 x2)]).run Try.prog w = .ok (.agg #[.int .i64 x1, .int .i64 x2]) w := by kernel_rfl
theorem bd_29_1_2 (x1 : Int) (x2 : Int) (x3 : Int) (x4 : Int) {w : World} : (Instr.build 29 #[(1, .agg #[.int .i64 x1, .int .i64 x2]), (2, .agg #[.int .i64 x3, .int .i64 x4])]).run Try.prog w = .ok (.agg #[.int .i64 0, .int .i64 x1, .int .i64 x2, .int .i64 x3, .int .i64 x4]) w := by kernel_rfl
theorem bd_62_  {w : World} : (Instr.build 62 #[]).run Try.prog w = .ok (.agg #[.int .i64 0, .int .i64 0]) w := by kernel_rfl
theorem bd_62_0_1 (x1 : Int) (x2 : Int) {w : World} : (Instr.build 62 #[(0, .int .i64 x1), (1, .int .i64 x2)]).run Try.prog w = .ok (.agg #[.int .i64 x1, .int .i64 x2]) w := by kernel_rfl
theorem bd_71_  {w : World} : (Instr.build 71 #[]).run Try.prog w = .ok (.agg #[.int .i64 0, .int .i64 0]) w := by kernel_rfl
theorem bd_71_0_1 (x1 : Int) (x2 : Int) {w : World} : (Instr.build 71 #[(0, .int .i64 x1), (1, .int .i64 x2)]).run Try.prog w = .ok (.agg #[.int .i64 x1, .int .i64 x2]) w := by kernel_rfl
theorem bd_80_  {w : World} : (Instr.build 80 #[]).run Try.prog w = .ok (.agg #[]) w := by kernel_rfl
theorem bd_85_0_1 (x1a : Option Addr) (x1n x1c : Nat) (x2a : Option Addr) (x2n x2c : Nat) {w : World} : (Instr.build 85 #[(0, .slice x1a x1n x1c), (1, .slice x2a x2n x2c)]).run Try.prog w = .ok (.agg #[.slice x1a x1n x1c, .slice x2a x2n x2c, .slice none 0 0]) w := by kernel_rfl
theorem bs_22_0_  {w : World} : (Instr.buildSlice 22 0 #[]).run Try.prog w = .ok (.slice (some ⟨w.heap.size, 0, none⟩) 0 0) (w.alloc (.cells [].toArray 25)) := by kernel_rfl
theorem bs_22_1_0 (x1 : Int) (x2 : Int) (x3 : Int) {w : World} : (Instr.buildSlice 22 1 #[(0, .agg #[.int .i64 x1, .int .i64 x2, .int .i64 x3])]).run Try.prog w = .ok (.slice (some ⟨w.heap.size, 0, none⟩) 1 1) (w.alloc (.cells [.int .i64 x1, .int .i64 x2, .int .i64 x3].toArray 25)) := by kernel_rfl
theorem bs_22_2_0_1 (x1 : Int) (x2 : Int) (x3 : Int) (x4 : Int) (x5 : Int) (x6 : Int) {w : World} : (Instr.buildSlice 22 2 #[(0, .agg #[.int .i64 x1, .int .i64 x2, .int .i64 x3]), (1, .agg #[.int .i64 x4, .int .i64 x5, .int .i64 x6])]).run Try.prog w = .ok (.slice (some ⟨w.heap.size, 0, none⟩) 2 2) (w.alloc (.cells [.int .i64 x1, .int .i64 x2, .int .i64 x3, .int .i64 x4, .int .i64 x5, .int .i64 x6].toArray 25)) := by kernel_rfl
theorem bs_23_0_  {w : World} : (Instr.buildSlice 23 0 #[]).run Try.prog w = .ok (.slice (some ⟨w.heap.size, 0, none⟩) 0 0) (w.alloc (.cells [].toArray 29)) := by kernel_rfl
theorem bs_23_2_0_1 (x1 : Int) (x2 : Int) (x3 : Int) (x4 : Int) (x5 : Int) (x6 : Int) (x7 : Int) (x8 : Int) (x9 : Int) (x10 : Int) {w : World} : (Instr.buildSlice 23 2 #[(0, .agg #[.int .i64 x1, .int .i64 x2, .int .i64 x3, .int .i64 x4, .int .i64 x5]), (1, .agg #[.int .i64 x6, .int .i64 x7, .int .i64 x8, .int .i64 x9, .int .i64 x10])]).run Try.prog w = .ok (.slice (some ⟨w.heap.size, 0, none⟩) 2 2) (w.alloc (.cells [.int .i64 x1, .int .i64 x2, .int .i64 x3, .int .i64 x4, .int .i64 x5, .int .i64 x6, .int .i64 x7, .int .i64 x8, .int .i64 x9, .int .i64 x10].toArray 29)) := by kernel_rfl
theorem bs_39_1_0 (x1 : Int) {w : World} : (Instr.buildSlice 39 1 #[(0, .int .i64 x1)]).run Try.prog w = .ok (.slice (some ⟨w.heap.size, 0, none⟩) 1 1) (w.alloc (.cells [.int .i64 x1].toArray 3)) := by kernel_rfl
theorem bs_39_2_0_1 (x1 : Int) (x2 : Int) {w : World} : (Instr.buildSlice 39 2 #[(0, .int .i64 x1), (1, .int .i64 x2)]).run Try.prog w = .ok (.slice (some ⟨w.heap.size, 0, none⟩) 2 2) (w.alloc (.cells [.int .i64 x1, .int .i64 x2].toArray 3)) := by kernel_rfl
theorem bs_59_1_0 (x1a : Option Addr) (x1n x1c : Nat) {w : World} : (Instr.buildSlice 59 1 #[(0, .slice x1a x1n x1c)]).run Try.prog w = .ok (.slice (some ⟨w.heap.size, 0, none⟩) 1 1) (w.alloc (.cells [.slice x1a x1n x1c].toArray 65)) := by kernel_rfl
theorem bs_65_1_0 (x1 : Int) (x2 : Int) {w : World} : (Instr.buildSlice 65 1 #[(0, .agg #[.int .i64 x1, .int .i64 x2])]).run Try.prog w = .ok (.slice (some ⟨w.heap.size, 0, none⟩) 1 1) (w.alloc (.cells [.int .i64 x1, .int .i64 x2].toArray 62)) := by kernel_rfl
theorem bs_83_1_0 (x1 : Option Nat) {w : World} : (Instr.buildSlice 83 1 #[(0, .map x1)]).run Try.prog w = .ok (.slice (some ⟨w.heap.size, 0, none⟩) 1 1) (w.alloc (.cells [.map x1].toArray 86)) := by kernel_rfl
theorem fd_71_0 (x1 : Int) (x2 : Int) (w : World) : (Instr.field 71 (.agg #[.int .i64 x1, .int .i64 x2]) 0).run Try.prog w = .ok (.int .i64 x1) w := by kernel_rfl
end Go.Proofs.Yteiopfefmphhaaa

set_option autoImplicit false
set_option linter.unusedVariables false
namespace Go.Proofs.Yteiopfefmphhaaa
open Go.Gv
open Go.RowKit
namespace Iv
/-! pipes and wishes -/
structure Pipe where
  kind : Int
  d : Int
  len : Int
  deriving Inhabited
structure Wish where
  kind : Int
  d0 : Int
  d1 : Int
  l0 : Int
  l1 : Int
  deriving Inhabited
def Pipe.cells (p : Pipe) : List Value := [.int .i64 p.kind, .int .i64 p.d, .int .i64 p.len]
def Wish.cells (x : Wish) : List Value := [.int .i64 x.kind, .int .i64 x.d0, .int .i64 x.d1, .int .i64 x.l0, .int .i64 x.l1]
abbrev Pipe.val (p : Pipe) : Value := .agg #[.int .i64 p.kind, .int .i64 p.d, .int .i64 p.len]
abbrev Wish.val (x : Wish) : Value := .agg #[.int .i64 x.kind, .int .i64 x.d0, .int .i64 x.d1, .int .i64 x.l0, .int .i64 x.l1]
def sizedB (a b : Int) : Bool := decide (1 ≤ a) && decide (a ≤ b) && decide (b ≤ 12000000)
def pipedB (p : Pipe) : Bool := decide (0 ≤ p.kind) && decide (p.kind < 20) && decide (1 ≤ p.d) && decide (p.d ≤ 12000000) && decide (1 ≤ p.len) && decide (p.len ≤ 12000000)
def wishedB (x : Wish) : Bool := decide (0 ≤ x.kind) && decide (x.kind < 20) && sizedB x.d0 x.d1 && sizedB x.l0 x.l1
structure Pipe.Ok (p : Pipe) : Prop where
  k0 : 0 ≤ p.kind
  k1 : p.kind < 20
  d0 : 1 ≤ p.d
  d1 : p.d ≤ 12000000
  l0 : 1 ≤ p.len
  l1 : p.len ≤ 12000000
structure Wish.Ok (x : Wish) : Prop where
  k0 : 0 ≤ x.kind
  k1 : x.kind < 20
  d0 : 1 ≤ x.d0
  d01 : x.d0 ≤ x.d1
  d1 : x.d1 ≤ 12000000
  l0 : 1 ≤ x.l0
  l01 : x.l0 ≤ x.l1
  l1 : x.l1 ≤ 12000000
theorem pipedB_iff (p : Pipe) : pipedB p = true ↔ p.Ok := by
  unfold pipedB
  simp only [Bool.and_eq_true, decide_eq_true_eq]
  exact ⟨fun ⟨⟨⟨⟨⟨a, b⟩, c⟩, d⟩, e⟩, f⟩ => ⟨a, b, c, d, e, f⟩, fun h => ⟨⟨⟨⟨⟨h.k0, h.k1⟩, h.d0⟩, h.d1⟩, h.l0⟩, h.l1⟩⟩
theorem wishedB_iff (x : Wish) : wishedB x = true ↔ x.Ok := by
  unfold wishedB sizedB
  simp only [Bool.and_eq_true, decide_eq_true_eq]
  exact ⟨fun ⟨⟨⟨a, b⟩, ⟨c, d⟩, e⟩, ⟨f, g⟩, h⟩ => ⟨a, b, c, d, e, f, g, h⟩, fun h => ⟨⟨⟨h.k0, h.k1⟩, ⟨h.d0, h.d01⟩, h.d1⟩, ⟨h.l0, h.l01⟩, h.l1⟩⟩
/-- how far a diameter is off -/
def off (p : Pipe) (x : Wish) : Int := max (max (x.d0 - p.d) (p.d - x.d1)) 0
def fits (p : Pipe) (x : Wish) : Bool := decide (p.kind = x.kind) && decide (x.l0 ≤ p.len) && decide (off p x ≤ 20000)
def cost (p : Pipe) (x : Wish) : Int := max (p.len - x.l1) 0 + 10 * off p x
def fitP (p : Pipe) (x : Wish) : Int × Bool := if fits p x then (cost p x, true) else (0, false)
def rfitP (p : Pipe) (x : Wish) : Int := if fits p x then cost p x else -1
theorem cost_nn (p : Pipe) (x : Wish) : 0 ≤ cost p x := by unfold cost off; omega
theorem cost_le {p : Pipe} {x : Wish} (hp : p.Ok) (hx : x.Ok) (h : fits p x = true) : cost p x ≤ 12200000 := by
  unfold fits at h
  simp only [Bool.and_eq_true, decide_eq_true_eq] at h
  have := hp.l1
  have := hx.l0
  have := hx.l01
  unfold cost; omega
def checkP (l : List Pipe) (w : List Wish) : Int := if 40 < l.length ∨ 20 < w.length then 3 else if l.all pipedB && w.all wishedB then 0 else 2
structure Dat (l : List Pipe) (w : List Wish) : Prop where
  ln : l.length ≤ 40
  wn : w.length ≤ 20
  p : ∀ p ∈ l, p.Ok
  w : ∀ x ∈ w, x.Ok
theorem checkP_ok {l : List Pipe} {w : List Wish} (h : checkP l w = 0) : Dat l w := by
  unfold checkP at h
  split at h
  · omega
  · split at h
    · rename_i h1 h2
      simp only [Bool.and_eq_true, List.all_eq_true] at h2
      exact ⟨by omega, by omega, fun p hp => (pipedB_iff p).1 (h2.1 p hp), fun x hx => (wishedB_iff x).1 (h2.2 x hx)⟩
    · omega
/-- the first place where p holds -/
def idx {α : Type} (p : α → Bool) : List α → Nat → Int
  | [], _ => -1
  | x :: xs, k => if p x then k else idx p xs (k + 1)
theorem idx_stop {α : Type} (p : α → Bool) (d : α) : ∀ (xs : List α) (b k : Nat), k < xs.length → (∀ j, j < k → p (xs.getD j d) = false) → p (xs.getD k d) = true → idx p xs b = ((b + k : Nat) : Int)
  | [], _, k, h, _, _ => by simp at h
  | x :: xs, b, 0, _, _, h2 => by simp at h2; simp [idx, h2]
  | x :: xs, b, k + 1, h, h1, h2 => by
    have h0 : p x = false := by simpa using h1 0 (by omega)
    have := idx_stop p d xs (b + 1) k (by simpa using h) (fun j hj => by simpa using h1 (j + 1) (by omega)) (by simpa using h2)
    simp only [idx, h0, this]
    simp; omega
theorem idx_none {α : Type} (p : α → Bool) (d : α) : ∀ (xs : List α) (b : Nat), (∀ j, j < xs.length → p (xs.getD j d) = false) → idx p xs b = -1
  | [], _, _ => rfl
  | x :: xs, b, h => by
    have h0 : p x = false := by simpa using h 0 (by simp)
    have := idx_none p d xs (b + 1) (fun j hj => by simpa using h (j + 1) (by simpa using hj))
    simp only [idx, h0, this]; simp
theorem idx_any {α : Type} (p : α → Bool) : ∀ (xs : List α) (b : Nat), decide (0 ≤ idx p xs b) = xs.any p
  | [], _ => rfl
  | x :: xs, b => by
    by_cases h : p x = true
    · simp [idx, h]
    · simp only [idx, List.any_cons, if_neg h]
      rw [idx_any p xs (b + 1)]; simp [h]
end Iv
end Go.Proofs.Yteiopfefmphhaaa

set_option autoImplicit false
set_option linter.unusedVariables false
namespace Go.Proofs.Yteiopfefmphhaaa
open Go.Gv
open Go.RowKit
open Iv
def Iv.FitP (p : Pipe) (x : Wish) : Int × Bool × Int := if pipedB p = true ∧ wishedB x = true then ((fitP p x).1, (fitP p x).2, 0) else (0, false, 2)
theorem Iv.rfit_max (p : Pipe) (x : Wish) : max (rfitP p x) 0 = (fitP p x).1 ∧ decide (0 ≤ rfitP p x) = (fitP p x).2 := by
  have := cost_nn p x
  unfold rfitP fitP
  split
  · exact ⟨by simp only; omega, by simpa using this⟩
  · exact ⟨rfl, rfl⟩
set_option maxRecDepth 100000 in
set_option maxHeartbeats 1000000 in
theorem sized_ok (a b : Int) (w0 : World) : Sp Try.prog 37 [.agg #[.int .i64 a, .int .i64 b]] w0 [] (RV (.bool (sizedB a b))) := by
  refine spec_enter Try.func37 rfl Try.ntmps37 rfl (Own.refl _) ?_
  simp only [argEnv]
  refine gc_seq ?_
  refine gc_region ?_
  refine gl_op (op_box rfl rfl rfl (fun b1 => ?_))
  refine gl_op (op_rd rfl (rd_assign rfl) ?_)
  refine gl_nil ?_
  refine gx_then ?_
  refine gc_seq ?_
  refine gc_region ?_
  refine gl_op (op_rd rfl (rd_fieldAddr rfl (fa_27_0 _)) ?_)
  refine gl_op (op_rd rfl (rd_load Try.underlying2 rfl rfl (by first | exact ld_blk 0 rfl rfl | exact ld_slN (by assumption) (get_nats (by omega)) | exact ld_slN (by assumption) (get_ints (by omega)) | exact ld_old (by assumption) (by simp) | exact ld_cells (by assumption) (by simp) rfl)) ?_)
  refine gl_op (op_rd rfl (rd_geq rfl rfl) (gk_dec (fun h1 => ?_) (fun h1 => ?_)))
  · skip
    refine gl_op (op_rd rfl (rd_move rfl) ?_)
    refine gl_yes rfl rfl (op_rd rfl (rd_fieldAddr rfl (fa_27_0 _)) ?_)
    refine gl_yes rfl rfl (op_rd rfl (rd_load Try.underlying2 rfl rfl (by first | exact ld_blk 0 rfl rfl | exact ld_slN (by assumption) (get_nats (by omega)) | exact ld_slN (by assumption) (get_ints (by omega)) | exact ld_old (by assumption) (by simp) | exact ld_cells (by assumption) (by simp) rfl)) ?_)
    refine gl_yes rfl rfl (op_rd rfl (rd_fieldAddr rfl (fa_27_1 _)) ?_)
    refine gl_yes rfl rfl (op_rd rfl (rd_load Try.underlying2 rfl rfl (by first | exact ld_blk 0 rfl rfl | exact ld_slN (by assumption) (get_nats (by omega)) | exact ld_slN (by assumption) (get_ints (by omega)) | exact ld_old (by assumption) (by simp) | exact ld_cells (by assumption) (by simp) rfl)) ?_)
    refine gl_yes rfl rfl (op_rd rfl (rd_leq rfl rfl) (gk_dec (fun h2 => ?_) (fun h2 => ?_)))
    · skip
      refine gl_op (op_rd rfl (rd_pick_t rfl rfl) ?_)
      refine gl_op (op_rd rfl (rd_move rfl) ?_)
      refine gl_yes rfl rfl (op_rd rfl (rd_fieldAddr rfl (fa_27_1 _)) ?_)
      refine gl_yes rfl rfl (op_rd rfl (rd_load Try.underlying2 rfl rfl (by first | exact ld_blk 0 rfl rfl | exact ld_slN (by assumption) (get_nats (by omega)) | exact ld_slN (by assumption) (get_ints (by omega)) | exact ld_old (by assumption) (by simp) | exact ld_cells (by assumption) (by simp) rfl)) ?_)
      refine gl_yes rfl rfl (op_rd rfl (rd_leq rfl rfl) ?_)
      refine gl_op (op_rd rfl (rd_pick_t rfl rfl) ?_)
      refine gl_op (op_rd rfl (rd_assign rfl) ?_)
      refine gl_nil ?_
      refine gx_then ?_
      refine gc_ret ?_
      refine gx_ret1 (.inl rfl) Try.results37 rfl [] (by decide) ?_
      refine ⟨?_, rfl⟩
      simp [sizedB, *]
    · skip
      refine gl_op (op_rd rfl (rd_pick_t rfl rfl) ?_)
      refine gl_op (op_rd rfl (rd_move rfl) ?_)
      refine gl_no rfl rfl rfl ?_
      refine gl_no rfl rfl rfl ?_
      refine gl_no rfl rfl rfl ?_
      refine gl_op (op_rd rfl (rd_pick_f rfl rfl) ?_)
      refine gl_op (op_rd rfl (rd_assign rfl) ?_)
      refine gl_nil ?_
      refine gx_then ?_
      refine gc_ret ?_
      refine gx_ret1 (.inl rfl) Try.results37 rfl [] (by decide) ?_
      refine ⟨?_, rfl⟩
      simp [sizedB, *]
  · skip
    refine gl_op (op_rd rfl (rd_move rfl) ?_)
    refine gl_no rfl rfl rfl ?_
    refine gl_no rfl rfl rfl ?_
    refine gl_no rfl rfl rfl ?_
    refine gl_no rfl rfl rfl ?_
    refine gl_no rfl rfl rfl ?_
    refine gl_op (op_rd rfl (rd_pick_f rfl rfl) ?_)
    refine gl_op (op_rd rfl (rd_move rfl) ?_)
    refine gl_no rfl rfl rfl ?_
    refine gl_no rfl rfl rfl ?_
    refine gl_no rfl rfl rfl ?_
    refine gl_op (op_rd rfl (rd_pick_f rfl rfl) ?_)
    refine gl_op (op_rd rfl (rd_assign rfl) ?_)
    refine gl_nil ?_
    refine gx_then ?_
    refine gc_ret ?_
    refine gx_ret1 (.inl rfl) Try.results37 rfl [] (by decide) ?_
    refine ⟨?_, rfl⟩
    simp [sizedB, *]

set_option maxRecDepth 100000 in
set_option maxHeartbeats 1000000 in
theorem rsize_ok (a : Int) (w0 : World) : Sp Try.prog 38 [.int .i64 a] w0 [] (RV (.bool (decide (1 ≤ a) && decide (a ≤ 12000000)))) := by
  refine spec_enter Try.func38 rfl Try.ntmps38 rfl (Own.refl _) ?_
  simp only [argEnv]
  refine gc_seq ?_
  refine gc_region ?_
  refine gl_op (op_rd rfl (rd_assign rfl) ?_)
  refine gl_nil ?_
  refine gx_then ?_
  refine gc_seq ?_
  refine gc_region ?_
  refine gl_op (op_rd rfl (rd_move rfl) ?_)
  refine gl_op (op_rd rfl (rd_geq rfl rfl) (gk_dec (fun h1 => ?_) (fun h1 => ?_)))
  · skip
    refine gl_op (op_rd rfl (rd_move rfl) ?_)
    refine gl_yes rfl rfl (op_rd rfl (rd_move rfl) ?_)
    refine gl_yes rfl rfl (op_rd rfl (rd_leq rfl rfl) ?_)
    refine gl_op (op_rd rfl (rd_pick_t rfl rfl) ?_)
    refine gl_op (op_rd rfl (rd_assign rfl) ?_)
    refine gl_nil ?_
    refine gx_then ?_
    refine gc_ret ?_
    refine gx_ret1 (.inl rfl) Try.results38 rfl [] (by decide) ?_
    refine ⟨?_, rfl⟩
    simp [*]
  · skip
    refine gl_op (op_rd rfl (rd_move rfl) ?_)
    refine gl_no rfl rfl rfl ?_
    refine gl_no rfl rfl rfl ?_
    refine gl_op (op_rd rfl (rd_pick_f rfl rfl) ?_)
    refine gl_op (op_rd rfl (rd_assign rfl) ?_)
    refine gl_nil ?_
    refine gx_then ?_
    refine gc_ret ?_
    refine gx_ret1 (.inl rfl) Try.results38 rfl [] (by decide) ?_
    refine ⟨?_, rfl⟩
    simp [*]

set_option maxRecDepth 100000 in
set_option maxHeartbeats 1000000 in
theorem piped_ok (p : Pipe) (w0 : World) : Sp Try.prog 21 [p.val] w0 [] (RV (.bool (pipedB p))) := by
  refine spec_enter Try.func21 rfl Try.ntmps21 rfl (Own.refl _) ?_
  simp only [argEnv]
  refine gc_seq ?_
  refine gc_region ?_
  refine gl_op (op_box rfl rfl rfl (fun b1 => ?_))
  refine gl_op (op_rd rfl (rd_assign rfl) ?_)
  refine gl_nil ?_
  refine gx_then ?_
  refine gc_seq ?_
  refine gc_region ?_
  refine gl_op (op_rd rfl (rd_fieldAddr rfl (fa_25_0 _)) ?_)
  refine gl_op (op_rd rfl (rd_load Try.underlying3 rfl rfl (by first | exact ld_blk 0 rfl rfl | exact ld_slN (by assumption) (get_nats (by omega)) | exact ld_slN (by assumption) (get_ints (by omega)) | exact ld_old (by assumption) (by simp) | exact ld_cells (by assumption) (by simp) rfl)) ?_)
  refine gl_op (op_rd rfl (rd_geq rfl rfl) (gk_dec (fun h1 => ?_) (fun h1 => ?_)))
  · skip
    refine gl_op (op_rd rfl (rd_move rfl) ?_)
    refine gl_yes rfl rfl (op_rd rfl (rd_fieldAddr rfl (fa_25_0 _)) ?_)
    refine gl_yes rfl rfl (op_rd rfl (rd_load Try.underlying3 rfl rfl (by first | exact ld_blk 0 rfl rfl | exact ld_slN (by assumption) (get_nats (by omega)) | exact ld_slN (by assumption) (get_ints (by omega)) | exact ld_old (by assumption) (by simp) | exact ld_cells (by assumption) (by simp) rfl)) ?_)
    refine gl_yes rfl rfl (op_rd rfl (rd_lss rfl rfl) (gk_dec (fun h2 => ?_) (fun h2 => ?_)))
    · skip
      refine gl_op (op_rd rfl (rd_pick_t rfl rfl) ?_)
      refine gl_op (op_rd rfl (rd_move rfl) ?_)
      refine gl_yes rfl rfl (op_rd rfl (rd_fieldAddr rfl (fa_25_1 _)) ?_)
      refine gl_yes rfl rfl (op_rd rfl (rd_load Try.underlying2 rfl rfl (by first | exact ld_blk 0 rfl rfl | exact ld_slN (by assumption) (get_nats (by omega)) | exact ld_slN (by assumption) (get_ints (by omega)) | exact ld_old (by assumption) (by simp) | exact ld_cells (by assumption) (by simp) rfl)) ?_)
      refine gl_yes rfl rfl (op_rd rfl (rd_fieldAddr rfl (fa_25_1 _)) ?_)
      refine gl_yes rfl rfl (op_rd rfl (rd_load Try.underlying2 rfl rfl (by first | exact ld_blk 0 rfl rfl | exact ld_slN (by assumption) (get_nats (by omega)) | exact ld_slN (by assumption) (get_ints (by omega)) | exact ld_old (by assumption) (by simp) | exact ld_cells (by assumption) (by simp) rfl)) ?_)
      refine gl_yes rfl rfl (op_rd rfl (rd_build rfl (fun _ => bd_27_0_1 _ _)) ?_)
      refine gl_yes rfl rfl (op_call rfl (vf := []) (vc := []) rfl rfl Try.call37 (fun w ho => sized_ok _ _ w) ?_)
      rintro _ _ ⟨rfl, rfl⟩
      refine gk_bool (fun h3 => ?_) (fun h3 => ?_)
      · skip
        refine gl_op (op_rd rfl (rd_pick_t rfl rfl) ?_)
        refine gl_op (op_rd rfl (rd_move rfl) ?_)
        refine gl_yes rfl rfl (op_rd rfl (rd_fieldAddr rfl (fa_25_2 _)) ?_)
        refine gl_yes rfl rfl (op_rd rfl (rd_load Try.underlying2 rfl rfl (by first | exact ld_blk 0 rfl rfl | exact ld_slN (by assumption) (get_nats (by omega)) | exact ld_slN (by assumption) (get_ints (by omega)) | exact ld_old (by assumption) (by simp) | exact ld_cells (by assumption) (by simp) rfl)) ?_)
        refine gl_yes rfl rfl (op_rd rfl (rd_fieldAddr rfl (fa_25_2 _)) ?_)
        refine gl_yes rfl rfl (op_rd rfl (rd_load Try.underlying2 rfl rfl (by first | exact ld_blk 0 rfl rfl | exact ld_slN (by assumption) (get_nats (by omega)) | exact ld_slN (by assumption) (get_ints (by omega)) | exact ld_old (by assumption) (by simp) | exact ld_cells (by assumption) (by simp) rfl)) ?_)
        refine gl_yes rfl rfl (op_rd rfl (rd_build rfl (fun _ => bd_27_0_1 _ _)) ?_)
        refine gl_yes rfl rfl (op_call rfl (vf := []) (vc := []) rfl rfl Try.call37 (fun w ho => sized_ok _ _ w) ?_)
        rintro _ _ ⟨rfl, rfl⟩
        refine gl_op (op_rd rfl (rd_pick_t rfl rfl) ?_)
        refine gl_op (op_rd rfl (rd_assign rfl) ?_)
        refine gl_nil ?_
        refine gx_then ?_
        refine gc_ret ?_
        refine gx_ret1 (.inl rfl) Try.results21 rfl [] (by decide) ?_
        refine ⟨?_, rfl⟩
        simp [sizedB, pipedB, *] at *
        try (rw [Bool.eq_iff_iff]; simp; omega)
        try omega
      · skip
        refine gl_op (op_rd rfl (rd_pick_t rfl rfl) ?_)
        refine gl_op (op_rd rfl (rd_move rfl) ?_)
        refine gl_no rfl rfl rfl ?_
        refine gl_no rfl rfl rfl ?_
        refine gl_no rfl rfl rfl ?_
        refine gl_no rfl rfl rfl ?_
        refine gl_no rfl rfl rfl ?_
        refine gl_no rfl rfl rfl ?_
        refine gl_op (op_rd rfl (rd_pick_f rfl rfl) ?_)
        refine gl_op (op_rd rfl (rd_assign rfl) ?_)
        refine gl_nil ?_
        refine gx_then ?_
        refine gc_ret ?_
        refine gx_ret1 (.inl rfl) Try.results21 rfl [] (by decide) ?_
        refine ⟨?_, rfl⟩
        simp [sizedB, pipedB, *] at *
        try (rw [Bool.eq_iff_iff]; simp; omega)
        try omega
    · skip
      refine gl_op (op_rd rfl (rd_pick_t rfl rfl) ?_)
      refine gl_op (op_rd rfl (rd_move rfl) ?_)
      refine gl_no rfl rfl rfl ?_
      refine gl_no rfl rfl rfl ?_
      refine gl_no rfl rfl rfl ?_
      refine gl_no rfl rfl rfl ?_
      refine gl_no rfl rfl rfl ?_
      refine gl_no rfl rfl rfl ?_
      refine gl_op (op_rd rfl (rd_pick_f rfl rfl) ?_)
      refine gl_op (op_rd rfl (rd_move rfl) ?_)
      refine gl_no rfl rfl rfl ?_
      refine gl_no rfl rfl rfl ?_
      refine gl_no rfl rfl rfl ?_
      refine gl_no rfl rfl rfl ?_
      refine gl_no rfl rfl rfl ?_
      refine gl_no rfl rfl rfl ?_
      refine gl_op (op_rd rfl (rd_pick_f rfl rfl) ?_)
      refine gl_op (op_rd rfl (rd_assign rfl) ?_)
      refine gl_nil ?_
      refine gx_then ?_
      refine gc_ret ?_
      refine gx_ret1 (.inl rfl) Try.results21 rfl [] (by decide) ?_
      refine ⟨?_, rfl⟩
      simp [sizedB, pipedB, *] at *
      try (rw [Bool.eq_iff_iff]; simp; omega)
      try omega
  · skip
    refine gl_op (op_rd rfl (rd_move rfl) ?_)
    refine gl_no rfl rfl rfl ?_
    refine gl_no rfl rfl rfl ?_
    refine gl_no rfl rfl rfl ?_
    refine gl_op (op_rd rfl (rd_pick_f rfl rfl) ?_)
    refine gl_op (op_rd rfl (rd_move rfl) ?_)
    refine gl_no rfl rfl rfl ?_
    refine gl_no rfl rfl rfl ?_
    refine gl_no rfl rfl rfl ?_
    refine gl_no rfl rfl rfl ?_
    refine gl_no rfl rfl rfl ?_
    refine gl_no rfl rfl rfl ?_
    refine gl_op (op_rd rfl (rd_pick_f rfl rfl) ?_)
    refine gl_op (op_rd rfl (rd_move rfl) ?_)
    refine gl_no rfl rfl rfl ?_
    refine gl_no rfl rfl rfl ?_
    refine gl_no rfl rfl rfl ?_
    refine gl_no rfl rfl rfl ?_
    refine gl_no rfl rfl rfl ?_
    refine gl_no rfl rfl rfl ?_
    refine gl_op (op_rd rfl (rd_pick_f rfl rfl) ?_)
    refine gl_op (op_rd rfl (rd_assign rfl) ?_)
    refine gl_nil ?_
    refine gx_then ?_
    refine gc_ret ?_
    refine gx_ret1 (.inl rfl) Try.results21 rfl [] (by decide) ?_
    refine ⟨?_, rfl⟩
    simp [sizedB, pipedB, *] at *
    try (rw [Bool.eq_iff_iff]; simp; omega)
    try omega

set_option maxRecDepth 100000 in
set_option maxHeartbeats 1000000 in
theorem wished_ok (x : Wish) (w0 : World) : Sp Try.prog 22 [x.val] w0 [] (RV (.bool (wishedB x))) := by
  refine spec_enter Try.func22 rfl Try.ntmps22 rfl (Own.refl _) ?_
  simp only [argEnv]
  refine gc_seq ?_
  refine gc_region ?_
  refine gl_op (op_box rfl rfl rfl (fun b1 => ?_))
  refine gl_op (op_rd rfl (rd_assign rfl) ?_)
  refine gl_nil ?_
  refine gx_then ?_
  refine gc_seq ?_
  refine gc_region ?_
  refine gl_op (op_rd rfl (rd_fieldAddr rfl (fa_29_0 _)) ?_)
  refine gl_op (op_rd rfl (rd_load Try.underlying3 rfl rfl (by first | exact ld_blk 0 rfl rfl | exact ld_slN (by assumption) (get_nats (by omega)) | exact ld_slN (by assumption) (get_ints (by omega)) | exact ld_old (by assumption) (by simp) | exact ld_cells (by assumption) (by simp) rfl)) ?_)
  refine gl_op (op_rd rfl (rd_geq rfl rfl) (gk_dec (fun h1 => ?_) (fun h1 => ?_)))
  · skip
    refine gl_op (op_rd rfl (rd_move rfl) ?_)
    refine gl_yes rfl rfl (op_rd rfl (rd_fieldAddr rfl (fa_29_0 _)) ?_)
    refine gl_yes rfl rfl (op_rd rfl (rd_load Try.underlying3 rfl rfl (by first | exact ld_blk 0 rfl rfl | exact ld_slN (by assumption) (get_nats (by omega)) | exact ld_slN (by assumption) (get_ints (by omega)) | exact ld_old (by assumption) (by simp) | exact ld_cells (by assumption) (by simp) rfl)) ?_)
    refine gl_yes rfl rfl (op_rd rfl (rd_lss rfl rfl) (gk_dec (fun h2 => ?_) (fun h2 => ?_)))
    · skip
      refine gl_op (op_rd rfl (rd_pick_t rfl rfl) ?_)
      refine gl_op (op_rd rfl (rd_move rfl) ?_)
      refine gl_yes rfl rfl (op_rd rfl (rd_fieldAddr rfl (fa_29_1 _)) ?_)
      refine gl_yes rfl rfl (op_rd rfl (rd_loadAgg Try.underlying27 rfl ty_27 rfl (cs_blk 0 (off := 1) (k := 2) rfl rfl) rfl) ?_)
      refine gl_yes rfl rfl (op_call rfl (vf := []) (vc := []) rfl rfl Try.call37 (fun w ho => sized_ok x.d0 x.d1 w) ?_)
      rintro _ _ ⟨rfl, rfl⟩
      refine gk_bool (fun h3 => ?_) (fun h3 => ?_)
      · skip
        refine gl_op (op_rd rfl (rd_pick_t rfl rfl) ?_)
        refine gl_op (op_rd rfl (rd_move rfl) ?_)
        refine gl_yes rfl rfl (op_rd rfl (rd_fieldAddr rfl (fa_29_2 _)) ?_)
        refine gl_yes rfl rfl (op_rd rfl (rd_loadAgg Try.underlying27 rfl ty_27 rfl (cs_blk 0 (off := 3) (k := 2) rfl rfl) rfl) ?_)
        refine gl_yes rfl rfl (op_call rfl (vf := []) (vc := []) rfl rfl Try.call37 (fun w ho => sized_ok x.l0 x.l1 w) ?_)
        rintro _ _ ⟨rfl, rfl⟩
        refine gl_op (op_rd rfl (rd_pick_t rfl rfl) ?_)
        refine gl_op (op_rd rfl (rd_assign rfl) ?_)
        refine gl_nil ?_
        refine gx_then ?_
        refine gc_ret ?_
        refine gx_ret1 (.inl rfl) Try.results22 rfl [] (by decide) ?_
        refine ⟨?_, rfl⟩
        simp [wishedB, *]
      · skip
        refine gl_op (op_rd rfl (rd_pick_t rfl rfl) ?_)
        refine gl_op (op_rd rfl (rd_move rfl) ?_)
        refine gl_no rfl rfl rfl ?_
        refine gl_no rfl rfl rfl ?_
        refine gl_no rfl rfl rfl ?_
        refine gl_op (op_rd rfl (rd_pick_f rfl rfl) ?_)
        refine gl_op (op_rd rfl (rd_assign rfl) ?_)
        refine gl_nil ?_
        refine gx_then ?_
        refine gc_ret ?_
        refine gx_ret1 (.inl rfl) Try.results22 rfl [] (by decide) ?_
        refine ⟨?_, rfl⟩
        simp [wishedB, *]
    · skip
      refine gl_op (op_rd rfl (rd_pick_t rfl rfl) ?_)
      refine gl_op (op_rd rfl (rd_move rfl) ?_)
      refine gl_no rfl rfl rfl ?_
      refine gl_no rfl rfl rfl ?_
      refine gl_no rfl rfl rfl ?_
      refine gl_op (op_rd rfl (rd_pick_f rfl rfl) ?_)
      refine gl_op (op_rd rfl (rd_move rfl) ?_)
      refine gl_no rfl rfl rfl ?_
      refine gl_no rfl rfl rfl ?_
      refine gl_no rfl rfl rfl ?_
      refine gl_op (op_rd rfl (rd_pick_f rfl rfl) ?_)
      refine gl_op (op_rd rfl (rd_assign rfl) ?_)
      refine gl_nil ?_
      refine gx_then ?_
      refine gc_ret ?_
      refine gx_ret1 (.inl rfl) Try.results22 rfl [] (by decide) ?_
      refine ⟨?_, rfl⟩
      simp [wishedB, *]
  · skip
    refine gl_op (op_rd rfl (rd_move rfl) ?_)
    refine gl_no rfl rfl rfl ?_
    refine gl_no rfl rfl rfl ?_
    refine gl_no rfl rfl rfl ?_
    refine gl_op (op_rd rfl (rd_pick_f rfl rfl) ?_)
    refine gl_op (op_rd rfl (rd_move rfl) ?_)
    refine gl_no rfl rfl rfl ?_
    refine gl_no rfl rfl rfl ?_
    refine gl_no rfl rfl rfl ?_
    refine gl_op (op_rd rfl (rd_pick_f rfl rfl) ?_)
    refine gl_op (op_rd rfl (rd_move rfl) ?_)
    refine gl_no rfl rfl rfl ?_
    refine gl_no rfl rfl rfl ?_
    refine gl_no rfl rfl rfl ?_
    refine gl_op (op_rd rfl (rd_pick_f rfl rfl) ?_)
    refine gl_op (op_rd rfl (rd_assign rfl) ?_)
    refine gl_nil ?_
    refine gx_then ?_
    refine gc_ret ?_
    refine gx_ret1 (.inl rfl) Try.results22 rfl [] (by decide) ?_
    refine ⟨?_, rfl⟩
    simp [wishedB, *]

set_option maxRecDepth 100000 in
set_option maxHeartbeats 1000000 in
theorem fit_ok (p : Pipe) (x : Wish) (hp : p.Ok) (hx : x.Ok) (w0 : World) : Sp Try.prog 23 [p.val, x.val] w0 [] (RV (.tuple #[.int .i64 (fitP p x).1, .bool (fitP p x).2])) := by
  refine spec_enter Try.func23 rfl Try.ntmps23 rfl (Own.refl _) ?_
  simp only [argEnv]
  refine gc_seq ?_
  refine gc_region ?_
  refine gl_op (op_box rfl rfl rfl (fun b2 => ?_))
  refine gl_op (op_box rfl rfl rfl (fun b3 => ?_))
  refine gl_op (op_rd rfl (rd_assign rfl) ?_)
  refine gl_op (op_rd rfl (rd_assign rfl) ?_)
  refine gl_nil ?_
  refine gx_then ?_
  refine gc_seq ?_
  have hp1 := hp.d0
  have hp2 := hp.d1
  have hp3 := hp.l0
  have hp4 := hp.l1
  have hx1 := hx.d0
  have hx2 := hx.d01
  have hx3 := hx.d1
  have hx4 := hx.l0
  have hx5 := hx.l01
  have hx6 := hx.l1
  obtain ⟨o, hof⟩ : ∃ o, off p x = o := ⟨_, rfl⟩
  have ho0 : 0 ≤ o ∧ o ≤ 12000000 := by rw [← hof]; unfold off; omega
  refine gc_region ?_
  refine gl_op (op_rd rfl (rd_fieldAddr rfl (fa_29_1 _)) ?_)
  refine gl_op (op_rd rfl (rd_fieldAddr rfl (fa_27_0 _)) ?_)
  refine gl_op (op_rd rfl (rd_load Try.underlying2 rfl rfl (by first | exact ld_blk 0 rfl rfl | exact ld_blk 1 rfl rfl | exact ld_slN (by assumption) (get_nats (by omega)) | exact ld_slN (by assumption) (get_ints (by omega)) | exact ld_old (by assumption) (by simp) | exact ld_cells (by assumption) (by simp) rfl)) ?_)
  refine gl_op (op_rd rfl (rd_fieldAddr rfl (fa_25_1 _)) ?_)
  refine gl_op (op_rd rfl (rd_load Try.underlying2 rfl rfl (by first | exact ld_blk 0 rfl rfl | exact ld_blk 1 rfl rfl | exact ld_slN (by assumption) (get_nats (by omega)) | exact ld_slN (by assumption) (get_ints (by omega)) | exact ld_old (by assumption) (by simp) | exact ld_cells (by assumption) (by simp) rfl)) ?_)
  refine gl_op (op_rd rfl (rd_sub rfl rfl (by omega) (by omega)) ?_)
  refine gl_op (op_rd rfl (rd_fieldAddr rfl (fa_25_1 _)) ?_)
  refine gl_op (op_rd rfl (rd_load Try.underlying2 rfl rfl (by first | exact ld_blk 0 rfl rfl | exact ld_blk 1 rfl rfl | exact ld_slN (by assumption) (get_nats (by omega)) | exact ld_slN (by assumption) (get_ints (by omega)) | exact ld_old (by assumption) (by simp) | exact ld_cells (by assumption) (by simp) rfl)) ?_)
  refine gl_op (op_rd rfl (rd_fieldAddr rfl (fa_29_1 _)) ?_)
  refine gl_op (op_rd rfl (rd_fieldAddr rfl (fa_27_1 _)) ?_)
  refine gl_op (op_rd rfl (rd_load Try.underlying2 rfl rfl (by first | exact ld_blk 0 rfl rfl | exact ld_blk 1 rfl rfl | exact ld_slN (by assumption) (get_nats (by omega)) | exact ld_slN (by assumption) (get_ints (by omega)) | exact ld_old (by assumption) (by simp) | exact ld_cells (by assumption) (by simp) rfl)) ?_)
  refine gl_op (op_rd rfl (rd_sub rfl rfl (by omega) (by omega)) ?_)
  refine gl_op (op_rd rfl (rd_max3 rfl rfl rfl) ?_)
  rw [show max (max (x.d0 - p.d) (p.d - x.d1)) 0 = o from hof]
  refine gl_op (op_rd rfl (rd_assign rfl) ?_)
  refine gl_nil ?_
  refine gx_then ?_
  refine gc_seq ?_
  refine gc_seq ?_
  refine gc_region ?_
  refine gl_op (op_rd rfl (rd_fieldAddr rfl (fa_25_0 _)) ?_)
  refine gl_op (op_rd rfl (rd_load Try.underlying3 rfl rfl (by first | exact ld_blk 0 rfl rfl | exact ld_blk 1 rfl rfl | exact ld_slN (by assumption) (get_nats (by omega)) | exact ld_slN (by assumption) (get_ints (by omega)) | exact ld_old (by assumption) (by simp) | exact ld_cells (by assumption) (by simp) rfl)) ?_)
  refine gl_op (op_rd rfl (rd_fieldAddr rfl (fa_29_0 _)) ?_)
  refine gl_op (op_rd rfl (rd_load Try.underlying3 rfl rfl (by first | exact ld_blk 0 rfl rfl | exact ld_blk 1 rfl rfl | exact ld_slN (by assumption) (get_nats (by omega)) | exact ld_slN (by assumption) (get_ints (by omega)) | exact ld_old (by assumption) (by simp) | exact ld_cells (by assumption) (by simp) rfl)) ?_)
  refine gl_op (op_rd rfl (rd_neq rfl rfl) (gk_dec (fun hk => ?_) (fun hk => ?_)))
  · skip
    refine gl_op (op_rd rfl (rd_move rfl) ?_)
    refine gl_no rfl rfl rfl ?_
    refine gl_no rfl rfl rfl ?_
    refine gl_no rfl rfl rfl ?_
    refine gl_no rfl rfl rfl ?_
    refine gl_no rfl rfl rfl ?_
    refine gl_no rfl rfl rfl ?_
    refine gl_op (op_rd rfl (rd_pick_t rfl rfl) ?_)
    refine gl_op (op_rd rfl (rd_move rfl) ?_)
    refine gl_no rfl rfl rfl ?_
    refine gl_no rfl rfl rfl ?_
    refine gl_op (op_rd rfl (rd_pick_t rfl rfl) ?_)
    refine gl_nil ?_
    refine gx_then ?_
    refine gc_cond_t rfl ?_
    refine gc_seq ?_
    refine gc_region ?_
    refine gl_op (op_rd rfl (rd_assign rfl) ?_)
    refine gl_op (op_rd rfl (rd_assign rfl) ?_)
    refine gl_nil ?_
    refine gx_then ?_
    refine gc_ret ?_
    refine gx_then_ret ?_
    refine gx_ret2 (.inl rfl) Try.results23 rfl rfl [] (by decide) ?_
    have hf : fits p x = false := by unfold fits; rw [hof]; simp; omega
    exact ⟨by unfold fitP; rw [hf]; rfl, rfl⟩
  · skip
    refine gl_op (op_rd rfl (rd_move rfl) ?_)
    refine gl_yes rfl rfl (op_rd rfl (rd_fieldAddr rfl (fa_25_2 _)) ?_)
    refine gl_yes rfl rfl (op_rd rfl (rd_load Try.underlying2 rfl rfl (by first | exact ld_blk 0 rfl rfl | exact ld_blk 1 rfl rfl | exact ld_slN (by assumption) (get_nats (by omega)) | exact ld_slN (by assumption) (get_ints (by omega)) | exact ld_old (by assumption) (by simp) | exact ld_cells (by assumption) (by simp) rfl)) ?_)
    refine gl_yes rfl rfl (op_rd rfl (rd_fieldAddr rfl (fa_29_2 _)) ?_)
    refine gl_yes rfl rfl (op_rd rfl (rd_fieldAddr rfl (fa_27_0 _)) ?_)
    refine gl_yes rfl rfl (op_rd rfl (rd_load Try.underlying2 rfl rfl (by first | exact ld_blk 0 rfl rfl | exact ld_blk 1 rfl rfl | exact ld_slN (by assumption) (get_nats (by omega)) | exact ld_slN (by assumption) (get_ints (by omega)) | exact ld_old (by assumption) (by simp) | exact ld_cells (by assumption) (by simp) rfl)) ?_)
    refine gl_yes rfl rfl (op_rd rfl (rd_lss rfl rfl) (gk_dec (fun hl => ?_) (fun hl => ?_)))
    · skip
      refine gl_op (op_rd rfl (rd_pick_f rfl rfl) ?_)
      refine gl_op (op_rd rfl (rd_move rfl) ?_)
      refine gl_no rfl rfl rfl ?_
      refine gl_no rfl rfl rfl ?_
      refine gl_op (op_rd rfl (rd_pick_t rfl rfl) ?_)
      refine gl_nil ?_
      refine gx_then ?_
      refine gc_cond_t rfl ?_
      refine gc_seq ?_
      refine gc_region ?_
      refine gl_op (op_rd rfl (rd_assign rfl) ?_)
      refine gl_op (op_rd rfl (rd_assign rfl) ?_)
      refine gl_nil ?_
      refine gx_then ?_
      refine gc_ret ?_
      refine gx_then_ret ?_
      refine gx_ret2 (.inl rfl) Try.results23 rfl rfl [] (by decide) ?_
      have hf : fits p x = false := by unfold fits; rw [hof]; simp; omega
      exact ⟨by unfold fitP; rw [hf]; rfl, rfl⟩
    · skip
      refine gl_op (op_rd rfl (rd_pick_f rfl rfl) ?_)
      refine gl_op (op_rd rfl (rd_move rfl) ?_)
      refine gl_yes rfl rfl (op_rd rfl (rd_move rfl) ?_)
      refine gl_yes rfl rfl (op_rd rfl (rd_gtr rfl rfl) (gk_dec (fun ho => ?_) (fun ho => ?_)))
      · skip
        refine gl_op (op_rd rfl (rd_pick_f rfl rfl) ?_)
        refine gl_nil ?_
        refine gx_then ?_
        refine gc_cond_t rfl ?_
        refine gc_seq ?_
        refine gc_region ?_
        refine gl_op (op_rd rfl (rd_assign rfl) ?_)
        refine gl_op (op_rd rfl (rd_assign rfl) ?_)
        refine gl_nil ?_
        refine gx_then ?_
        refine gc_ret ?_
        refine gx_then_ret ?_
        refine gx_ret2 (.inl rfl) Try.results23 rfl rfl [] (by decide) ?_
        have hf : fits p x = false := by unfold fits; rw [hof]; simp; omega
        exact ⟨by unfold fitP; rw [hf]; rfl, rfl⟩
      · skip
        refine gl_op (op_rd rfl (rd_pick_f rfl rfl) ?_)
        refine gl_nil ?_
        refine gx_then ?_
        refine gc_cond_f rfl ?_
        refine gc_skip ?_
        refine gx_then ?_
        refine gc_seq ?_
        refine gc_region ?_
        refine gl_op (op_rd rfl (rd_fieldAddr rfl (fa_25_2 _)) ?_)
        refine gl_op (op_rd rfl (rd_load Try.underlying2 rfl rfl (by first | exact ld_blk 0 rfl rfl | exact ld_blk 1 rfl rfl | exact ld_slN (by assumption) (get_nats (by omega)) | exact ld_slN (by assumption) (get_ints (by omega)) | exact ld_old (by assumption) (by simp) | exact ld_cells (by assumption) (by simp) rfl)) ?_)
        refine gl_op (op_rd rfl (rd_fieldAddr rfl (fa_29_2 _)) ?_)
        refine gl_op (op_rd rfl (rd_fieldAddr rfl (fa_27_1 _)) ?_)
        refine gl_op (op_rd rfl (rd_load Try.underlying2 rfl rfl (by first | exact ld_blk 0 rfl rfl | exact ld_blk 1 rfl rfl | exact ld_slN (by assumption) (get_nats (by omega)) | exact ld_slN (by assumption) (get_ints (by omega)) | exact ld_old (by assumption) (by simp) | exact ld_cells (by assumption) (by simp) rfl)) ?_)
        refine gl_op (op_rd rfl (rd_sub rfl rfl (by omega) (by omega)) ?_)
        refine gl_op (op_rd rfl (rd_max2 rfl rfl) ?_)
        refine gl_op (op_rd rfl (rd_move rfl) ?_)
        refine gl_op (op_rd rfl (rd_mul rfl rfl (by omega) (by omega)) ?_)
        refine gl_op (op_rd rfl (rd_add rfl rfl (by omega) (by omega)) ?_)
        refine gl_op (op_rd rfl (rd_assign rfl) ?_)
        refine gl_op (op_rd rfl (rd_assign rfl) ?_)
        refine gl_nil ?_
        refine gx_then ?_
        refine gc_ret ?_
        refine gx_ret2 (.inl rfl) Try.results23 rfl rfl [] (by decide) ?_
        have hf : fits p x = true := by unfold fits; rw [hof]; simp; omega
        exact ⟨by unfold fitP; rw [if_pos hf, ← hof]; simp only [cost, Int.add_comm], rfl⟩

set_option maxRecDepth 100000 in
set_option maxHeartbeats 1000000 in
theorem rfit_ok (p : Pipe) (x : Wish) (hp : p.Ok) (hx : x.Ok) (w0 : World) : Sp Try.prog 26 [p.val, x.val] w0 [] (RV (.int .i64 (rfitP p x))) := by
  refine spec_enter Try.func26 rfl Try.ntmps26 rfl (Own.refl _) ?_
  simp only [argEnv]
  refine gc_seq ?_
  refine gc_region ?_
  refine gl_op (op_box rfl rfl rfl (fun b2 => ?_))
  refine gl_op (op_box rfl rfl rfl (fun b3 => ?_))
  refine gl_op (op_rd rfl (rd_assign rfl) ?_)
  refine gl_nil ?_
  refine gx_then ?_
  refine gc_seq ?_
  have hp1 := hp.d0
  have hp2 := hp.d1
  have hp3 := hp.l0
  have hp4 := hp.l1
  have hx1 := hx.d0
  have hx2 := hx.d01
  have hx3 := hx.d1
  have hx4 := hx.l0
  have hx5 := hx.l01
  have hx6 := hx.l1
  obtain ⟨o, hof⟩ : ∃ o, off p x = o := ⟨_, rfl⟩
  have ho0 : 0 ≤ o ∧ o ≤ 12000000 := by rw [← hof]; unfold off; omega
  refine gc_region ?_
  refine gl_op (op_rd rfl (rd_fieldAddr rfl (fa_29_1 _)) ?_)
  refine gl_op (op_rd rfl (rd_fieldAddr rfl (fa_27_0 _)) ?_)
  refine gl_op (op_rd rfl (rd_load Try.underlying2 rfl rfl (by first | exact ld_blk 0 rfl rfl | exact ld_blk 1 rfl rfl | exact ld_slN (by assumption) (get_nats (by omega)) | exact ld_slN (by assumption) (get_ints (by omega)) | exact ld_old (by assumption) (by simp) | exact ld_cells (by assumption) (by simp) rfl)) ?_)
  refine gl_op (op_rd rfl (rd_fieldAddr rfl (fa_25_1 _)) ?_)
  refine gl_op (op_rd rfl (rd_load Try.underlying2 rfl rfl (by first | exact ld_blk 0 rfl rfl | exact ld_blk 1 rfl rfl | exact ld_slN (by assumption) (get_nats (by omega)) | exact ld_slN (by assumption) (get_ints (by omega)) | exact ld_old (by assumption) (by simp) | exact ld_cells (by assumption) (by simp) rfl)) ?_)
  refine gl_op (op_rd rfl (rd_sub rfl rfl (by omega) (by omega)) ?_)
  refine gl_op (op_rd rfl (rd_fieldAddr rfl (fa_25_1 _)) ?_)
  refine gl_op (op_rd rfl (rd_load Try.underlying2 rfl rfl (by first | exact ld_blk 0 rfl rfl | exact ld_blk 1 rfl rfl | exact ld_slN (by assumption) (get_nats (by omega)) | exact ld_slN (by assumption) (get_ints (by omega)) | exact ld_old (by assumption) (by simp) | exact ld_cells (by assumption) (by simp) rfl)) ?_)
  refine gl_op (op_rd rfl (rd_fieldAddr rfl (fa_29_1 _)) ?_)
  refine gl_op (op_rd rfl (rd_fieldAddr rfl (fa_27_1 _)) ?_)
  refine gl_op (op_rd rfl (rd_load Try.underlying2 rfl rfl (by first | exact ld_blk 0 rfl rfl | exact ld_blk 1 rfl rfl | exact ld_slN (by assumption) (get_nats (by omega)) | exact ld_slN (by assumption) (get_ints (by omega)) | exact ld_old (by assumption) (by simp) | exact ld_cells (by assumption) (by simp) rfl)) ?_)
  refine gl_op (op_rd rfl (rd_sub rfl rfl (by omega) (by omega)) ?_)
  refine gl_op (op_rd rfl (rd_max3 rfl rfl rfl) ?_)
  rw [show max (max (x.d0 - p.d) (p.d - x.d1)) 0 = o from hof]
  refine gl_op (op_rd rfl (rd_assign rfl) ?_)
  refine gl_nil ?_
  refine gx_then ?_
  refine gc_seq ?_
  refine gc_seq ?_
  refine gc_region ?_
  refine gl_op (op_rd rfl (rd_fieldAddr rfl (fa_25_0 _)) ?_)
  refine gl_op (op_rd rfl (rd_load Try.underlying3 rfl rfl (by first | exact ld_blk 0 rfl rfl | exact ld_blk 1 rfl rfl | exact ld_slN (by assumption) (get_nats (by omega)) | exact ld_slN (by assumption) (get_ints (by omega)) | exact ld_old (by assumption) (by simp) | exact ld_cells (by assumption) (by simp) rfl)) ?_)
  refine gl_op (op_rd rfl (rd_fieldAddr rfl (fa_29_0 _)) ?_)
  refine gl_op (op_rd rfl (rd_load Try.underlying3 rfl rfl (by first | exact ld_blk 0 rfl rfl | exact ld_blk 1 rfl rfl | exact ld_slN (by assumption) (get_nats (by omega)) | exact ld_slN (by assumption) (get_ints (by omega)) | exact ld_old (by assumption) (by simp) | exact ld_cells (by assumption) (by simp) rfl)) ?_)
  refine gl_op (op_rd rfl (rd_neq rfl rfl) (gk_dec (fun hk => ?_) (fun hk => ?_)))
  · skip
    refine gl_op (op_rd rfl (rd_move rfl) ?_)
    refine gl_no rfl rfl rfl ?_
    refine gl_no rfl rfl rfl ?_
    refine gl_no rfl rfl rfl ?_
    refine gl_no rfl rfl rfl ?_
    refine gl_no rfl rfl rfl ?_
    refine gl_no rfl rfl rfl ?_
    refine gl_op (op_rd rfl (rd_pick_t rfl rfl) ?_)
    refine gl_op (op_rd rfl (rd_move rfl) ?_)
    refine gl_no rfl rfl rfl ?_
    refine gl_no rfl rfl rfl ?_
    refine gl_op (op_rd rfl (rd_pick_t rfl rfl) ?_)
    refine gl_nil ?_
    refine gx_then ?_
    refine gc_cond_t rfl ?_
    refine gc_seq ?_
    refine gc_region ?_
    refine gl_op (op_rd rfl (rd_assign rfl) ?_)
    refine gl_nil ?_
    refine gx_then ?_
    refine gc_ret ?_
    refine gx_then_ret ?_
    refine gx_ret1 (.inl rfl) Try.results26 rfl [] (by decide) ?_
    have hf : fits p x = false := by unfold fits; rw [hof]; simp; omega
    exact ⟨by unfold rfitP; rw [hf]; rfl, rfl⟩
  · skip
    refine gl_op (op_rd rfl (rd_move rfl) ?_)
    refine gl_yes rfl rfl (op_rd rfl (rd_fieldAddr rfl (fa_25_2 _)) ?_)
    refine gl_yes rfl rfl (op_rd rfl (rd_load Try.underlying2 rfl rfl (by first | exact ld_blk 0 rfl rfl | exact ld_blk 1 rfl rfl | exact ld_slN (by assumption) (get_nats (by omega)) | exact ld_slN (by assumption) (get_ints (by omega)) | exact ld_old (by assumption) (by simp) | exact ld_cells (by assumption) (by simp) rfl)) ?_)
    refine gl_yes rfl rfl (op_rd rfl (rd_fieldAddr rfl (fa_29_2 _)) ?_)
    refine gl_yes rfl rfl (op_rd rfl (rd_fieldAddr rfl (fa_27_0 _)) ?_)
    refine gl_yes rfl rfl (op_rd rfl (rd_load Try.underlying2 rfl rfl (by first | exact ld_blk 0 rfl rfl | exact ld_blk 1 rfl rfl | exact ld_slN (by assumption) (get_nats (by omega)) | exact ld_slN (by assumption) (get_ints (by omega)) | exact ld_old (by assumption) (by simp) | exact ld_cells (by assumption) (by simp) rfl)) ?_)
    refine gl_yes rfl rfl (op_rd rfl (rd_lss rfl rfl) (gk_dec (fun hl => ?_) (fun hl => ?_)))
    · skip
      refine gl_op (op_rd rfl (rd_pick_f rfl rfl) ?_)
      refine gl_op (op_rd rfl (rd_move rfl) ?_)
      refine gl_no rfl rfl rfl ?_
      refine gl_no rfl rfl rfl ?_
      refine gl_op (op_rd rfl (rd_pick_t rfl rfl) ?_)
      refine gl_nil ?_
      refine gx_then ?_
      refine gc_cond_t rfl ?_
      refine gc_seq ?_
      refine gc_region ?_
      refine gl_op (op_rd rfl (rd_assign rfl) ?_)
      refine gl_nil ?_
      refine gx_then ?_
      refine gc_ret ?_
      refine gx_then_ret ?_
      refine gx_ret1 (.inl rfl) Try.results26 rfl [] (by decide) ?_
      have hf : fits p x = false := by unfold fits; rw [hof]; simp; omega
      exact ⟨by unfold rfitP; rw [hf]; rfl, rfl⟩
    · skip
      refine gl_op (op_rd rfl (rd_pick_f rfl rfl) ?_)
      refine gl_op (op_rd rfl (rd_move rfl) ?_)
      refine gl_yes rfl rfl (op_rd rfl (rd_move rfl) ?_)
      refine gl_yes rfl rfl (op_rd rfl (rd_gtr rfl rfl) (gk_dec (fun ho => ?_) (fun ho => ?_)))
      · skip
        refine gl_op (op_rd rfl (rd_pick_f rfl rfl) ?_)
        refine gl_nil ?_
        refine gx_then ?_
        refine gc_cond_t rfl ?_
        refine gc_seq ?_
        refine gc_region ?_
        refine gl_op (op_rd rfl (rd_assign rfl) ?_)
        refine gl_nil ?_
        refine gx_then ?_
        refine gc_ret ?_
        refine gx_then_ret ?_
        refine gx_ret1 (.inl rfl) Try.results26 rfl [] (by decide) ?_
        have hf : fits p x = false := by unfold fits; rw [hof]; simp; omega
        exact ⟨by unfold rfitP; rw [hf]; rfl, rfl⟩
      · skip
        refine gl_op (op_rd rfl (rd_pick_f rfl rfl) ?_)
        refine gl_nil ?_
        refine gx_then ?_
        refine gc_cond_f rfl ?_
        refine gc_skip ?_
        refine gx_then ?_
        refine gc_seq ?_
        refine gc_region ?_
        refine gl_op (op_rd rfl (rd_fieldAddr rfl (fa_25_2 _)) ?_)
        refine gl_op (op_rd rfl (rd_load Try.underlying2 rfl rfl (by first | exact ld_blk 0 rfl rfl | exact ld_blk 1 rfl rfl | exact ld_slN (by assumption) (get_nats (by omega)) | exact ld_slN (by assumption) (get_ints (by omega)) | exact ld_old (by assumption) (by simp) | exact ld_cells (by assumption) (by simp) rfl)) ?_)
        refine gl_op (op_rd rfl (rd_fieldAddr rfl (fa_29_2 _)) ?_)
        refine gl_op (op_rd rfl (rd_fieldAddr rfl (fa_27_1 _)) ?_)
        refine gl_op (op_rd rfl (rd_load Try.underlying2 rfl rfl (by first | exact ld_blk 0 rfl rfl | exact ld_blk 1 rfl rfl | exact ld_slN (by assumption) (get_nats (by omega)) | exact ld_slN (by assumption) (get_ints (by omega)) | exact ld_old (by assumption) (by simp) | exact ld_cells (by assumption) (by simp) rfl)) ?_)
        refine gl_op (op_rd rfl (rd_sub rfl rfl (by omega) (by omega)) ?_)
        refine gl_op (op_rd rfl (rd_max2 rfl rfl) ?_)
        refine gl_op (op_rd rfl (rd_move rfl) ?_)
        refine gl_op (op_rd rfl (rd_mul rfl rfl (by omega) (by omega)) ?_)
        refine gl_op (op_rd rfl (rd_add rfl rfl (by omega) (by omega)) ?_)
        refine gl_op (op_rd rfl (rd_assign rfl) ?_)
        refine gl_nil ?_
        refine gx_then ?_
        refine gc_ret ?_
        refine gx_ret1 (.inl rfl) Try.results26 rfl [] (by decide) ?_
        have hf : fits p x = true := by unfold fits; rw [hof]; simp; omega
        exact ⟨by unfold rfitP; rw [if_pos hf, ← hof]; simp only [cost, Int.add_comm], rfl⟩

set_option maxRecDepth 100000 in
set_option maxHeartbeats 1000000 in
theorem rpipe_ok (p : Pipe) (w0 : World) : Sp Try.prog 24 [p.val] w0 [] (RV (.bool (pipedB p))) := by
  refine spec_enter Try.func24 rfl Try.ntmps24 rfl (Own.refl _) ?_
  simp only [argEnv]
  refine gc_seq ?_
  refine gc_region ?_
  refine gl_op (op_box rfl rfl rfl (fun b1 => ?_))
  refine gl_op (op_rd rfl (rd_assign rfl) ?_)
  refine gl_nil ?_
  refine gx_then ?_
  refine gc_seq ?_
  refine gc_region ?_
  refine gl_op (op_rd rfl (rd_fieldAddr rfl (fa_25_0 _)) ?_)
  refine gl_op (op_rd rfl (rd_load Try.underlying3 rfl rfl (by first | exact ld_blk 0 rfl rfl | exact ld_slN (by assumption) (get_nats (by omega)) | exact ld_slN (by assumption) (get_ints (by omega)) | exact ld_old (by assumption) (by simp) | exact ld_cells (by assumption) (by simp) rfl)) ?_)
  refine gl_op (op_rd rfl (rd_geq rfl rfl) (gk_dec (fun h1 => ?_) (fun h1 => ?_)))
  · skip
    refine gl_op (op_rd rfl (rd_move rfl) ?_)
    refine gl_yes rfl rfl (op_rd rfl (rd_fieldAddr rfl (fa_25_0 _)) ?_)
    refine gl_yes rfl rfl (op_rd rfl (rd_load Try.underlying3 rfl rfl (by first | exact ld_blk 0 rfl rfl | exact ld_slN (by assumption) (get_nats (by omega)) | exact ld_slN (by assumption) (get_ints (by omega)) | exact ld_old (by assumption) (by simp) | exact ld_cells (by assumption) (by simp) rfl)) ?_)
    refine gl_yes rfl rfl (op_rd rfl (rd_lss rfl rfl) (gk_dec (fun h2 => ?_) (fun h2 => ?_)))
    · skip
      refine gl_op (op_rd rfl (rd_pick_t rfl rfl) ?_)
      refine gl_op (op_rd rfl (rd_move rfl) ?_)
      refine gl_yes rfl rfl (op_rd rfl (rd_fieldAddr rfl (fa_25_1 _)) ?_)
      refine gl_yes rfl rfl (op_rd rfl (rd_load Try.underlying2 rfl rfl (by first | exact ld_blk 0 rfl rfl | exact ld_slN (by assumption) (get_nats (by omega)) | exact ld_slN (by assumption) (get_ints (by omega)) | exact ld_old (by assumption) (by simp) | exact ld_cells (by assumption) (by simp) rfl)) ?_)
      refine gl_yes rfl rfl (op_call rfl (vf := []) (vc := []) rfl rfl Try.call38 (fun w ho => rsize_ok _ w) ?_)
      rintro _ _ ⟨rfl, rfl⟩
      refine gk_bool (fun h3 => ?_) (fun h3 => ?_)
      · skip
        refine gl_op (op_rd rfl (rd_pick_t rfl rfl) ?_)
        refine gl_op (op_rd rfl (rd_move rfl) ?_)
        refine gl_yes rfl rfl (op_rd rfl (rd_fieldAddr rfl (fa_25_2 _)) ?_)
        refine gl_yes rfl rfl (op_rd rfl (rd_load Try.underlying2 rfl rfl (by first | exact ld_blk 0 rfl rfl | exact ld_slN (by assumption) (get_nats (by omega)) | exact ld_slN (by assumption) (get_ints (by omega)) | exact ld_old (by assumption) (by simp) | exact ld_cells (by assumption) (by simp) rfl)) ?_)
        refine gl_yes rfl rfl (op_call rfl (vf := []) (vc := []) rfl rfl Try.call38 (fun w ho => rsize_ok _ w) ?_)
        rintro _ _ ⟨rfl, rfl⟩
        refine gl_op (op_rd rfl (rd_pick_t rfl rfl) ?_)
        refine gl_op (op_rd rfl (rd_assign rfl) ?_)
        refine gl_nil ?_
        refine gx_then ?_
        refine gc_ret ?_
        refine gx_ret1 (.inl rfl) Try.results24 rfl [] (by decide) ?_
        refine ⟨?_, rfl⟩
        simp [pipedB, *] at *
        try (rw [Bool.eq_iff_iff]; simp; omega)
        try omega
      · skip
        refine gl_op (op_rd rfl (rd_pick_t rfl rfl) ?_)
        refine gl_op (op_rd rfl (rd_move rfl) ?_)
        refine gl_no rfl rfl rfl ?_
        refine gl_no rfl rfl rfl ?_
        refine gl_no rfl rfl rfl ?_
        refine gl_op (op_rd rfl (rd_pick_f rfl rfl) ?_)
        refine gl_op (op_rd rfl (rd_assign rfl) ?_)
        refine gl_nil ?_
        refine gx_then ?_
        refine gc_ret ?_
        refine gx_ret1 (.inl rfl) Try.results24 rfl [] (by decide) ?_
        refine ⟨?_, rfl⟩
        simp [pipedB, *] at *
        try (rw [Bool.eq_iff_iff]; simp; omega)
        try omega
    · skip
      refine gl_op (op_rd rfl (rd_pick_t rfl rfl) ?_)
      refine gl_op (op_rd rfl (rd_move rfl) ?_)
      refine gl_no rfl rfl rfl ?_
      refine gl_no rfl rfl rfl ?_
      refine gl_no rfl rfl rfl ?_
      refine gl_op (op_rd rfl (rd_pick_f rfl rfl) ?_)
      refine gl_op (op_rd rfl (rd_move rfl) ?_)
      refine gl_no rfl rfl rfl ?_
      refine gl_no rfl rfl rfl ?_
      refine gl_no rfl rfl rfl ?_
      refine gl_op (op_rd rfl (rd_pick_f rfl rfl) ?_)
      refine gl_op (op_rd rfl (rd_assign rfl) ?_)
      refine gl_nil ?_
      refine gx_then ?_
      refine gc_ret ?_
      refine gx_ret1 (.inl rfl) Try.results24 rfl [] (by decide) ?_
      refine ⟨?_, rfl⟩
      simp [pipedB, *] at *
      try (rw [Bool.eq_iff_iff]; simp; omega)
      try omega
  · skip
    refine gl_op (op_rd rfl (rd_move rfl) ?_)
    refine gl_no rfl rfl rfl ?_
    refine gl_no rfl rfl rfl ?_
    refine gl_no rfl rfl rfl ?_
    refine gl_op (op_rd rfl (rd_pick_f rfl rfl) ?_)
    refine gl_op (op_rd rfl (rd_move rfl) ?_)
    refine gl_no rfl rfl rfl ?_
    refine gl_no rfl rfl rfl ?_
    refine gl_no rfl rfl rfl ?_
    refine gl_op (op_rd rfl (rd_pick_f rfl rfl) ?_)
    refine gl_op (op_rd rfl (rd_move rfl) ?_)
    refine gl_no rfl rfl rfl ?_
    refine gl_no rfl rfl rfl ?_
    refine gl_no rfl rfl rfl ?_
    refine gl_op (op_rd rfl (rd_pick_f rfl rfl) ?_)
    refine gl_op (op_rd rfl (rd_assign rfl) ?_)
    refine gl_nil ?_
    refine gx_then ?_
    refine gc_ret ?_
    refine gx_ret1 (.inl rfl) Try.results24 rfl [] (by decide) ?_
    refine ⟨?_, rfl⟩
    simp [pipedB, *] at *
    try (rw [Bool.eq_iff_iff]; simp; omega)
    try omega

set_option maxRecDepth 100000 in
set_option maxHeartbeats 1000000 in
theorem rwish_ok (x : Wish) (w0 : World) : Sp Try.prog 25 [x.val] w0 [] (RV (.bool (wishedB x))) := by
  refine spec_enter Try.func25 rfl Try.ntmps25 rfl (Own.refl _) ?_
  simp only [argEnv]
  refine gc_seq ?_
  refine gc_region ?_
  refine gl_op (op_box rfl rfl rfl (fun b1 => ?_))
  refine gl_op (op_rd rfl (rd_assign rfl) ?_)
  refine gl_nil ?_
  refine gx_then ?_
  refine gc_seq ?_
  refine gc_region ?_
  refine gl_op (op_rd rfl (rd_fieldAddr rfl (fa_29_0 _)) ?_)
  refine gl_op (op_rd rfl (rd_load Try.underlying3 rfl rfl (by first | exact ld_blk 0 rfl rfl | exact ld_slN (by assumption) (get_nats (by omega)) | exact ld_slN (by assumption) (get_ints (by omega)) | exact ld_old (by assumption) (by simp) | exact ld_cells (by assumption) (by simp) rfl)) ?_)
  refine gl_op (op_rd rfl (rd_geq rfl rfl) (gk_dec (fun h1 => ?_) (fun h1 => ?_)))
  · skip
    refine gl_op (op_rd rfl (rd_move rfl) ?_)
    refine gl_yes rfl rfl (op_rd rfl (rd_fieldAddr rfl (fa_29_0 _)) ?_)
    refine gl_yes rfl rfl (op_rd rfl (rd_load Try.underlying3 rfl rfl (by first | exact ld_blk 0 rfl rfl | exact ld_slN (by assumption) (get_nats (by omega)) | exact ld_slN (by assumption) (get_ints (by omega)) | exact ld_old (by assumption) (by simp) | exact ld_cells (by assumption) (by simp) rfl)) ?_)
    refine gl_yes rfl rfl (op_rd rfl (rd_lss rfl rfl) (gk_dec (fun h2 => ?_) (fun h2 => ?_)))
    · skip
      refine gl_op (op_rd rfl (rd_pick_t rfl rfl) ?_)
      refine gl_op (op_rd rfl (rd_move rfl) ?_)
      refine gl_yes rfl rfl (op_rd rfl (rd_fieldAddr rfl (fa_29_1 _)) ?_)
      refine gl_yes rfl rfl (op_rd rfl (rd_fieldAddr rfl (fa_27_0 _)) ?_)
      refine gl_yes rfl rfl (op_rd rfl (rd_load Try.underlying2 rfl rfl (by first | exact ld_blk 0 rfl rfl | exact ld_slN (by assumption) (get_nats (by omega)) | exact ld_slN (by assumption) (get_ints (by omega)) | exact ld_old (by assumption) (by simp) | exact ld_cells (by assumption) (by simp) rfl)) ?_)
      refine gl_yes rfl rfl (op_call rfl (vf := []) (vc := []) rfl rfl Try.call38 (fun w ho => rsize_ok _ w) ?_)
      rintro _ _ ⟨rfl, rfl⟩
      refine gk_bool (fun h3 => ?_) (fun h3 => ?_)
      · skip
        refine gl_op (op_rd rfl (rd_pick_t rfl rfl) ?_)
        refine gl_op (op_rd rfl (rd_move rfl) ?_)
        refine gl_yes rfl rfl (op_rd rfl (rd_fieldAddr rfl (fa_29_1 _)) ?_)
        refine gl_yes rfl rfl (op_rd rfl (rd_fieldAddr rfl (fa_27_1 _)) ?_)
        refine gl_yes rfl rfl (op_rd rfl (rd_load Try.underlying2 rfl rfl (by first | exact ld_blk 0 rfl rfl | exact ld_slN (by assumption) (get_nats (by omega)) | exact ld_slN (by assumption) (get_ints (by omega)) | exact ld_old (by assumption) (by simp) | exact ld_cells (by assumption) (by simp) rfl)) ?_)
        refine gl_yes rfl rfl (op_call rfl (vf := []) (vc := []) rfl rfl Try.call38 (fun w ho => rsize_ok _ w) ?_)
        rintro _ _ ⟨rfl, rfl⟩
        refine gk_bool (fun h4 => ?_) (fun h4 => ?_)
        · skip
          refine gl_op (op_rd rfl (rd_pick_t rfl rfl) ?_)
          refine gl_op (op_rd rfl (rd_move rfl) ?_)
          refine gl_yes rfl rfl (op_rd rfl (rd_fieldAddr rfl (fa_29_1 _)) ?_)
          refine gl_yes rfl rfl (op_rd rfl (rd_fieldAddr rfl (fa_27_0 _)) ?_)
          refine gl_yes rfl rfl (op_rd rfl (rd_load Try.underlying2 rfl rfl (by first | exact ld_blk 0 rfl rfl | exact ld_slN (by assumption) (get_nats (by omega)) | exact ld_slN (by assumption) (get_ints (by omega)) | exact ld_old (by assumption) (by simp) | exact ld_cells (by assumption) (by simp) rfl)) ?_)
          refine gl_yes rfl rfl (op_rd rfl (rd_fieldAddr rfl (fa_29_1 _)) ?_)
          refine gl_yes rfl rfl (op_rd rfl (rd_fieldAddr rfl (fa_27_1 _)) ?_)
          refine gl_yes rfl rfl (op_rd rfl (rd_load Try.underlying2 rfl rfl (by first | exact ld_blk 0 rfl rfl | exact ld_slN (by assumption) (get_nats (by omega)) | exact ld_slN (by assumption) (get_ints (by omega)) | exact ld_old (by assumption) (by simp) | exact ld_cells (by assumption) (by simp) rfl)) ?_)
          refine gl_yes rfl rfl (op_rd rfl (rd_leq rfl rfl) (gk_dec (fun h5 => ?_) (fun h5 => ?_)))
          · skip
            refine gl_op (op_rd rfl (rd_pick_t rfl rfl) ?_)
            refine gl_op (op_rd rfl (rd_move rfl) ?_)
            refine gl_yes rfl rfl (op_rd rfl (rd_fieldAddr rfl (fa_29_2 _)) ?_)
            refine gl_yes rfl rfl (op_rd rfl (rd_fieldAddr rfl (fa_27_0 _)) ?_)
            refine gl_yes rfl rfl (op_rd rfl (rd_load Try.underlying2 rfl rfl (by first | exact ld_blk 0 rfl rfl | exact ld_slN (by assumption) (get_nats (by omega)) | exact ld_slN (by assumption) (get_ints (by omega)) | exact ld_old (by assumption) (by simp) | exact ld_cells (by assumption) (by simp) rfl)) ?_)
            refine gl_yes rfl rfl (op_call rfl (vf := []) (vc := []) rfl rfl Try.call38 (fun w ho => rsize_ok _ w) ?_)
            rintro _ _ ⟨rfl, rfl⟩
            refine gk_bool (fun h6 => ?_) (fun h6 => ?_)
            · skip
              refine gl_op (op_rd rfl (rd_pick_t rfl rfl) ?_)
              refine gl_op (op_rd rfl (rd_move rfl) ?_)
              refine gl_yes rfl rfl (op_rd rfl (rd_fieldAddr rfl (fa_29_2 _)) ?_)
              refine gl_yes rfl rfl (op_rd rfl (rd_fieldAddr rfl (fa_27_1 _)) ?_)
              refine gl_yes rfl rfl (op_rd rfl (rd_load Try.underlying2 rfl rfl (by first | exact ld_blk 0 rfl rfl | exact ld_slN (by assumption) (get_nats (by omega)) | exact ld_slN (by assumption) (get_ints (by omega)) | exact ld_old (by assumption) (by simp) | exact ld_cells (by assumption) (by simp) rfl)) ?_)
              refine gl_yes rfl rfl (op_call rfl (vf := []) (vc := []) rfl rfl Try.call38 (fun w ho => rsize_ok _ w) ?_)
              rintro _ _ ⟨rfl, rfl⟩
              refine gk_bool (fun h7 => ?_) (fun h7 => ?_)
              · skip
                refine gl_op (op_rd rfl (rd_pick_t rfl rfl) ?_)
                refine gl_op (op_rd rfl (rd_move rfl) ?_)
                refine gl_yes rfl rfl (op_rd rfl (rd_fieldAddr rfl (fa_29_2 _)) ?_)
                refine gl_yes rfl rfl (op_rd rfl (rd_fieldAddr rfl (fa_27_0 _)) ?_)
                refine gl_yes rfl rfl (op_rd rfl (rd_load Try.underlying2 rfl rfl (by first | exact ld_blk 0 rfl rfl | exact ld_slN (by assumption) (get_nats (by omega)) | exact ld_slN (by assumption) (get_ints (by omega)) | exact ld_old (by assumption) (by simp) | exact ld_cells (by assumption) (by simp) rfl)) ?_)
                refine gl_yes rfl rfl (op_rd rfl (rd_fieldAddr rfl (fa_29_2 _)) ?_)
                refine gl_yes rfl rfl (op_rd rfl (rd_fieldAddr rfl (fa_27_1 _)) ?_)
                refine gl_yes rfl rfl (op_rd rfl (rd_load Try.underlying2 rfl rfl (by first | exact ld_blk 0 rfl rfl | exact ld_slN (by assumption) (get_nats (by omega)) | exact ld_slN (by assumption) (get_ints (by omega)) | exact ld_old (by assumption) (by simp) | exact ld_cells (by assumption) (by simp) rfl)) ?_)
                refine gl_yes rfl rfl (op_rd rfl (rd_leq rfl rfl) ?_)
                refine gl_op (op_rd rfl (rd_pick_t rfl rfl) ?_)
                refine gl_op (op_rd rfl (rd_assign rfl) ?_)
                refine gl_nil ?_
                refine gx_then ?_
                refine gc_ret ?_
                refine gx_ret1 (.inl rfl) Try.results25 rfl [] (by decide) ?_
                refine ⟨congrArg Value.bool ?_, rfl⟩
                unfold wishedB sizedB
                rw [Bool.eq_iff_iff]
                simp at *
                try omega
              · skip
                refine gl_op (op_rd rfl (rd_pick_t rfl rfl) ?_)
                refine gl_op (op_rd rfl (rd_move rfl) ?_)
                refine gl_no rfl rfl rfl ?_
                refine gl_no rfl rfl rfl ?_
                refine gl_no rfl rfl rfl ?_
                refine gl_no rfl rfl rfl ?_
                refine gl_no rfl rfl rfl ?_
                refine gl_no rfl rfl rfl ?_
                refine gl_no rfl rfl rfl ?_
                refine gl_op (op_rd rfl (rd_pick_f rfl rfl) ?_)
                refine gl_op (op_rd rfl (rd_assign rfl) ?_)
                refine gl_nil ?_
                refine gx_then ?_
                refine gc_ret ?_
                refine gx_ret1 (.inl rfl) Try.results25 rfl [] (by decide) ?_
                refine ⟨congrArg Value.bool ?_, rfl⟩
                unfold wishedB sizedB
                rw [Bool.eq_iff_iff]
                simp at *
                try omega
            · skip
              refine gl_op (op_rd rfl (rd_pick_t rfl rfl) ?_)
              refine gl_op (op_rd rfl (rd_move rfl) ?_)
              refine gl_no rfl rfl rfl ?_
              refine gl_no rfl rfl rfl ?_
              refine gl_no rfl rfl rfl ?_
              refine gl_no rfl rfl rfl ?_
              refine gl_op (op_rd rfl (rd_pick_f rfl rfl) ?_)
              refine gl_op (op_rd rfl (rd_move rfl) ?_)
              refine gl_no rfl rfl rfl ?_
              refine gl_no rfl rfl rfl ?_
              refine gl_no rfl rfl rfl ?_
              refine gl_no rfl rfl rfl ?_
              refine gl_no rfl rfl rfl ?_
              refine gl_no rfl rfl rfl ?_
              refine gl_no rfl rfl rfl ?_
              refine gl_op (op_rd rfl (rd_pick_f rfl rfl) ?_)
              refine gl_op (op_rd rfl (rd_assign rfl) ?_)
              refine gl_nil ?_
              refine gx_then ?_
              refine gc_ret ?_
              refine gx_ret1 (.inl rfl) Try.results25 rfl [] (by decide) ?_
              refine ⟨congrArg Value.bool ?_, rfl⟩
              unfold wishedB sizedB
              rw [Bool.eq_iff_iff]
              simp at *
              try omega
          · skip
            refine gl_op (op_rd rfl (rd_pick_t rfl rfl) ?_)
            refine gl_op (op_rd rfl (rd_move rfl) ?_)
            refine gl_no rfl rfl rfl ?_
            refine gl_no rfl rfl rfl ?_
            refine gl_no rfl rfl rfl ?_
            refine gl_no rfl rfl rfl ?_
            refine gl_op (op_rd rfl (rd_pick_f rfl rfl) ?_)
            refine gl_op (op_rd rfl (rd_move rfl) ?_)
            refine gl_no rfl rfl rfl ?_
            refine gl_no rfl rfl rfl ?_
            refine gl_no rfl rfl rfl ?_
            refine gl_no rfl rfl rfl ?_
            refine gl_op (op_rd rfl (rd_pick_f rfl rfl) ?_)
            refine gl_op (op_rd rfl (rd_move rfl) ?_)
            refine gl_no rfl rfl rfl ?_
            refine gl_no rfl rfl rfl ?_
            refine gl_no rfl rfl rfl ?_
            refine gl_no rfl rfl rfl ?_
            refine gl_no rfl rfl rfl ?_
            refine gl_no rfl rfl rfl ?_
            refine gl_no rfl rfl rfl ?_
            refine gl_op (op_rd rfl (rd_pick_f rfl rfl) ?_)
            refine gl_op (op_rd rfl (rd_assign rfl) ?_)
            refine gl_nil ?_
            refine gx_then ?_
            refine gc_ret ?_
            refine gx_ret1 (.inl rfl) Try.results25 rfl [] (by decide) ?_
            refine ⟨congrArg Value.bool ?_, rfl⟩
            unfold wishedB sizedB
            rw [Bool.eq_iff_iff]
            simp at *
            try omega
        · skip
          refine gl_op (op_rd rfl (rd_pick_t rfl rfl) ?_)
          refine gl_op (op_rd rfl (rd_move rfl) ?_)
          refine gl_no rfl rfl rfl ?_
          refine gl_no rfl rfl rfl ?_
          refine gl_no rfl rfl rfl ?_
          refine gl_no rfl rfl rfl ?_
          refine gl_no rfl rfl rfl ?_
          refine gl_no rfl rfl rfl ?_
          refine gl_no rfl rfl rfl ?_
          refine gl_op (op_rd rfl (rd_pick_f rfl rfl) ?_)
          refine gl_op (op_rd rfl (rd_move rfl) ?_)
          refine gl_no rfl rfl rfl ?_
          refine gl_no rfl rfl rfl ?_
          refine gl_no rfl rfl rfl ?_
          refine gl_no rfl rfl rfl ?_
          refine gl_op (op_rd rfl (rd_pick_f rfl rfl) ?_)
          refine gl_op (op_rd rfl (rd_move rfl) ?_)
          refine gl_no rfl rfl rfl ?_
          refine gl_no rfl rfl rfl ?_
          refine gl_no rfl rfl rfl ?_
          refine gl_no rfl rfl rfl ?_
          refine gl_op (op_rd rfl (rd_pick_f rfl rfl) ?_)
          refine gl_op (op_rd rfl (rd_move rfl) ?_)
          refine gl_no rfl rfl rfl ?_
          refine gl_no rfl rfl rfl ?_
          refine gl_no rfl rfl rfl ?_
          refine gl_no rfl rfl rfl ?_
          refine gl_no rfl rfl rfl ?_
          refine gl_no rfl rfl rfl ?_
          refine gl_no rfl rfl rfl ?_
          refine gl_op (op_rd rfl (rd_pick_f rfl rfl) ?_)
          refine gl_op (op_rd rfl (rd_assign rfl) ?_)
          refine gl_nil ?_
          refine gx_then ?_
          refine gc_ret ?_
          refine gx_ret1 (.inl rfl) Try.results25 rfl [] (by decide) ?_
          refine ⟨congrArg Value.bool ?_, rfl⟩
          unfold wishedB sizedB
          rw [Bool.eq_iff_iff]
          simp at *
          try omega
      · skip
        refine gl_op (op_rd rfl (rd_pick_t rfl rfl) ?_)
        refine gl_op (op_rd rfl (rd_move rfl) ?_)
        refine gl_no rfl rfl rfl ?_
        refine gl_no rfl rfl rfl ?_
        refine gl_no rfl rfl rfl ?_
        refine gl_no rfl rfl rfl ?_
        refine gl_op (op_rd rfl (rd_pick_f rfl rfl) ?_)
        refine gl_op (op_rd rfl (rd_move rfl) ?_)
        refine gl_no rfl rfl rfl ?_
        refine gl_no rfl rfl rfl ?_
        refine gl_no rfl rfl rfl ?_
        refine gl_no rfl rfl rfl ?_
        refine gl_no rfl rfl rfl ?_
        refine gl_no rfl rfl rfl ?_
        refine gl_no rfl rfl rfl ?_
        refine gl_op (op_rd rfl (rd_pick_f rfl rfl) ?_)
        refine gl_op (op_rd rfl (rd_move rfl) ?_)
        refine gl_no rfl rfl rfl ?_
        refine gl_no rfl rfl rfl ?_
        refine gl_no rfl rfl rfl ?_
        refine gl_no rfl rfl rfl ?_
        refine gl_op (op_rd rfl (rd_pick_f rfl rfl) ?_)
        refine gl_op (op_rd rfl (rd_move rfl) ?_)
        refine gl_no rfl rfl rfl ?_
        refine gl_no rfl rfl rfl ?_
        refine gl_no rfl rfl rfl ?_
        refine gl_no rfl rfl rfl ?_
        refine gl_op (op_rd rfl (rd_pick_f rfl rfl) ?_)
        refine gl_op (op_rd rfl (rd_move rfl) ?_)
        refine gl_no rfl rfl rfl ?_
        refine gl_no rfl rfl rfl ?_
        refine gl_no rfl rfl rfl ?_
        refine gl_no rfl rfl rfl ?_
        refine gl_no rfl rfl rfl ?_
        refine gl_no rfl rfl rfl ?_
        refine gl_no rfl rfl rfl ?_
        refine gl_op (op_rd rfl (rd_pick_f rfl rfl) ?_)
        refine gl_op (op_rd rfl (rd_assign rfl) ?_)
        refine gl_nil ?_
        refine gx_then ?_
        refine gc_ret ?_
        refine gx_ret1 (.inl rfl) Try.results25 rfl [] (by decide) ?_
        refine ⟨congrArg Value.bool ?_, rfl⟩
        unfold wishedB sizedB
        rw [Bool.eq_iff_iff]
        simp at *
        try omega
    · skip
      refine gl_op (op_rd rfl (rd_pick_t rfl rfl) ?_)
      refine gl_op (op_rd rfl (rd_move rfl) ?_)
      refine gl_no rfl rfl rfl ?_
      refine gl_no rfl rfl rfl ?_
      refine gl_no rfl rfl rfl ?_
      refine gl_no rfl rfl rfl ?_
      refine gl_op (op_rd rfl (rd_pick_f rfl rfl) ?_)
      refine gl_op (op_rd rfl (rd_move rfl) ?_)
      refine gl_no rfl rfl rfl ?_
      refine gl_no rfl rfl rfl ?_
      refine gl_no rfl rfl rfl ?_
      refine gl_no rfl rfl rfl ?_
      refine gl_op (op_rd rfl (rd_pick_f rfl rfl) ?_)
      refine gl_op (op_rd rfl (rd_move rfl) ?_)
      refine gl_no rfl rfl rfl ?_
      refine gl_no rfl rfl rfl ?_
      refine gl_no rfl rfl rfl ?_
      refine gl_no rfl rfl rfl ?_
      refine gl_no rfl rfl rfl ?_
      refine gl_no rfl rfl rfl ?_
      refine gl_no rfl rfl rfl ?_
      refine gl_op (op_rd rfl (rd_pick_f rfl rfl) ?_)
      refine gl_op (op_rd rfl (rd_move rfl) ?_)
      refine gl_no rfl rfl rfl ?_
      refine gl_no rfl rfl rfl ?_
      refine gl_no rfl rfl rfl ?_
      refine gl_no rfl rfl rfl ?_
      refine gl_op (op_rd rfl (rd_pick_f rfl rfl) ?_)
      refine gl_op (op_rd rfl (rd_move rfl) ?_)
      refine gl_no rfl rfl rfl ?_
      refine gl_no rfl rfl rfl ?_
      refine gl_no rfl rfl rfl ?_
      refine gl_no rfl rfl rfl ?_
      refine gl_op (op_rd rfl (rd_pick_f rfl rfl) ?_)
      refine gl_op (op_rd rfl (rd_move rfl) ?_)
      refine gl_no rfl rfl rfl ?_
      refine gl_no rfl rfl rfl ?_
      refine gl_no rfl rfl rfl ?_
      refine gl_no rfl rfl rfl ?_
      refine gl_no rfl rfl rfl ?_
      refine gl_no rfl rfl rfl ?_
      refine gl_no rfl rfl rfl ?_
      refine gl_op (op_rd rfl (rd_pick_f rfl rfl) ?_)
      refine gl_op (op_rd rfl (rd_assign rfl) ?_)
      refine gl_nil ?_
      refine gx_then ?_
      refine gc_ret ?_
      refine gx_ret1 (.inl rfl) Try.results25 rfl [] (by decide) ?_
      refine ⟨congrArg Value.bool ?_, rfl⟩
      unfold wishedB sizedB
      rw [Bool.eq_iff_iff]
      simp at *
      try omega
  · skip
    refine gl_op (op_rd rfl (rd_move rfl) ?_)
    refine gl_no rfl rfl rfl ?_
    refine gl_no rfl rfl rfl ?_
    refine gl_no rfl rfl rfl ?_
    refine gl_op (op_rd rfl (rd_pick_f rfl rfl) ?_)
    refine gl_op (op_rd rfl (rd_move rfl) ?_)
    refine gl_no rfl rfl rfl ?_
    refine gl_no rfl rfl rfl ?_
    refine gl_no rfl rfl rfl ?_
    refine gl_no rfl rfl rfl ?_
    refine gl_op (op_rd rfl (rd_pick_f rfl rfl) ?_)
    refine gl_op (op_rd rfl (rd_move rfl) ?_)
    refine gl_no rfl rfl rfl ?_
    refine gl_no rfl rfl rfl ?_
    refine gl_no rfl rfl rfl ?_
    refine gl_no rfl rfl rfl ?_
    refine gl_op (op_rd rfl (rd_pick_f rfl rfl) ?_)
    refine gl_op (op_rd rfl (rd_move rfl) ?_)
    refine gl_no rfl rfl rfl ?_
    refine gl_no rfl rfl rfl ?_
    refine gl_no rfl rfl rfl ?_
    refine gl_no rfl rfl rfl ?_
    refine gl_no rfl rfl rfl ?_
    refine gl_no rfl rfl rfl ?_
    refine gl_no rfl rfl rfl ?_
    refine gl_op (op_rd rfl (rd_pick_f rfl rfl) ?_)
    refine gl_op (op_rd rfl (rd_move rfl) ?_)
    refine gl_no rfl rfl rfl ?_
    refine gl_no rfl rfl rfl ?_
    refine gl_no rfl rfl rfl ?_
    refine gl_no rfl rfl rfl ?_
    refine gl_op (op_rd rfl (rd_pick_f rfl rfl) ?_)
    refine gl_op (op_rd rfl (rd_move rfl) ?_)
    refine gl_no rfl rfl rfl ?_
    refine gl_no rfl rfl rfl ?_
    refine gl_no rfl rfl rfl ?_
    refine gl_no rfl rfl rfl ?_
    refine gl_op (op_rd rfl (rd_pick_f rfl rfl) ?_)
    refine gl_op (op_rd rfl (rd_move rfl) ?_)
    refine gl_no rfl rfl rfl ?_
    refine gl_no rfl rfl rfl ?_
    refine gl_no rfl rfl rfl ?_
    refine gl_no rfl rfl rfl ?_
    refine gl_no rfl rfl rfl ?_
    refine gl_no rfl rfl rfl ?_
    refine gl_no rfl rfl rfl ?_
    refine gl_op (op_rd rfl (rd_pick_f rfl rfl) ?_)
    refine gl_op (op_rd rfl (rd_assign rfl) ?_)
    refine gl_nil ?_
    refine gx_then ?_
    refine gc_ret ?_
    refine gx_ret1 (.inl rfl) Try.results25 rfl [] (by decide) ?_
    refine ⟨congrArg Value.bool ?_, rfl⟩
    unfold wishedB sizedB
    rw [Bool.eq_iff_iff]
    simp at *
    try omega

set_option maxRecDepth 100000 in
set_option maxHeartbeats 1000000 in
theorem allP1_ok (p : Pipe) (F : Nat) (q : Bool) (pc : Addr) (w0 : World) (hf : w0.cell? pc = some (.func (.func F) #[] #[])) (hcall : ∀ args w, (callFunc F args).run Try.prog w = .ok (.enter F args) w) (hF : ∀ w, Sp Try.prog F [p.val] w [] (RV (.bool q))) : Sp Try.prog 40 [p.val, .pointer (some pc)] w0 [] (RV (.bool (!q))) := by
  refine spec_enter Try.func40 rfl Try.ntmps40 rfl (Own.refl _) ?_
  simp only [argEnv]
  refine gc_seq ?_
  refine gc_region ?_
  refine gl_op (op_box rfl rfl rfl (fun b2 => ?_))
  refine gl_op (op_rd rfl (rd_assign rfl) ?_)
  refine gl_nil ?_
  refine gx_then ?_
  refine gc_seq ?_
  refine gc_region ?_
  refine gl_op (op_rd rfl (rd_load Try.underlying52 rfl rfl (ld_old hf (by simp))) ?_)
  refine gl_op (op_rd rfl (rd_loadAgg Try.underlying25 rfl ty_25 rfl (by first | exact cs_blk 0 (off := 0) (k := 3) rfl rfl | exact cs_old (by assumption) (by simp)) rfl) ?_)
  refine gl_op (op_call rfl (vf := []) (vc := []) rfl rfl hcall (fun w ho => hF w) ?_)
  rintro _ _ ⟨rfl, rfl⟩
  refine gl_op (op_rd rfl (rd_not rfl) ?_)
  refine gl_op (op_rd rfl (rd_assign rfl) ?_)
  refine gl_nil ?_
  refine gx_then ?_
  refine gc_ret ?_
  refine gx_ret1 (.inl rfl) Try.results40 rfl [] (by decide) ?_
  exact ⟨rfl, rfl⟩

set_option maxRecDepth 100000 in
set_option maxHeartbeats 1000000 in
theorem allW1_ok (p : Wish) (F : Nat) (q : Bool) (pc : Addr) (w0 : World) (hf : w0.cell? pc = some (.func (.func F) #[] #[])) (hcall : ∀ args w, (callFunc F args).run Try.prog w = .ok (.enter F args) w) (hF : ∀ w, Sp Try.prog F [p.val] w [] (RV (.bool q))) : Sp Try.prog 42 [p.val, .pointer (some pc)] w0 [] (RV (.bool (!q))) := by
  refine spec_enter Try.func42 rfl Try.ntmps42 rfl (Own.refl _) ?_
  simp only [argEnv]
  refine gc_seq ?_
  refine gc_region ?_
  refine gl_op (op_box rfl rfl rfl (fun b2 => ?_))
  refine gl_op (op_rd rfl (rd_assign rfl) ?_)
  refine gl_nil ?_
  refine gx_then ?_
  refine gc_seq ?_
  refine gc_region ?_
  refine gl_op (op_rd rfl (rd_load Try.underlying53 rfl rfl (ld_old hf (by simp))) ?_)
  refine gl_op (op_rd rfl (rd_loadAgg Try.underlying29 rfl ty_29 rfl (by first | exact cs_blk 0 (off := 0) (k := 5) rfl rfl | exact cs_old (by assumption) (by simp)) rfl) ?_)
  refine gl_op (op_call rfl (vf := []) (vc := []) rfl rfl hcall (fun w ho => hF w) ?_)
  rintro _ _ ⟨rfl, rfl⟩
  refine gl_op (op_rd rfl (rd_not rfl) ?_)
  refine gl_op (op_rd rfl (rd_assign rfl) ?_)
  refine gl_nil ?_
  refine gx_then ?_
  refine gc_ret ?_
  refine gx_ret1 (.inl rfl) Try.results42 rfl [] (by decide) ?_
  exact ⟨rfl, rfl⟩

set_option maxRecDepth 100000 in
set_option maxHeartbeats 1000000 in
theorem indexP_ok (zs : List Pipe) (a : Option Addr) (cp : Nat) (w0 : World) (hsl : OldSl w0 [] a zs.length 3 (zs.flatMap Pipe.cells)) (hb : zs.length ≤ 140737488355328)(F : Nat) (caps : List Value) (p : Pipe → Bool) (hcall : ∀ args w, (callFunc F args).run Try.prog w = .ok (.enter F args) w) (hf : ∀ x ∈ zs, ∀ w, Own w0 [] w [] → Sp Try.prog F (x.val :: caps) w [] (RV (.bool (p x)))) : Sp Try.prog 49 [.slice a zs.length cp, .func (.func F) #[] caps.toArray] w0 [] (RV (.int .i64 (idx p zs 0))) := by
  refine spec_enter Try.func49 rfl Try.ntmps49 rfl (Own.refl _) ?_
  simp only [argEnv]
  refine gc_seq ?_
  refine gc_region ?_
  refine gl_op (op_rd rfl (rd_assign rfl) ?_)
  refine gl_nil ?_
  refine gx_then ?_
  refine gc_seq ?_
  refine gc_seq ?_
  refine gc_region ?_
  refine gl_op (op_rd rfl (rd_move rfl) ?_)
  refine gl_op (op_rd rfl (rd_lenSlice Try.underlying22 rfl) ?_)
  refine gl_op (op_rd rfl (rd_move rfl) ?_)
  refine gl_nil ?_
  refine gx_then ?_
  refine gc_block ?_
  refine gc_loopF (ι := Nat) [(0, _), (1, _), (7, _)] [] (fun j => j ≤ zs.length ∧ ∀ i, i < j → p (zs.getD i default) = false) (fun j Fr0 => ((8, natV j) :: Fr0)) (fun j Fr0 => Fr0) (fun j => zs.length - j) 0 (⟨Nat.zero_le _, fun i h => absurd h (Nat.not_lt_zero i)⟩) ⟨rfl, rfl, rfl, rfl, trivial⟩ ⟨[], by decide, rfl⟩ ?_
  rintro k ⟨hk, hno⟩
  refine gc_seq ?_
  refine gc_region ?_
  refine gl_op (op_rd rfl (rd_lss rfl rfl) (gk_dec (fun hlt => ?_) (fun hlt => ?_)))
  · skip
    obtain ⟨x, hx⟩ := get_some (show k < zs.length by omega)
    have hxd := getD_some (d := default) hx
    refine gl_nil ?_
    refine gx_then ?_
    refine gc_seq ?_
    refine gc_cond_t rfl ?_
    refine gc_skip ?_
    refine gx_then ?_
    refine gc_seq ?_
    refine gc_block ?_
    refine gc_seq ?_
    refine gc_region ?_
    refine gl_op (op_rd rfl (rd_move rfl) ?_)
    refine gl_op (op_rd rfl (rd_assign rfl) ?_)
    refine gl_nil ?_
    refine gx_then ?_
    refine gc_seq ?_
    refine gc_region ?_
    refine gl_op (op_rd rfl (rd_move rfl) ?_)
    refine gl_op (op_rd rfl (rd_move rfl) ?_)
    refine gl_op (op_rd rfl (rd_move rfl) ?_)
    refine gl_op (op_rd rfl (by first | exact rd_indexS Try.underlying22 ty_25 rfl rfl (by omega) (by omega) | exact rd_indexOld (by assumption) Try.underlying22 ty_25 rfl rfl (by omega) (by omega) | exact rd_index Try.underlying22 ty_25 rfl rfl (by omega) (by omega)) ?_)
    refine gl_op (op_rd rfl (rd_loadAgg Try.underlying25 rfl ty_25 rfl (cs_slN hsl (flat_drop_get Pipe.cells 3 (fun _ => rfl) hx)) rfl) ?_)
    simp only [Pipe.cells]
    refine gl_op (op_call rfl (vf := []) (vc := caps) rfl rfl hcall (fun w ho => hf x (List.mem_of_getElem? hx) w (ho.pick [] (by decide))) ?_)
    rintro _ _ ⟨rfl, rfl⟩
    refine gk_bool (fun hp => ?_) (fun hp => ?_)
    · skip
      have hpt : p (zs.getD k default) = true := by rw [hxd]; exact hp
      refine gl_nil ?_
      refine gx_then ?_
      refine gc_cond_t rfl ?_
      refine gc_seq ?_
      refine gc_region ?_
      refine gl_op (op_rd rfl (rd_move rfl) ?_)
      refine gl_op (op_rd rfl (rd_assign rfl) ?_)
      refine gl_nil ?_
      refine gx_then ?_
      refine gc_ret ?_
      refine gx_block_ret ?_
      refine gx_then_ret ?_
      refine gx_then_ret ?_
      refine gx_block_ret ?_
      refine gx_then_ret ?_
      refine gx_ret1 (.inl rfl) Try.results49 rfl [] (by decide) ?_
      exact ⟨by rw [idx_stop p default zs 0 k (by omega) hno hpt]; simp, rfl⟩
    · skip
      have hpf : p (zs.getD k default) = false := by rw [hxd]; exact hp
      refine gl_nil ?_
      refine gx_then ?_
      refine gc_cond_f rfl ?_
      refine gc_skip ?_
      refine gx_block ?_
      refine gx_then ?_
      refine gc_region ?_
      refine gl_op (op_rd rfl (by first | exact rd_addN (b := 1) rfl rfl (by omega) | exact rd_add rfl rfl (by omega) (by omega)) ?_)
      refine gl_op (op_rd rfl (rd_move rfl) ?_)
      refine gl_nil ?_
      refine gx_then ?_
      exact gx_cut (k + 1) ⟨⟨by omega, fun i hi => by rcases Nat.lt_succ_iff_lt_or_eq.1 hi with h | rfl; exact hno i h; exact hpf⟩, by omega⟩ ⟨rfl, rfl, rfl, rfl, trivial⟩ ⟨[], by decide, rfl⟩
  · skip
    refine gl_nil ?_
    refine gx_then ?_
    refine gc_seq ?_
    refine gc_cond_f rfl ?_
    refine gc_exit ?_
    refine gx_then_exit ?_
    refine gx_then_exit ?_
    refine gx_block_exit ?_
    refine gx_then ?_
    refine gc_seq ?_
    refine gc_region ?_
    refine gl_op (op_rd rfl (rd_assign rfl) ?_)
    refine gl_nil ?_
    refine gx_then ?_
    refine gc_ret ?_
    refine gx_ret1 (.inl rfl) Try.results49 rfl [] (by decide) ?_
    exact ⟨by rw [idx_none p default zs 0 (fun j hj => hno j (by omega))], rfl⟩

set_option maxRecDepth 100000 in
set_option maxHeartbeats 1000000 in
theorem containsP_ok (zs : List Pipe) (a : Option Addr) (cp : Nat) (w0 : World) (hsl : OldSl w0 [] a zs.length 3 (zs.flatMap Pipe.cells)) (hb : zs.length ≤ 140737488355328)(F : Nat) (caps : List Value) (p : Pipe → Bool) (hcall : ∀ args w, (callFunc F args).run Try.prog w = .ok (.enter F args) w) (hf : ∀ x ∈ zs, ∀ w, Own w0 [] w [] → Sp Try.prog F (x.val :: caps) w [] (RV (.bool (p x)))) : Sp Try.prog 39 [.slice a zs.length cp, .func (.func F) #[] caps.toArray] w0 [] (RV (.bool (zs.any p))) := by
  refine spec_enter Try.func39 rfl Try.ntmps39 rfl (Own.refl _) ?_
  simp only [argEnv]
  refine gc_seq ?_
  refine gc_region ?_
  refine gl_op (op_rd rfl (rd_assign rfl) ?_)
  refine gl_nil ?_
  refine gx_then ?_
  refine gc_seq ?_
  refine gc_region ?_
  refine gl_op (op_rd rfl (rd_move rfl) ?_)
  refine gl_op (op_rd rfl (rd_move rfl) ?_)
  refine gl_op (op_call rfl (vf := []) (vc := []) rfl rfl Try.call49 (fun w ho => indexP_ok zs a cp w (hsl.at ho) hb F caps p hcall (fun x hx w2 ho2 => hf x hx w2 (ho.trans ho2))) ?_)
  rintro _ _ ⟨rfl, rfl⟩
  refine gl_op (op_rd rfl (rd_geq rfl rfl) ?_)
  refine gl_op (op_rd rfl (rd_assign rfl) ?_)
  refine gl_nil ?_
  refine gx_then ?_
  refine gc_ret ?_
  refine gx_ret1 (.inl rfl) Try.results39 rfl [] (by decide) ?_
  exact ⟨by rw [idx_any], rfl⟩

set_option maxRecDepth 100000 in
set_option maxHeartbeats 1000000 in
theorem allP_ok (zs : List Pipe) (a : Option Addr) (cp : Nat) (w0 : World) (hsl : OldSl w0 [] a zs.length 3 (zs.flatMap Pipe.cells)) (hb : zs.length ≤ 140737488355328) : Sp Try.prog 27 [.slice a zs.length cp, .func (.func 21) #[] #[]] w0 [] (RV (.bool (zs.all pipedB))) := by
  refine spec_enter Try.func27 rfl Try.ntmps27 rfl (Own.refl _) ?_
  simp only [argEnv]
  refine gc_seq ?_
  refine gc_region ?_
  refine gl_op (op_box rfl rfl rfl (fun b3 => ?_))
  refine gl_op (op_rd rfl (rd_assign rfl) ?_)
  refine gl_nil ?_
  refine gx_then ?_
  refine gc_seq ?_
  refine gc_region ?_
  refine gl_op (op_rd rfl (rd_move rfl) ?_)
  refine gl_op (op_rd rfl (rd_makeFunc (fs := []) rfl rfl) ?_)
  refine gl_op (op_call rfl (vf := []) (vc := []) rfl rfl Try.call39 (fun w ho => containsP_ok zs a cp w (hsl.at ho) hb 40 [.pointer (some ⟨b3, 0, none⟩)] (fun x => !pipedB x) Try.call40 (fun x hx w2 ho2 => allP1_ok x 21 (pipedB x) ⟨b3, 0, none⟩ w2 ((Own.blkCells ho 0 rfl).at ho2 0 _ rfl) Try.call21 (fun w3 => piped_ok x w3))) ?_)
  rintro _ _ ⟨rfl, rfl⟩
  refine gl_op (op_rd rfl (rd_not rfl) ?_)
  refine gl_op (op_rd rfl (rd_assign rfl) ?_)
  refine gl_nil ?_
  refine gx_then ?_
  refine gc_ret ?_
  refine gx_ret1 (.inl rfl) Try.results27 rfl [] (by decide) ?_
  refine ⟨congrArg Value.bool ?_, rfl⟩
  rw [Bool.eq_iff_iff]
  simp [List.any_eq_true]

set_option maxRecDepth 100000 in
set_option maxHeartbeats 1000000 in
theorem indexW_ok (zs : List Wish) (a : Option Addr) (cp : Nat) (w0 : World) (hsl : OldSl w0 [] a zs.length 5 (zs.flatMap Wish.cells)) (hb : zs.length ≤ 140737488355328)(F : Nat) (caps : List Value) (p : Wish → Bool) (hcall : ∀ args w, (callFunc F args).run Try.prog w = .ok (.enter F args) w) (hf : ∀ x ∈ zs, ∀ w, Own w0 [] w [] → Sp Try.prog F (x.val :: caps) w [] (RV (.bool (p x)))) : Sp Try.prog 50 [.slice a zs.length cp, .func (.func F) #[] caps.toArray] w0 [] (RV (.int .i64 (idx p zs 0))) := by
  refine spec_enter Try.func50 rfl Try.ntmps50 rfl (Own.refl _) ?_
  simp only [argEnv]
  refine gc_seq ?_
  refine gc_region ?_
  refine gl_op (op_rd rfl (rd_assign rfl) ?_)
  refine gl_nil ?_
  refine gx_then ?_
  refine gc_seq ?_
  refine gc_seq ?_
  refine gc_region ?_
  refine gl_op (op_rd rfl (rd_move rfl) ?_)
  refine gl_op (op_rd rfl (rd_lenSlice Try.underlying23 rfl) ?_)
  refine gl_op (op_rd rfl (rd_move rfl) ?_)
  refine gl_nil ?_
  refine gx_then ?_
  refine gc_block ?_
  refine gc_loopF (ι := Nat) [(0, _), (1, _), (7, _)] [] (fun j => j ≤ zs.length ∧ ∀ i, i < j → p (zs.getD i default) = false) (fun j Fr0 => ((8, natV j) :: Fr0)) (fun j Fr0 => Fr0) (fun j => zs.length - j) 0 (⟨Nat.zero_le _, fun i h => absurd h (Nat.not_lt_zero i)⟩) ⟨rfl, rfl, rfl, rfl, trivial⟩ ⟨[], by decide, rfl⟩ ?_
  rintro k ⟨hk, hno⟩
  refine gc_seq ?_
  refine gc_region ?_
  refine gl_op (op_rd rfl (rd_lss rfl rfl) (gk_dec (fun hlt => ?_) (fun hlt => ?_)))
  · skip
    obtain ⟨x, hx⟩ := get_some (show k < zs.length by omega)
    have hxd := getD_some (d := default) hx
    refine gl_nil ?_
    refine gx_then ?_
    refine gc_seq ?_
    refine gc_cond_t rfl ?_
    refine gc_skip ?_
    refine gx_then ?_
    refine gc_seq ?_
    refine gc_block ?_
    refine gc_seq ?_
    refine gc_region ?_
    refine gl_op (op_rd rfl (rd_move rfl) ?_)
    refine gl_op (op_rd rfl (rd_assign rfl) ?_)
    refine gl_nil ?_
    refine gx_then ?_
    refine gc_seq ?_
    refine gc_region ?_
    refine gl_op (op_rd rfl (rd_move rfl) ?_)
    refine gl_op (op_rd rfl (rd_move rfl) ?_)
    refine gl_op (op_rd rfl (rd_move rfl) ?_)
    refine gl_op (op_rd rfl (by first | exact rd_indexS Try.underlying23 ty_29 rfl rfl (by omega) (by omega) | exact rd_indexOld (by assumption) Try.underlying23 ty_29 rfl rfl (by omega) (by omega) | exact rd_index Try.underlying23 ty_29 rfl rfl (by omega) (by omega)) ?_)
    refine gl_op (op_rd rfl (rd_loadAgg Try.underlying29 rfl ty_29 rfl (cs_slN hsl (flat_drop_get Wish.cells 5 (fun _ => rfl) hx)) rfl) ?_)
    simp only [Wish.cells]
    refine gl_op (op_call rfl (vf := []) (vc := caps) rfl rfl hcall (fun w ho => hf x (List.mem_of_getElem? hx) w (ho.pick [] (by decide))) ?_)
    rintro _ _ ⟨rfl, rfl⟩
    refine gk_bool (fun hp => ?_) (fun hp => ?_)
    · skip
      have hpt : p (zs.getD k default) = true := by rw [hxd]; exact hp
      refine gl_nil ?_
      refine gx_then ?_
      refine gc_cond_t rfl ?_
      refine gc_seq ?_
      refine gc_region ?_
      refine gl_op (op_rd rfl (rd_move rfl) ?_)
      refine gl_op (op_rd rfl (rd_assign rfl) ?_)
      refine gl_nil ?_
      refine gx_then ?_
      refine gc_ret ?_
      refine gx_block_ret ?_
      refine gx_then_ret ?_
      refine gx_then_ret ?_
      refine gx_block_ret ?_
      refine gx_then_ret ?_
      refine gx_ret1 (.inl rfl) Try.results50 rfl [] (by decide) ?_
      exact ⟨by rw [idx_stop p default zs 0 k (by omega) hno hpt]; simp, rfl⟩
    · skip
      have hpf : p (zs.getD k default) = false := by rw [hxd]; exact hp
      refine gl_nil ?_
      refine gx_then ?_
      refine gc_cond_f rfl ?_
      refine gc_skip ?_
      refine gx_block ?_
      refine gx_then ?_
      refine gc_region ?_
      refine gl_op (op_rd rfl (by first | exact rd_addN (b := 1) rfl rfl (by omega) | exact rd_add rfl rfl (by omega) (by omega)) ?_)
      refine gl_op (op_rd rfl (rd_move rfl) ?_)
      refine gl_nil ?_
      refine gx_then ?_
      exact gx_cut (k + 1) ⟨⟨by omega, fun i hi => by rcases Nat.lt_succ_iff_lt_or_eq.1 hi with h | rfl; exact hno i h; exact hpf⟩, by omega⟩ ⟨rfl, rfl, rfl, rfl, trivial⟩ ⟨[], by decide, rfl⟩
  · skip
    refine gl_nil ?_
    refine gx_then ?_
    refine gc_seq ?_
    refine gc_cond_f rfl ?_
    refine gc_exit ?_
    refine gx_then_exit ?_
    refine gx_then_exit ?_
    refine gx_block_exit ?_
    refine gx_then ?_
    refine gc_seq ?_
    refine gc_region ?_
    refine gl_op (op_rd rfl (rd_assign rfl) ?_)
    refine gl_nil ?_
    refine gx_then ?_
    refine gc_ret ?_
    refine gx_ret1 (.inl rfl) Try.results50 rfl [] (by decide) ?_
    exact ⟨by rw [idx_none p default zs 0 (fun j hj => hno j (by omega))], rfl⟩

set_option maxRecDepth 100000 in
set_option maxHeartbeats 1000000 in
theorem containsW_ok (zs : List Wish) (a : Option Addr) (cp : Nat) (w0 : World) (hsl : OldSl w0 [] a zs.length 5 (zs.flatMap Wish.cells)) (hb : zs.length ≤ 140737488355328)(F : Nat) (caps : List Value) (p : Wish → Bool) (hcall : ∀ args w, (callFunc F args).run Try.prog w = .ok (.enter F args) w) (hf : ∀ x ∈ zs, ∀ w, Own w0 [] w [] → Sp Try.prog F (x.val :: caps) w [] (RV (.bool (p x)))) : Sp Try.prog 41 [.slice a zs.length cp, .func (.func F) #[] caps.toArray] w0 [] (RV (.bool (zs.any p))) := by
  refine spec_enter Try.func41 rfl Try.ntmps41 rfl (Own.refl _) ?_
  simp only [argEnv]
  refine gc_seq ?_
  refine gc_region ?_
  refine gl_op (op_rd rfl (rd_assign rfl) ?_)
  refine gl_nil ?_
  refine gx_then ?_
  refine gc_seq ?_
  refine gc_region ?_
  refine gl_op (op_rd rfl (rd_move rfl) ?_)
  refine gl_op (op_rd rfl (rd_move rfl) ?_)
  refine gl_op (op_call rfl (vf := []) (vc := []) rfl rfl Try.call50 (fun w ho => indexW_ok zs a cp w (hsl.at ho) hb F caps p hcall (fun x hx w2 ho2 => hf x hx w2 (ho.trans ho2))) ?_)
  rintro _ _ ⟨rfl, rfl⟩
  refine gl_op (op_rd rfl (rd_geq rfl rfl) ?_)
  refine gl_op (op_rd rfl (rd_assign rfl) ?_)
  refine gl_nil ?_
  refine gx_then ?_
  refine gc_ret ?_
  refine gx_ret1 (.inl rfl) Try.results41 rfl [] (by decide) ?_
  exact ⟨by rw [idx_any], rfl⟩

set_option maxRecDepth 100000 in
set_option maxHeartbeats 1000000 in
theorem allW_ok (zs : List Wish) (a : Option Addr) (cp : Nat) (w0 : World) (hsl : OldSl w0 [] a zs.length 5 (zs.flatMap Wish.cells)) (hb : zs.length ≤ 140737488355328) : Sp Try.prog 28 [.slice a zs.length cp, .func (.func 22) #[] #[]] w0 [] (RV (.bool (zs.all wishedB))) := by
  refine spec_enter Try.func28 rfl Try.ntmps28 rfl (Own.refl _) ?_
  simp only [argEnv]
  refine gc_seq ?_
  refine gc_region ?_
  refine gl_op (op_box rfl rfl rfl (fun b3 => ?_))
  refine gl_op (op_rd rfl (rd_assign rfl) ?_)
  refine gl_nil ?_
  refine gx_then ?_
  refine gc_seq ?_
  refine gc_region ?_
  refine gl_op (op_rd rfl (rd_move rfl) ?_)
  refine gl_op (op_rd rfl (rd_makeFunc (fs := []) rfl rfl) ?_)
  refine gl_op (op_call rfl (vf := []) (vc := []) rfl rfl Try.call41 (fun w ho => containsW_ok zs a cp w (hsl.at ho) hb 42 [.pointer (some ⟨b3, 0, none⟩)] (fun x => !wishedB x) Try.call42 (fun x hx w2 ho2 => allW1_ok x 22 (wishedB x) ⟨b3, 0, none⟩ w2 ((Own.blkCells ho 0 rfl).at ho2 0 _ rfl) Try.call22 (fun w3 => wished_ok x w3))) ?_)
  rintro _ _ ⟨rfl, rfl⟩
  refine gl_op (op_rd rfl (rd_not rfl) ?_)
  refine gl_op (op_rd rfl (rd_assign rfl) ?_)
  refine gl_nil ?_
  refine gx_then ?_
  refine gc_ret ?_
  refine gx_ret1 (.inl rfl) Try.results28 rfl [] (by decide) ?_
  refine ⟨congrArg Value.bool ?_, rfl⟩
  rw [Bool.eq_iff_iff]
  simp [List.any_eq_true]

set_option maxRecDepth 100000 in
set_option maxHeartbeats 1000000 in
theorem Check_ok (l : List Pipe) (w : List Wish) (a b : Option Addr) (ca cb : Nat) (w0 : World) (hl : OldSl w0 [] a l.length 3 (l.flatMap Pipe.cells)) (hw : OldSl w0 [] b w.length 5 (w.flatMap Wish.cells)) (hlb : l.length ≤ 140737488355328) (hwb : w.length ≤ 140737488355328) : Sp Try.prog 11 [.slice a l.length ca, .slice b w.length cb] w0 [] (RV (.int .i64 (checkP l w))) := by
  refine spec_enter Try.func11 rfl Try.ntmps11 rfl (Own.refl _) ?_
  simp only [argEnv]
  refine gc_seq ?_
  refine gc_region ?_
  refine gl_op (op_rd rfl (rd_assign rfl) ?_)
  refine gl_nil ?_
  refine gx_then ?_
  refine gc_seq ?_
  refine gc_seq ?_
  refine gc_region ?_
  refine gl_op (op_rd rfl (rd_move rfl) ?_)
  refine gl_op (op_rd rfl (rd_lenSlice Try.underlying22 rfl) ?_)
  refine gl_op (op_rd rfl (rd_gtr rfl rfl) (gk_dec (fun h1 => ?_) (fun h1 => ?_)))
  · skip
    refine gl_op (op_rd rfl (rd_move rfl) ?_)
    refine gl_no rfl rfl rfl ?_
    refine gl_no rfl rfl rfl ?_
    refine gl_no rfl rfl rfl ?_
    refine gl_op (op_rd rfl (rd_pick_t rfl rfl) ?_)
    refine gl_nil ?_
    refine gx_then ?_
    refine gc_cond_t rfl ?_
    refine gc_seq ?_
    refine gc_region ?_
    refine gl_op (op_rd rfl (rd_assign rfl) ?_)
    refine gl_nil ?_
    refine gx_then ?_
    refine gc_ret ?_
    refine gx_then_ret ?_
    refine gx_ret1 (.inl rfl) Try.results11 rfl [] (by decide) ?_
    refine ⟨congrArg (Value.int .i64) ?_, rfl⟩
    unfold checkP
    rw [if_pos (by omega)]
  · skip
    refine gl_op (op_rd rfl (rd_move rfl) ?_)
    refine gl_yes rfl rfl (op_rd rfl (rd_move rfl) ?_)
    refine gl_yes rfl rfl (op_rd rfl (rd_lenSlice Try.underlying23 rfl) ?_)
    refine gl_yes rfl rfl (op_rd rfl (rd_gtr rfl rfl) (gk_dec (fun h2 => ?_) (fun h2 => ?_)))
    · skip
      refine gl_op (op_rd rfl (rd_pick_f rfl rfl) ?_)
      refine gl_nil ?_
      refine gx_then ?_
      refine gc_cond_t rfl ?_
      refine gc_seq ?_
      refine gc_region ?_
      refine gl_op (op_rd rfl (rd_assign rfl) ?_)
      refine gl_nil ?_
      refine gx_then ?_
      refine gc_ret ?_
      refine gx_then_ret ?_
      refine gx_ret1 (.inl rfl) Try.results11 rfl [] (by decide) ?_
      refine ⟨congrArg (Value.int .i64) ?_, rfl⟩
      unfold checkP
      rw [if_pos (by omega)]
    · skip
      refine gl_op (op_rd rfl (rd_pick_f rfl rfl) ?_)
      refine gl_nil ?_
      refine gx_then ?_
      refine gc_cond_f rfl ?_
      refine gc_skip ?_
      refine gx_then ?_
      refine gc_seq ?_
      refine gc_seq ?_
      refine gc_region ?_
      refine gl_op (op_rd rfl (rd_move rfl) ?_)
      refine gl_op (op_call rfl (vf := []) (vc := []) rfl rfl Try.call27 (fun w1 ho => allP_ok l a ca w1 (hl.at ho) hlb) ?_)
      rintro _ _ ⟨rfl, rfl⟩
      refine gk_bool (fun h3 => ?_) (fun h3 => ?_)
      · skip
        refine gl_op (op_rd rfl (rd_not rfl) ?_)
        refine gl_op (op_rd rfl (rd_move rfl) ?_)
        refine gl_yes rfl rfl (op_rd rfl (rd_move rfl) ?_)
        refine gl_yes rfl rfl (op_call rfl (vf := []) (vc := []) rfl rfl Try.call28 (fun w1 ho => allW_ok w b cb w1 (hw.at ho) hwb) ?_)
        rintro _ _ ⟨rfl, rfl⟩
        refine gk_bool (fun h4 => ?_) (fun h4 => ?_)
        · skip
          refine gl_yes rfl rfl (op_rd rfl (rd_not rfl) ?_)
          refine gl_op (op_rd rfl (rd_pick_f rfl rfl) ?_)
          refine gl_nil ?_
          refine gx_then ?_
          refine gc_cond_f rfl ?_
          refine gc_skip ?_
          refine gx_then ?_
          refine gc_seq ?_
          refine gc_region ?_
          refine gl_op (op_rd rfl (rd_assign rfl) ?_)
          refine gl_nil ?_
          refine gx_then ?_
          refine gc_ret ?_
          refine gx_ret1 (.inl rfl) Try.results11 rfl [] (by decide) ?_
          refine ⟨congrArg (Value.int .i64) ?_, rfl⟩
          unfold checkP
          rw [if_neg (by omega)]
          simp [*]
        · skip
          refine gl_yes rfl rfl (op_rd rfl (rd_not rfl) ?_)
          refine gl_op (op_rd rfl (rd_pick_f rfl rfl) ?_)
          refine gl_nil ?_
          refine gx_then ?_
          refine gc_cond_t rfl ?_
          refine gc_seq ?_
          refine gc_region ?_
          refine gl_op (op_rd rfl (rd_assign rfl) ?_)
          refine gl_nil ?_
          refine gx_then ?_
          refine gc_ret ?_
          refine gx_then_ret ?_
          refine gx_ret1 (.inl rfl) Try.results11 rfl [] (by decide) ?_
          refine ⟨congrArg (Value.int .i64) ?_, rfl⟩
          unfold checkP
          rw [if_neg (by omega)]
          simp [*]
      · skip
        refine gl_op (op_rd rfl (rd_not rfl) ?_)
        refine gl_op (op_rd rfl (rd_move rfl) ?_)
        refine gl_no rfl rfl rfl ?_
        refine gl_no rfl rfl rfl ?_
        refine gl_no rfl rfl rfl ?_
        refine gl_op (op_rd rfl (rd_pick_t rfl rfl) ?_)
        refine gl_nil ?_
        refine gx_then ?_
        refine gc_cond_t rfl ?_
        refine gc_seq ?_
        refine gc_region ?_
        refine gl_op (op_rd rfl (rd_assign rfl) ?_)
        refine gl_nil ?_
        refine gx_then ?_
        refine gc_ret ?_
        refine gx_then_ret ?_
        refine gx_ret1 (.inl rfl) Try.results11 rfl [] (by decide) ?_
        refine ⟨congrArg (Value.int .i64) ?_, rfl⟩
        unfold checkP
        rw [if_neg (by omega)]
        simp [*]

set_option maxRecDepth 100000 in
set_option maxHeartbeats 1000000 in
theorem rCheck_ok (l : List Pipe) (w : List Wish) (a b : Option Addr) (ca cb : Nat) (w0 : World) (hl : OldSl w0 [] a l.length 3 (l.flatMap Pipe.cells)) (hw : OldSl w0 [] b w.length 5 (w.flatMap Wish.cells)) (hlb : l.length ≤ 140737488355328) (hwb : w.length ≤ 140737488355328) : Sp Try.prog 12 [.slice a l.length ca, .slice b w.length cb] w0 [] (RV (.int .i64 (checkP l w))) := by
  refine spec_enter Try.func12 rfl Try.ntmps12 rfl (Own.refl _) ?_
  simp only [argEnv]
  refine gc_seq ?_
  refine gc_region ?_
  refine gl_op (op_rd rfl (rd_assign rfl) ?_)
  refine gl_nil ?_
  refine gx_then ?_
  refine gc_seq ?_
  refine gc_seq ?_
  refine gc_region ?_
  refine gl_op (op_rd rfl (rd_move rfl) ?_)
  refine gl_op (op_rd rfl (rd_lenSlice Try.underlying22 rfl) ?_)
  refine gl_op (op_rd rfl (rd_gtr rfl rfl) (gk_dec (fun h1 => ?_) (fun h1 => ?_)))
  · skip
    refine gl_op (op_rd rfl (rd_move rfl) ?_)
    refine gl_no rfl rfl rfl ?_
    refine gl_no rfl rfl rfl ?_
    refine gl_no rfl rfl rfl ?_
    refine gl_op (op_rd rfl (rd_pick_t rfl rfl) ?_)
    refine gl_nil ?_
    refine gx_then ?_
    refine gc_cond_t rfl ?_
    refine gc_seq ?_
    refine gc_region ?_
    refine gl_op (op_rd rfl (rd_assign rfl) ?_)
    refine gl_nil ?_
    refine gx_then ?_
    refine gc_ret ?_
    refine gx_then_ret ?_
    refine gx_ret1 (.inl rfl) Try.results12 rfl [] (by decide) ?_
    refine ⟨congrArg (Value.int .i64) ?_, rfl⟩
    unfold checkP
    rw [if_pos (by omega)]
  · skip
    refine gl_op (op_rd rfl (rd_move rfl) ?_)
    refine gl_yes rfl rfl (op_rd rfl (rd_move rfl) ?_)
    refine gl_yes rfl rfl (op_rd rfl (rd_lenSlice Try.underlying23 rfl) ?_)
    refine gl_yes rfl rfl (op_rd rfl (rd_gtr rfl rfl) (gk_dec (fun h2 => ?_) (fun h2 => ?_)))
    · skip
      refine gl_op (op_rd rfl (rd_pick_f rfl rfl) ?_)
      refine gl_nil ?_
      refine gx_then ?_
      refine gc_cond_t rfl ?_
      refine gc_seq ?_
      refine gc_region ?_
      refine gl_op (op_rd rfl (rd_assign rfl) ?_)
      refine gl_nil ?_
      refine gx_then ?_
      refine gc_ret ?_
      refine gx_then_ret ?_
      refine gx_ret1 (.inl rfl) Try.results12 rfl [] (by decide) ?_
      refine ⟨congrArg (Value.int .i64) ?_, rfl⟩
      unfold checkP
      rw [if_pos (by omega)]
    · skip
      refine gl_op (op_rd rfl (rd_pick_f rfl rfl) ?_)
      refine gl_nil ?_
      refine gx_then ?_
      refine gc_cond_f rfl ?_
      refine gc_skip ?_
      refine gx_then ?_
      refine gc_seq ?_
      refine gc_seq ?_
      refine gc_region ?_
      refine gl_op (op_rd rfl (rd_assign rfl) ?_)
      refine gl_nil ?_
      refine gx_then ?_
      refine gc_block ?_
      refine gc_loopF (ι := Nat) [(0, _), (1, _)] [] (fun j => j ≤ l.length ∧ ∀ x ∈ l.take j, pipedB x = true) (fun j Fr0 => ((5, natV j) :: Fr0)) (fun j Fr0 => Fr0) (fun j => l.length - j) 0 (⟨Nat.zero_le _, by simp⟩) ⟨rfl, rfl, rfl, trivial⟩ ⟨[], by decide, rfl⟩ ?_
      rintro i ⟨hi, hal⟩
      refine gc_seq ?_
      refine gc_seq ?_
      refine gc_region ?_
      refine gl_op (op_rd rfl (rd_move rfl) ?_)
      refine gl_op (op_rd rfl (rd_move rfl) ?_)
      refine gl_op (op_rd rfl (rd_lenSlice Try.underlying22 rfl) ?_)
      refine gl_op (op_rd rfl (rd_lss rfl rfl) (gk_dec (fun hlt => ?_) (fun hlt => ?_)))
      · skip
        obtain ⟨x, hx⟩ := get_some (show i < l.length by omega)
        refine gl_nil ?_
        refine gx_then ?_
        refine gc_cond_t rfl ?_
        refine gc_skip ?_
        refine gx_then ?_
        refine gc_seq ?_
        refine gc_block ?_
        refine gc_seq ?_
        refine gc_region ?_
        refine gl_op (op_rd rfl (rd_move rfl) ?_)
        refine gl_op (op_rd rfl (rd_move rfl) ?_)
        refine gl_op (op_rd rfl (by first | exact rd_indexS Try.underlying22 ty_25 rfl rfl (by omega) (by omega) | exact rd_indexOld (by assumption) Try.underlying22 ty_25 rfl rfl (by omega) (by omega) | exact rd_index Try.underlying22 ty_25 rfl rfl (by omega) (by omega)) ?_)
        refine gl_op (op_rd rfl (rd_loadAgg Try.underlying25 rfl ty_25 rfl (cs_slN hl (flat_drop_get Pipe.cells 3 (fun _ => rfl) hx)) rfl) ?_)
        simp only [Pipe.cells]
        refine gl_op (op_call rfl (vf := []) (vc := []) rfl rfl Try.call24 (fun w1 ho => rpipe_ok x w1) ?_)
        rintro _ _ ⟨rfl, rfl⟩
        refine gk_bool (fun hp => ?_) (fun hp => ?_)
        · skip
          refine gl_op (op_rd rfl (rd_not rfl) ?_)
          refine gl_nil ?_
          refine gx_then ?_
          refine gc_cond_f rfl ?_
          refine gc_skip ?_
          refine gx_block ?_
          refine gx_then ?_
          refine gc_region ?_
          refine gl_op (op_rd rfl (rd_move rfl) ?_)
          refine gl_op (op_rd rfl (by first | exact rd_addN (b := 1) rfl rfl (by omega) | exact rd_add rfl rfl (by omega) (by omega)) ?_)
          refine gl_op (op_rd rfl (rd_assign rfl) ?_)
          refine gl_nil ?_
          refine gx_then ?_
          exact gx_cut (i + 1) ⟨⟨by omega, fun y hy => by rw [take_at hx] at hy; rcases List.mem_append.1 hy with h | h; exact hal y h; simp at h; subst h; exact hp⟩, by omega⟩ ⟨rfl, rfl, rfl, trivial⟩ ⟨[], by decide, rfl⟩
        · skip
          refine gl_op (op_rd rfl (rd_not rfl) ?_)
          refine gl_nil ?_
          refine gx_then ?_
          refine gc_cond_t rfl ?_
          refine gc_seq ?_
          refine gc_region ?_
          refine gl_op (op_rd rfl (rd_assign rfl) ?_)
          refine gl_nil ?_
          refine gx_then ?_
          refine gc_ret ?_
          refine gx_block_ret ?_
          refine gx_then_ret ?_
          refine gx_then_ret ?_
          refine gx_block_ret ?_
          refine gx_then_ret ?_
          refine gx_ret1 (.inl rfl) Try.results12 rfl [] (by decide) ?_
          refine ⟨congrArg (Value.int .i64) ?_, rfl⟩
          unfold checkP
          have hnot : l.all pipedB = false := by cases h : l.all pipedB; rfl; exact absurd (List.all_eq_true.1 h x (List.mem_of_getElem? hx)) (by rw [hp]; simp)
          rw [if_neg (by omega), hnot]; rfl
      · skip
        have hall : l.all pipedB = true := by rw [show i = l.length by omega, List.take_length] at hal; exact List.all_eq_true.2 hal
        refine gl_nil ?_
        refine gx_then ?_
        refine gc_cond_f rfl ?_
        refine gc_exit ?_
        refine gx_then_exit ?_
        refine gx_then_exit ?_
        refine gx_block_exit ?_
        refine gx_then ?_
        refine gc_seq ?_
        refine gc_seq ?_
        refine gc_region ?_
        refine gl_op (op_rd rfl (rd_assign rfl) ?_)
        refine gl_nil ?_
        refine gx_then ?_
        refine gc_block ?_
        refine gc_loopF (ι := Nat) [(1, _)] [] (fun j => j ≤ w.length ∧ ∀ x ∈ w.take j, wishedB x = true) (fun j Fr0 => ((6, natV j) :: Fr0)) (fun j Fr0 => Fr0) (fun j => w.length - j) 0 (⟨Nat.zero_le _, by simp⟩) ⟨rfl, rfl, trivial⟩ ⟨[], by decide, rfl⟩ ?_
        rintro i ⟨hi2, haw⟩
        refine gc_seq ?_
        refine gc_seq ?_
        refine gc_region ?_
        refine gl_op (op_rd rfl (rd_move rfl) ?_)
        refine gl_op (op_rd rfl (rd_move rfl) ?_)
        refine gl_op (op_rd rfl (rd_lenSlice Try.underlying23 rfl) ?_)
        refine gl_op (op_rd rfl (rd_lss rfl rfl) (gk_dec (fun hlt2 => ?_) (fun hlt2 => ?_)))
        · skip
          obtain ⟨x, hx⟩ := get_some (show i < w.length by omega)
          refine gl_nil ?_
          refine gx_then ?_
          refine gc_cond_t rfl ?_
          refine gc_skip ?_
          refine gx_then ?_
          refine gc_seq ?_
          refine gc_block ?_
          refine gc_seq ?_
          refine gc_region ?_
          refine gl_op (op_rd rfl (rd_move rfl) ?_)
          refine gl_op (op_rd rfl (rd_move rfl) ?_)
          refine gl_op (op_rd rfl (by first | exact rd_indexS Try.underlying23 ty_29 rfl rfl (by omega) (by omega) | exact rd_indexOld (by assumption) Try.underlying23 ty_29 rfl rfl (by omega) (by omega) | exact rd_index Try.underlying23 ty_29 rfl rfl (by omega) (by omega)) ?_)
          refine gl_op (op_rd rfl (rd_loadAgg Try.underlying29 rfl ty_29 rfl (cs_slN hw (flat_drop_get Wish.cells 5 (fun _ => rfl) hx)) rfl) ?_)
          simp only [Wish.cells]
          refine gl_op (op_call rfl (vf := []) (vc := []) rfl rfl Try.call25 (fun w1 ho => rwish_ok x w1) ?_)
          rintro _ _ ⟨rfl, rfl⟩
          refine gk_bool (fun hp => ?_) (fun hp => ?_)
          · skip
            refine gl_op (op_rd rfl (rd_not rfl) ?_)
            refine gl_nil ?_
            refine gx_then ?_
            refine gc_cond_f rfl ?_
            refine gc_skip ?_
            refine gx_block ?_
            refine gx_then ?_
            refine gc_region ?_
            refine gl_op (op_rd rfl (rd_move rfl) ?_)
            refine gl_op (op_rd rfl (by first | exact rd_addN (b := 1) rfl rfl (by omega) | exact rd_add rfl rfl (by omega) (by omega)) ?_)
            refine gl_op (op_rd rfl (rd_assign rfl) ?_)
            refine gl_nil ?_
            refine gx_then ?_
            exact gx_cut (i + 1) ⟨⟨by omega, fun y hy => by rw [take_at hx] at hy; rcases List.mem_append.1 hy with h | h; exact haw y h; simp at h; subst h; exact hp⟩, by omega⟩ ⟨rfl, rfl, trivial⟩ ⟨[], by decide, rfl⟩
          · skip
            refine gl_op (op_rd rfl (rd_not rfl) ?_)
            refine gl_nil ?_
            refine gx_then ?_
            refine gc_cond_t rfl ?_
            refine gc_seq ?_
            refine gc_region ?_
            refine gl_op (op_rd rfl (rd_assign rfl) ?_)
            refine gl_nil ?_
            refine gx_then ?_
            refine gc_ret ?_
            refine gx_block_ret ?_
            refine gx_then_ret ?_
            refine gx_then_ret ?_
            refine gx_block_ret ?_
            refine gx_then_ret ?_
            refine gx_ret1 (.inl rfl) Try.results12 rfl [] (by decide) ?_
            refine ⟨congrArg (Value.int .i64) ?_, rfl⟩
            unfold checkP
            have hnot : w.all wishedB = false := by cases h : w.all wishedB; rfl; exact absurd (List.all_eq_true.1 h x (List.mem_of_getElem? hx)) (by rw [hp]; simp)
            rw [if_neg (by omega), hall, hnot]; rfl
        · skip
          refine gl_nil ?_
          refine gx_then ?_
          refine gc_cond_f rfl ?_
          refine gc_exit ?_
          refine gx_then_exit ?_
          refine gx_then_exit ?_
          refine gx_block_exit ?_
          refine gx_then ?_
          refine gc_seq ?_
          refine gc_region ?_
          refine gl_op (op_rd rfl (rd_assign rfl) ?_)
          refine gl_nil ?_
          refine gx_then ?_
          refine gc_ret ?_
          refine gx_ret1 (.inl rfl) Try.results12 rfl [] (by decide) ?_
          refine ⟨congrArg (Value.int .i64) ?_, rfl⟩
          unfold checkP
          have hall2 : w.all wishedB = true := by rw [show i = w.length by omega, List.take_length] at haw; exact List.all_eq_true.2 haw
          rw [if_neg (by omega), hall, hall2]; rfl

set_option maxRecDepth 100000 in
set_option maxHeartbeats 1000000 in
theorem Fit_ok (p : Pipe) (x : Wish) (w0 : World) : Sp Try.prog 9 [p.val, x.val] w0 [] (RV (.tuple #[.int .i64 (FitP p x).1, .bool (FitP p x).2.1, .int .i64 (FitP p x).2.2])) := by
  refine spec_enter Try.func9 rfl Try.ntmps9 rfl (Own.refl _) ?_
  simp only [argEnv]
  refine gc_seq ?_
  refine gc_region ?_
  refine gl_op (op_box rfl rfl rfl (fun b2 => ?_))
  refine gl_op (op_box rfl rfl rfl (fun b3 => ?_))
  refine gl_op (op_rd rfl (rd_assign rfl) ?_)
  refine gl_op (op_rd rfl (rd_assign rfl) ?_)
  refine gl_op (op_rd rfl (rd_assign rfl) ?_)
  refine gl_nil ?_
  refine gx_then ?_
  refine gc_seq ?_
  refine gc_seq ?_
  refine gc_region ?_
  refine gl_op (op_rd rfl (rd_loadAgg Try.underlying25 rfl ty_25 rfl (by first | exact cs_blk 0 (off := 0) (k := 3) rfl rfl | exact cs_blk 1 (off := 0) (k := 3) rfl rfl | exact cs_old (by assumption) (by simp)) rfl) ?_)
  refine gl_op (op_call rfl (vf := []) (vc := []) rfl rfl Try.call21 (fun w ho => piped_ok p w) ?_)
  rintro _ _ ⟨rfl, rfl⟩
  refine gk_bool (fun h1 => ?_) (fun h1 => ?_)
  · skip
    refine gl_op (op_rd rfl (rd_not rfl) ?_)
    refine gl_op (op_rd rfl (rd_move rfl) ?_)
    refine gl_yes rfl rfl (op_rd rfl (rd_loadAgg Try.underlying29 rfl ty_29 rfl (by first | exact cs_blk 0 (off := 0) (k := 5) rfl rfl | exact cs_blk 1 (off := 0) (k := 5) rfl rfl | exact cs_old (by assumption) (by simp)) rfl) ?_)
    refine gl_yes rfl rfl (op_call rfl (vf := []) (vc := []) rfl rfl Try.call22 (fun w ho => wished_ok x w) ?_)
    rintro _ _ ⟨rfl, rfl⟩
    refine gk_bool (fun h2 => ?_) (fun h2 => ?_)
    · skip
      refine gl_yes rfl rfl (op_rd rfl (rd_not rfl) ?_)
      refine gl_op (op_rd rfl (rd_pick_f rfl rfl) ?_)
      refine gl_nil ?_
      refine gx_then ?_
      refine gc_cond_f rfl ?_
      refine gc_skip ?_
      refine gx_then ?_
      refine gc_seq ?_
      refine gc_region ?_
      refine gl_op (op_rd rfl (rd_loadAgg Try.underlying25 rfl ty_25 rfl (by first | exact cs_blk 0 (off := 0) (k := 3) rfl rfl | exact cs_blk 1 (off := 0) (k := 3) rfl rfl | exact cs_old (by assumption) (by simp)) rfl) ?_)
      refine gl_op (op_rd rfl (rd_loadAgg Try.underlying29 rfl ty_29 rfl (by first | exact cs_blk 0 (off := 0) (k := 5) rfl rfl | exact cs_blk 1 (off := 0) (k := 5) rfl rfl | exact cs_old (by assumption) (by simp)) rfl) ?_)
      refine gl_op (op_call rfl (vf := []) (vc := []) rfl rfl Try.call23 (fun w ho => fit_ok p x ((pipedB_iff p).1 h1) ((wishedB_iff x).1 h2) w) ?_)
      rintro _ _ ⟨rfl, rfl⟩
      refine gl_op (op_rd rfl (rd_move rfl) ?_)
      refine gl_op (op_rd rfl (rd_extract rfl rfl) ?_)
      refine gl_op (op_rd rfl (rd_extract rfl rfl) ?_)
      refine gl_op (op_rd rfl (rd_assign rfl) ?_)
      refine gl_op (op_rd rfl (rd_assign rfl) ?_)
      refine gl_nil ?_
      refine gx_then ?_
      refine gc_seq ?_
      refine gc_region ?_
      refine gl_op (op_rd rfl (rd_move rfl) ?_)
      refine gl_op (op_rd rfl (rd_move rfl) ?_)
      refine gl_op (op_rd rfl (rd_assign rfl) ?_)
      refine gl_op (op_rd rfl (rd_assign rfl) ?_)
      refine gl_op (op_rd rfl (rd_assign rfl) ?_)
      refine gl_nil ?_
      refine gx_then ?_
      refine gc_ret ?_
      refine gx_ret3 (.inl rfl) Try.results9 rfl rfl rfl [] (by decide) ?_
      refine ⟨?_, rfl⟩
      unfold FitP
      rw [if_pos ⟨h1, h2⟩]
      try rfl
    · skip
      refine gl_yes rfl rfl (op_rd rfl (rd_not rfl) ?_)
      refine gl_op (op_rd rfl (rd_pick_f rfl rfl) ?_)
      refine gl_nil ?_
      refine gx_then ?_
      refine gc_cond_t rfl ?_
      refine gc_seq ?_
      refine gc_region ?_
      refine gl_op (op_rd rfl (rd_assign rfl) ?_)
      refine gl_op (op_rd rfl (rd_assign rfl) ?_)
      refine gl_op (op_rd rfl (rd_assign rfl) ?_)
      refine gl_nil ?_
      refine gx_then ?_
      refine gc_ret ?_
      refine gx_then_ret ?_
      refine gx_ret3 (.inl rfl) Try.results9 rfl rfl rfl [] (by decide) ?_
      refine ⟨?_, rfl⟩
      unfold FitP
      rw [if_neg (by simp [*])]
  · skip
    refine gl_op (op_rd rfl (rd_not rfl) ?_)
    refine gl_op (op_rd rfl (rd_move rfl) ?_)
    refine gl_no rfl rfl rfl ?_
    refine gl_no rfl rfl rfl ?_
    refine gl_no rfl rfl rfl ?_
    refine gl_op (op_rd rfl (rd_pick_t rfl rfl) ?_)
    refine gl_nil ?_
    refine gx_then ?_
    refine gc_cond_t rfl ?_
    refine gc_seq ?_
    refine gc_region ?_
    refine gl_op (op_rd rfl (rd_assign rfl) ?_)
    refine gl_op (op_rd rfl (rd_assign rfl) ?_)
    refine gl_op (op_rd rfl (rd_assign rfl) ?_)
    refine gl_nil ?_
    refine gx_then ?_
    refine gc_ret ?_
    refine gx_then_ret ?_
    refine gx_ret3 (.inl rfl) Try.results9 rfl rfl rfl [] (by decide) ?_
    refine ⟨?_, rfl⟩
    unfold FitP
    rw [if_neg (by simp [*])]

set_option maxRecDepth 100000 in
set_option maxHeartbeats 1000000 in
theorem rFit_ok (p : Pipe) (x : Wish) (w0 : World) : Sp Try.prog 10 [p.val, x.val] w0 [] (RV (.tuple #[.int .i64 (FitP p x).1, .bool (FitP p x).2.1, .int .i64 (FitP p x).2.2])) := by
  refine spec_enter Try.func10 rfl Try.ntmps10 rfl (Own.refl _) ?_
  simp only [argEnv]
  refine gc_seq ?_
  refine gc_region ?_
  refine gl_op (op_box rfl rfl rfl (fun b2 => ?_))
  refine gl_op (op_box rfl rfl rfl (fun b3 => ?_))
  refine gl_op (op_rd rfl (rd_assign rfl) ?_)
  refine gl_op (op_rd rfl (rd_assign rfl) ?_)
  refine gl_op (op_rd rfl (rd_assign rfl) ?_)
  refine gl_nil ?_
  refine gx_then ?_
  refine gc_seq ?_
  refine gc_seq ?_
  refine gc_region ?_
  refine gl_op (op_rd rfl (rd_loadAgg Try.underlying25 rfl ty_25 rfl (by first | exact cs_blk 0 (off := 0) (k := 3) rfl rfl | exact cs_blk 1 (off := 0) (k := 3) rfl rfl | exact cs_old (by assumption) (by simp)) rfl) ?_)
  refine gl_op (op_call rfl (vf := []) (vc := []) rfl rfl Try.call24 (fun w ho => rpipe_ok p w) ?_)
  rintro _ _ ⟨rfl, rfl⟩
  refine gk_bool (fun h1 => ?_) (fun h1 => ?_)
  · skip
    refine gl_op (op_rd rfl (rd_not rfl) ?_)
    refine gl_op (op_rd rfl (rd_move rfl) ?_)
    refine gl_yes rfl rfl (op_rd rfl (rd_loadAgg Try.underlying29 rfl ty_29 rfl (by first | exact cs_blk 0 (off := 0) (k := 5) rfl rfl | exact cs_blk 1 (off := 0) (k := 5) rfl rfl | exact cs_old (by assumption) (by simp)) rfl) ?_)
    refine gl_yes rfl rfl (op_call rfl (vf := []) (vc := []) rfl rfl Try.call25 (fun w ho => rwish_ok x w) ?_)
    rintro _ _ ⟨rfl, rfl⟩
    refine gk_bool (fun h2 => ?_) (fun h2 => ?_)
    · skip
      refine gl_yes rfl rfl (op_rd rfl (rd_not rfl) ?_)
      refine gl_op (op_rd rfl (rd_pick_f rfl rfl) ?_)
      refine gl_nil ?_
      refine gx_then ?_
      refine gc_cond_f rfl ?_
      refine gc_skip ?_
      refine gx_then ?_
      refine gc_seq ?_
      refine gc_region ?_
      refine gl_op (op_rd rfl (rd_loadAgg Try.underlying25 rfl ty_25 rfl (by first | exact cs_blk 0 (off := 0) (k := 3) rfl rfl | exact cs_blk 1 (off := 0) (k := 3) rfl rfl | exact cs_old (by assumption) (by simp)) rfl) ?_)
      refine gl_op (op_rd rfl (rd_loadAgg Try.underlying29 rfl ty_29 rfl (by first | exact cs_blk 0 (off := 0) (k := 5) rfl rfl | exact cs_blk 1 (off := 0) (k := 5) rfl rfl | exact cs_old (by assumption) (by simp)) rfl) ?_)
      refine gl_op (op_call rfl (vf := []) (vc := []) rfl rfl Try.call26 (fun w ho => rfit_ok p x ((pipedB_iff p).1 h1) ((wishedB_iff x).1 h2) w) ?_)
      rintro _ _ ⟨rfl, rfl⟩
      refine gl_op (op_rd rfl (rd_assign rfl) ?_)
      refine gl_nil ?_
      refine gx_then ?_
      refine gc_seq ?_
      refine gc_region ?_
      refine gl_op (op_rd rfl (rd_move rfl) ?_)
      refine gl_op (op_rd rfl (rd_max2 rfl rfl) ?_)
      refine gl_op (op_rd rfl (rd_move rfl) ?_)
      refine gl_op (op_rd rfl (rd_geq rfl rfl) ?_)
      refine gl_op (op_rd rfl (rd_assign rfl) ?_)
      refine gl_op (op_rd rfl (rd_assign rfl) ?_)
      refine gl_op (op_rd rfl (rd_assign rfl) ?_)
      refine gl_nil ?_
      refine gx_then ?_
      refine gc_ret ?_
      refine gx_ret3 (.inl rfl) Try.results10 rfl rfl rfl [] (by decide) ?_
      obtain ⟨e1, e2⟩ := rfit_max p x
      rw [e1, e2]
      refine ⟨?_, rfl⟩
      unfold FitP
      rw [if_pos ⟨h1, h2⟩]
      try rfl
    · skip
      refine gl_yes rfl rfl (op_rd rfl (rd_not rfl) ?_)
      refine gl_op (op_rd rfl (rd_pick_f rfl rfl) ?_)
      refine gl_nil ?_
      refine gx_then ?_
      refine gc_cond_t rfl ?_
      refine gc_seq ?_
      refine gc_region ?_
      refine gl_op (op_rd rfl (rd_assign rfl) ?_)
      refine gl_op (op_rd rfl (rd_assign rfl) ?_)
      refine gl_op (op_rd rfl (rd_assign rfl) ?_)
      refine gl_nil ?_
      refine gx_then ?_
      refine gc_ret ?_
      refine gx_then_ret ?_
      refine gx_ret3 (.inl rfl) Try.results10 rfl rfl rfl [] (by decide) ?_
      refine ⟨?_, rfl⟩
      unfold FitP
      rw [if_neg (by simp [*])]
  · skip
    refine gl_op (op_rd rfl (rd_not rfl) ?_)
    refine gl_op (op_rd rfl (rd_move rfl) ?_)
    refine gl_no rfl rfl rfl ?_
    refine gl_no rfl rfl rfl ?_
    refine gl_no rfl rfl rfl ?_
    refine gl_op (op_rd rfl (rd_pick_t rfl rfl) ?_)
    refine gl_nil ?_
    refine gx_then ?_
    refine gc_cond_t rfl ?_
    refine gc_seq ?_
    refine gc_region ?_
    refine gl_op (op_rd rfl (rd_assign rfl) ?_)
    refine gl_op (op_rd rfl (rd_assign rfl) ?_)
    refine gl_op (op_rd rfl (rd_assign rfl) ?_)
    refine gl_nil ?_
    refine gx_then ?_
    refine gc_ret ?_
    refine gx_then_ret ?_
    refine gx_ret3 (.inl rfl) Try.results10 rfl rfl rfl [] (by decide) ?_
    refine ⟨?_, rfl⟩
    unfold FitP
    rw [if_neg (by simp [*])]

end Go.Proofs.Yteiopfefmphhaaa
