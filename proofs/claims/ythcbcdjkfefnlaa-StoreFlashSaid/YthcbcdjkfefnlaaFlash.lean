import Derived.Test.YthcbcdjkfefnlaaSc
import Derived.Test.YthcbcdjkfefnlaaSr
/- This text proves StoreFlashSaid: for every count of blocks and list of acts StoreFlash returns true, and its arguments read as before. -/
set_option linter.unusedSimpArgs false
set_option linter.unusedVariables false
set_option linter.unnecessarySimpa false
set_option autoImplicit false
set_option linter.unusedVariables false
namespace Go.Proofs.Ythcbcdjkfefnlaa
open Go.Gv
open Go.RowKit
open Iv
theorem eg_65 : Try.prog.eqGuardType Try.prog.depth 65 = false := by kernel_rfl
namespace Iv
/-- a flash of the reference -/
abbrev Fl.rcells (f : Fl) (rb : Option Nat) (cb : Nat) (rp : Option Nat) (cp : Nat) : List Value :=
  [.slice (rowA rb) f.b.length cb, .int .i64 f.left, .slice (rowA rp) f.picks.length cp, .bool f.down, natV f.pr, natV f.er]
abbrev RfH (br : Nat) (rb : Option Nat) (cb : Nat) (rp : Option Nat) (cp : Nat) (f : Fl) : List HL :=
  [.blk br (f.rcells rb cb rp cp) 110, .row 5 1 rb f.b.length cb (f.b.map u8V), .row 5 1 rp f.picks.length cp (f.picks.map u8V)]
def erTo (b : List Nat) (o n : Nat) : List Nat := (List.range n).foldl (fun b i => b.set (o + i) 255) b
theorem erTo_succ (b : List Nat) (o n : Nat) : erTo b o (n + 1) = (erTo b o n).set (o + n) 255 := by unfold erTo; rw [List.range_succ, List.foldl_append]; rfl
theorem erTo_eq (b : List Nat) (o : Nat) : ∀ n, o + n ≤ b.length → erTo b o n = b.take o ++ List.replicate n 255 ++ b.drop (o + n)
  | 0, _ => by simp [erTo]
  | n + 1, h => by
    rw [erTo_succ, erTo_eq b o n (by omega)]
    apply List.ext_getElem?
    intro i
    rw [List.getElem?_set]
    have hl : (b.take o ++ List.replicate n 255 ++ b.drop (o + n)).length = b.length := by simp; omega
    rw [hl]
    simp only [List.getElem?_append, List.length_append, List.length_take, List.length_replicate, Nat.min_eq_left (show o ≤ b.length by omega), List.getElem?_take, List.getElem?_drop, List.getElem?_replicate]
    by_cases h1 : i < o
    · simp [h1, show ¬ o + n = i by omega, show i < o + n by omega, show i < o + (n + 1) by omega]
    · by_cases h2 : i = o + n
      · subst h2
        simp [show o + n < b.length by omega]
        intro h3; omega
      · by_cases h3 : i < o + n
        · simp [h1, show ¬ o + n = i by omega, h3, show i < o + (n + 1) by omega, show i - o < n by omega, show i - o < n + 1 by omega]
        · simp [h1, show ¬ o + n = i by omega, h3, show ¬ i < o + (n + 1) by omega, show o + n + (i - (o + n)) = i by omega, show o + (n + 1) + (i - (o + (n + 1))) = i by omega]
theorem erTo_len (b : List Nat) (o : Nat) : ∀ n, (erTo b o n).length = b.length
  | 0 => rfl
  | n + 1 => by rw [erTo_succ, List.length_set, erTo_len b o n]
theorem erTo_lt {b : List Nat} (hb : ∀ z ∈ b, z < 256) (o : Nat) : ∀ n, ∀ z ∈ erTo b o n, z < 256
  | 0 => hb
  | n + 1 => by rw [erTo_succ]; exact set_lt (erTo_lt hb o n) (by decide)
theorem beg2 {f : Fl} {at_ many : Int} (h : at_ < 0 ∨ many ≤ at_) : flBegins f at_ many = 2 := by
  unfold flBegins
  split
  · rfl
  · rw [if_pos (by omega)]
theorem beg9 {f : Fl} {at_ many : Int} (h0 : 0 ≤ at_) (h1 : at_ < many) (hd : f.down = true) : flBegins f at_ many = 9 := by
  unfold flBegins; rw [if_neg (by omega), if_neg (by omega), if_pos hd]
theorem beg0 {f : Fl} {at_ many : Int} (h0 : 0 ≤ at_) (h1 : at_ < many) (hd : f.down = false) : flBegins f at_ many = 0 := by
  unfold flBegins; rw [if_neg (by omega), if_neg (by omega), if_neg (by rw [hd]; decide)]
end Iv

set_option maxRecDepth 100000 in
set_option maxHeartbeats 1000000 in
theorem rfails_ok (f : Fl) (hf : -1 ≤ f.left ∧ f.left ≤ 9223372036854775807) (hdn : f.down = false) (br : Nat) (rb : Option Nat) (cb : Nat) (rp : Option Nat) (cp : Nat) (S : List Nat) (w0 : World) (hown : Own w0 S w0 (RfH br rb cb rp cp f)) : Sp Try.prog 70 [.pointer (some ⟨br, 0, none⟩)] w0 S (fun v L => v = .bool (flFails f).down ∧ L = RfH br rb cb rp cp (flFails f)) := by
  have hl0 := hf.1
  have hl1 := hf.2
  refine spec_enter Try.func70 rfl Try.ntmps70 rfl hown ?_
  simp only [argEnv]
  refine gc_seq ?_
  refine gc_region ?_
  refine gl_op (op_rd rfl (rd_assign rfl) ?_)
  refine gl_nil ?_
  refine gx_then ?_
  refine gc_seq ?_
  refine gc_seq ?_
  refine gc_region ?_
  refine gl_op (op_rd rfl (rd_move rfl) ?_)
  refine gl_op (op_rd rfl (rd_nilCheck rfl) ?_)
  refine gl_op (op_rd rfl (rd_fieldAddr rfl (fa_110_1 _)) ?_)
  refine gl_op (op_rd rfl (rd_load Try.underlying3 rfl rfl (by first | exact ld_blk 0 rfl rfl | exact ld_rowN 1 rfl (get_nats (by omega)) | exact ld_rowN 2 rfl (get_nats (by omega)) | exact ld_slN (by assumption) (get_nats (by omega)) | exact ld_rowN 1 rfl (get_ints (by omega)) | exact ld_rowN 2 rfl (get_ints (by omega)) | exact ld_slN (by assumption) (get_ints (by omega)) | exact ld_old (by assumption) (by simp) | exact ld_cells (by assumption) (by simp) rfl)) ?_)
  refine gl_op (op_rd rfl (rd_eql rfl rfl) (gk_dec (fun h7 => ?_) (fun h7 => ?_)))
  · skip
    refine gl_nil ?_
    refine gx_then ?_
    refine gc_cond_t rfl ?_
    refine gc_seq ?_
    refine gc_region ?_
    refine gl_op (op_rd rfl (rd_move rfl) ?_)
    refine gl_op (op_rd rfl (rd_nilCheck rfl) ?_)
    refine gl_op (op_rd rfl (rd_fieldAddr rfl (fa_110_3 _)) ?_)
    first | refine gl_op (op_store 0 ty_4 rfl rfl rfl rfl rfl (by first | rfl | (simp only [List.set_cons_succ, List.set_cons_zero]; exact rfl)) (by first | rfl | (simp only [List.set_cons_succ, List.set_cons_zero]; exact rfl)) ?_) | refine gl_op (op_storeRow 1 ty_4 rfl rfl rfl rfl (by simp; omega) (by first | rfl | (simp only [List.set_cons_succ, List.set_cons_zero]; exact rfl)) ?_) | refine gl_op (op_storeRow 2 ty_4 rfl rfl rfl rfl (by simp; omega) (by first | rfl | (simp only [List.set_cons_succ, List.set_cons_zero]; exact rfl)) ?_)
    refine gl_nil ?_
    refine gx_then ?_
    refine gc_seq ?_
    refine gc_region ?_
    refine gl_op (op_rd rfl (rd_assign rfl) ?_)
    refine gl_nil ?_
    refine gx_then ?_
    refine gc_ret ?_
    refine gx_then_ret ?_
    refine gx_ret1 (.inl rfl) Try.results70 rfl [0, 1, 2] (by decide) ?_
    have hff : flFails f = { f with down := true } := by unfold flFails; rw [if_pos h7]
    rw [hff]
    exact ⟨rfl, rfl⟩
  · skip
    refine gl_nil ?_
    refine gx_then ?_
    refine gc_cond_f rfl ?_
    refine gc_skip ?_
    refine gx_then ?_
    refine gc_seq ?_
    refine gc_seq ?_
    refine gc_region ?_
    refine gl_op (op_rd rfl (rd_move rfl) ?_)
    refine gl_op (op_rd rfl (rd_nilCheck rfl) ?_)
    refine gl_op (op_rd rfl (rd_fieldAddr rfl (fa_110_1 _)) ?_)
    refine gl_op (op_rd rfl (rd_load Try.underlying3 rfl rfl (by first | exact ld_blk 0 rfl rfl | exact ld_rowN 1 rfl (get_nats (by omega)) | exact ld_rowN 2 rfl (get_nats (by omega)) | exact ld_slN (by assumption) (get_nats (by omega)) | exact ld_rowN 1 rfl (get_ints (by omega)) | exact ld_rowN 2 rfl (get_ints (by omega)) | exact ld_slN (by assumption) (get_ints (by omega)) | exact ld_old (by assumption) (by simp) | exact ld_cells (by assumption) (by simp) rfl)) ?_)
    refine gl_op (op_rd rfl (rd_gtr rfl rfl) (gk_dec (fun h15 => ?_) (fun h15 => ?_)))
    · skip
      refine gl_nil ?_
      refine gx_then ?_
      refine gc_cond_t rfl ?_
      refine gc_region ?_
      refine gl_op (op_rd rfl (rd_move rfl) ?_)
      refine gl_op (op_rd rfl (rd_nilCheck rfl) ?_)
      refine gl_op (op_rd rfl (rd_fieldAddr rfl (fa_110_1 _)) ?_)
      refine gl_op (op_rd rfl (rd_load Try.underlying3 rfl rfl (by first | exact ld_blk 0 rfl rfl | exact ld_rowN 1 rfl (get_nats (by omega)) | exact ld_rowN 2 rfl (get_nats (by omega)) | exact ld_slN (by assumption) (get_nats (by omega)) | exact ld_rowN 1 rfl (get_ints (by omega)) | exact ld_rowN 2 rfl (get_ints (by omega)) | exact ld_slN (by assumption) (get_ints (by omega)) | exact ld_old (by assumption) (by simp) | exact ld_cells (by assumption) (by simp) rfl)) ?_)
      refine gl_op (op_rd rfl (rd_sub rfl rfl (by omega) (by omega)) ?_)
      refine gl_op (op_rd rfl (rd_nilCheck rfl) ?_)
      refine gl_op (op_rd rfl (rd_fieldAddr rfl (fa_110_1 _)) ?_)
      first | refine gl_op (op_store 0 ty_3 rfl rfl rfl rfl rfl (by first | rfl | (simp only [List.set_cons_succ, List.set_cons_zero]; exact rfl)) (by first | rfl | (simp only [List.set_cons_succ, List.set_cons_zero]; exact rfl)) ?_) | refine gl_op (op_storeRow 1 ty_3 rfl rfl rfl rfl (by simp; omega) (by first | rfl | (simp only [List.set_cons_succ, List.set_cons_zero]; exact rfl)) ?_) | refine gl_op (op_storeRow 2 ty_3 rfl rfl rfl rfl (by simp; omega) (by first | rfl | (simp only [List.set_cons_succ, List.set_cons_zero]; exact rfl)) ?_)
      refine gl_nil ?_
      refine gx_then ?_
      refine gc_seq ?_
      refine gc_region ?_
      refine gl_op (op_rd rfl (rd_assign rfl) ?_)
      refine gl_nil ?_
      refine gx_then ?_
      refine gc_ret ?_
      refine gx_ret1 (.inl rfl) Try.results70 rfl [0, 1, 2] (by decide) ?_
      have hff : flFails f = { f with left := f.left - 1 } := by unfold flFails; rw [if_neg h7, if_pos h15, ← hdn]
      rw [hff]
      exact ⟨congrArg Value.bool hdn.symm, rfl⟩
    · skip
      refine gl_nil ?_
      refine gx_then ?_
      refine gc_cond_f rfl ?_
      refine gc_skip ?_
      refine gx_then ?_
      refine gc_seq ?_
      refine gc_region ?_
      refine gl_op (op_rd rfl (rd_assign rfl) ?_)
      refine gl_nil ?_
      refine gx_then ?_
      refine gc_ret ?_
      refine gx_ret1 (.inl rfl) Try.results70 rfl [0, 1, 2] (by decide) ?_
      have hff : flFails f = f := by unfold flFails; rw [if_neg h7, if_neg h15, ← hdn]
      rw [hff]
      exact ⟨congrArg Value.bool hdn.symm, rfl⟩

set_option maxRecDepth 100000 in
set_option maxHeartbeats 1000000 in
theorem rRead_ok (f : Fl) (hf : f.Ok) (br : Nat) (rb : Option Nat) (cb : Nat) (rp : Option Nat) (cp : Nat) (S : List Nat) (w0 : World) (hown : Own w0 S w0 (RfH br rb cb rp cp f)) (at_ : Int) : Sp Try.prog 57 [.pointer (some ⟨br, 0, none⟩), .int .i64 at_] w0 S (fun v L => v = .tuple #[u8V (flRead f at_).1, .int .i64 (flRead f at_).2] ∧ L = RfH br rb cb rp cp f) := by
  have hbl := hf.hi
  have hbl0 := hf.lo
  have hblm := hf.len
  have hpr := hf.pr
  have her := hf.er
  have hpl := hf.pl
  refine spec_enter Try.func57 rfl Try.ntmps57 rfl hown ?_
  simp only [argEnv]
  refine gc_seq ?_
  refine gc_region ?_
  refine gl_op (op_rd rfl (rd_assign rfl) ?_)
  refine gl_op (op_rd rfl (rd_assign rfl) ?_)
  refine gl_nil ?_
  refine gx_then ?_
  refine gc_seq ?_
  refine gc_seq ?_
  refine gc_region ?_
  refine gl_op (op_rd rfl (rd_move rfl) ?_)
  refine gl_op (op_rd rfl (rd_lss rfl rfl) (gk_dec (fun h7 => ?_) (fun h7 => ?_)))
  · skip
    refine gl_op (op_rd rfl (rd_move rfl) ?_)
    refine gl_no rfl rfl rfl ?_
    refine gl_no rfl rfl rfl ?_
    refine gl_no rfl rfl rfl ?_
    refine gl_no rfl rfl rfl ?_
    refine gl_no rfl rfl rfl ?_
    refine gl_no rfl rfl rfl ?_
    refine gl_no rfl rfl rfl ?_
    refine gl_op (op_rd rfl (rd_pick_t rfl rfl) ?_)
    refine gl_nil ?_
    refine gx_then ?_
    refine gc_cond_t rfl ?_
    refine gc_seq ?_
    refine gc_region ?_
    refine gl_op (op_rd rfl (rd_assign rfl) ?_)
    refine gl_op (op_rd rfl (rd_assign rfl) ?_)
    refine gl_nil ?_
    refine gx_then ?_
    refine gc_ret ?_
    refine gx_then_ret ?_
    refine gx_ret2 (.inl rfl) Try.results57 rfl rfl [0, 1, 2] (by decide) ?_
    have hb : flBegins f at_ f.b.length = 2 := beg2 (by omega)
    have hp : flRead f at_ = (0, 2) := by unfold flRead; rw [hb, if_pos (by decide)]
    rw [hp]
    exact ⟨rfl, rfl⟩
  · skip
    refine gl_op (op_rd rfl (rd_move rfl) ?_)
    refine gl_yes rfl rfl (op_rd rfl (rd_move rfl) ?_)
    refine gl_yes rfl rfl (op_rd rfl (rd_move rfl) ?_)
    refine gl_yes rfl rfl (op_rd rfl (rd_nilCheck rfl) ?_)
    refine gl_yes rfl rfl (op_rd rfl (rd_fieldAddr rfl (fa_110_0 _)) ?_)
    refine gl_yes rfl rfl (op_rd rfl (rd_load Try.underlying36 rfl rfl (by first | exact ld_blk 0 rfl rfl | exact ld_old (by assumption) (by simp) | exact ld_cells (by assumption) (by simp) rfl)) ?_)
    refine gl_yes rfl rfl (op_rd rfl (rd_lenSlice Try.underlying36 rfl) ?_)
    refine gl_yes rfl rfl (op_rd rfl (rd_geq rfl rfl) (gk_dec (fun h15 => ?_) (fun h15 => ?_)))
    · skip
      refine gl_op (op_rd rfl (rd_pick_f rfl rfl) ?_)
      refine gl_nil ?_
      refine gx_then ?_
      refine gc_cond_t rfl ?_
      refine gc_seq ?_
      refine gc_region ?_
      refine gl_op (op_rd rfl (rd_assign rfl) ?_)
      refine gl_op (op_rd rfl (rd_assign rfl) ?_)
      refine gl_nil ?_
      refine gx_then ?_
      refine gc_ret ?_
      refine gx_then_ret ?_
      refine gx_ret2 (.inl rfl) Try.results57 rfl rfl [0, 1, 2] (by decide) ?_
      have hb : flBegins f at_ f.b.length = 2 := beg2 (by omega)
      have hp : flRead f at_ = (0, 2) := by unfold flRead; rw [hb, if_pos (by decide)]
      rw [hp]
      exact ⟨rfl, rfl⟩
    · skip
      refine gl_op (op_rd rfl (rd_pick_f rfl rfl) ?_)
      refine gl_nil ?_
      refine gx_then ?_
      refine gc_cond_f rfl ?_
      refine gc_skip ?_
      refine gx_then ?_
      refine gc_seq ?_
      refine gc_seq ?_
      refine gc_region ?_
      refine gl_op (op_rd rfl (rd_move rfl) ?_)
      refine gl_op (op_rd rfl (rd_nilCheck rfl) ?_)
      refine gl_op (op_rd rfl (rd_fieldAddr rfl (fa_110_3 _)) ?_)
      refine gl_op (op_rd rfl (rd_load Try.underlying4 rfl rfl (by first | exact ld_blk 0 rfl rfl | exact ld_rowN 1 rfl (get_bools (by omega)) | exact ld_rowN 2 rfl (get_bools (by omega)) | exact ld_slN (by assumption) (get_bools (by omega)) | exact ld_old (by assumption) (by simp) | exact ld_cells (by assumption) (by simp) rfl)) ?_)
      refine gk_bool (fun h20 => ?_) (fun h20 => ?_)
      · skip
        refine gl_nil ?_
        refine gx_then ?_
        refine gc_cond_t rfl ?_
        refine gc_seq ?_
        refine gc_region ?_
        refine gl_op (op_rd rfl (rd_assign rfl) ?_)
        refine gl_op (op_rd rfl (rd_assign rfl) ?_)
        refine gl_nil ?_
        refine gx_then ?_
        refine gc_ret ?_
        refine gx_then_ret ?_
        refine gx_ret2 (.inl rfl) Try.results57 rfl rfl [0, 1, 2] (by decide) ?_
        have hb : flBegins f at_ f.b.length = 9 := beg9 (by omega) (by omega) h20
        have hp : flRead f at_ = (0, 9) := by unfold flRead; rw [hb, if_pos (by decide)]
        rw [hp]
        exact ⟨rfl, rfl⟩
      · skip
        have hb : flBegins f at_ f.b.length = 0 := beg0 (by omega) (by omega) h20
        obtain ⟨k, rfl⟩ : ∃ k : Nat, at_ = k := ⟨at_.toNat, by omega⟩
        refine gl_nil ?_
        refine gx_then ?_
        refine gc_cond_f rfl ?_
        refine gc_skip ?_
        refine gx_then ?_
        refine gc_seq ?_
        refine gc_region ?_
        refine gl_op (op_rd rfl (rd_move rfl) ?_)
        refine gl_op (op_rd rfl (rd_nilCheck rfl) ?_)
        refine gl_op (op_rd rfl (rd_fieldAddr rfl (fa_110_0 _)) ?_)
        refine gl_op (op_rd rfl (rd_load Try.underlying36 rfl rfl (by first | exact ld_blk 0 rfl rfl | exact ld_old (by assumption) (by simp) | exact ld_cells (by assumption) (by simp) rfl)) ?_)
        refine gl_op (op_rd rfl (rd_move rfl) ?_)
        refine gl_op (op_rd rfl (rd_indexRow1 1 rfl Try.underlying36 ty_5 rfl rfl (by omega) (by omega)) ?_)
        refine gl_op (op_rd rfl (rd_load Try.underlying5 rfl rfl (ld_rowN 1 rfl (get_u8n (gB_get (show k < f.b.length by omega))))) ?_)
        refine gl_op (op_rd rfl (rd_assign rfl) ?_)
        refine gl_op (op_rd rfl (rd_assign rfl) ?_)
        refine gl_nil ?_
        refine gx_then ?_
        refine gc_ret ?_
        refine gx_ret2 (.inl rfl) Try.results57 rfl rfl [0, 1, 2] (by decide) ?_
        have hp : flRead f (k : Int) = (gB f.b k, 0) := by unfold flRead; rw [if_neg (by omega), Int.toNat_natCast]
        rw [hp]
        exact ⟨rfl, rfl⟩

set_option maxRecDepth 100000 in
set_option maxHeartbeats 1000000 in
theorem rProgram_ok (f : Fl) (hf : f.Ok) (br : Nat) (rb : Option Nat) (cb : Nat) (rp : Option Nat) (cp : Nat) (S : List Nat) (w0 : World) (hown : Own w0 S w0 (RfH br rb cb rp cp f)) (at_ : Int) (u : Nat) (hv : u < 256) : Sp Try.prog 61 [.pointer (some ⟨br, 0, none⟩), .int .i64 at_, .int .u8 u] w0 S (fun v L => v = .int .i64 (flProg f at_ u).2 ∧ L = RfH br rb cb rp cp (flProg f at_ u).1) := by
  have hbl := hf.hi
  have hbl0 := hf.lo
  have hblm := hf.len
  have hpr := hf.pr
  have her := hf.er
  have hpl := hf.pl
  obtain ⟨gb, rfl, hcb⟩ := row_some (hown.holds (.row 5 1 rb f.b.length cb (f.b.map u8V)) (by simp)) (by omega)
  refine spec_enter Try.func61 rfl Try.ntmps61 rfl hown ?_
  simp only [argEnv]
  refine gc_seq ?_
  refine gc_region ?_
  refine gl_op (op_rd rfl (rd_assign rfl) ?_)
  refine gl_nil ?_
  refine gx_then ?_
  refine gc_seq ?_
  refine gc_seq ?_
  refine gc_region ?_
  refine gl_op (op_rd rfl (rd_move rfl) ?_)
  refine gl_op (op_rd rfl (rd_lss rfl rfl) (gk_dec (fun h9 => ?_) (fun h9 => ?_)))
  · skip
    refine gl_op (op_rd rfl (rd_move rfl) ?_)
    refine gl_no rfl rfl rfl ?_
    refine gl_no rfl rfl rfl ?_
    refine gl_no rfl rfl rfl ?_
    refine gl_no rfl rfl rfl ?_
    refine gl_no rfl rfl rfl ?_
    refine gl_no rfl rfl rfl ?_
    refine gl_no rfl rfl rfl ?_
    refine gl_op (op_rd rfl (rd_pick_t rfl rfl) ?_)
    refine gl_nil ?_
    refine gx_then ?_
    refine gc_cond_t rfl ?_
    refine gc_seq ?_
    refine gc_region ?_
    refine gl_op (op_rd rfl (rd_assign rfl) ?_)
    refine gl_nil ?_
    refine gx_then ?_
    refine gc_ret ?_
    refine gx_then_ret ?_
    refine gx_ret1 (.inl rfl) Try.results61 rfl [0, 1, 2] (by decide) ?_
    have hb : flBegins f at_ f.b.length = 2 := beg2 (by omega)
    have hp : flProg f at_ u = (f, 2) := by unfold flProg; rw [hb, if_pos (by decide)]
    rw [hp]
    exact ⟨rfl, rfl⟩
  · skip
    refine gl_op (op_rd rfl (rd_move rfl) ?_)
    refine gl_yes rfl rfl (op_rd rfl (rd_move rfl) ?_)
    refine gl_yes rfl rfl (op_rd rfl (rd_move rfl) ?_)
    refine gl_yes rfl rfl (op_rd rfl (rd_nilCheck rfl) ?_)
    refine gl_yes rfl rfl (op_rd rfl (rd_fieldAddr rfl (fa_110_0 _)) ?_)
    refine gl_yes rfl rfl (op_rd rfl (rd_load Try.underlying36 rfl rfl (by first | exact ld_blk 0 rfl rfl | exact ld_old (by assumption) (by simp) | exact ld_cells (by assumption) (by simp) rfl)) ?_)
    refine gl_yes rfl rfl (op_rd rfl (rd_lenSlice Try.underlying36 rfl) ?_)
    refine gl_yes rfl rfl (op_rd rfl (rd_geq rfl rfl) (gk_dec (fun h17 => ?_) (fun h17 => ?_)))
    · skip
      refine gl_op (op_rd rfl (rd_pick_f rfl rfl) ?_)
      refine gl_nil ?_
      refine gx_then ?_
      refine gc_cond_t rfl ?_
      refine gc_seq ?_
      refine gc_region ?_
      refine gl_op (op_rd rfl (rd_assign rfl) ?_)
      refine gl_nil ?_
      refine gx_then ?_
      refine gc_ret ?_
      refine gx_then_ret ?_
      refine gx_ret1 (.inl rfl) Try.results61 rfl [0, 1, 2] (by decide) ?_
      have hb : flBegins f at_ f.b.length = 2 := beg2 (by omega)
      have hp : flProg f at_ u = (f, 2) := by unfold flProg; rw [hb, if_pos (by decide)]
      rw [hp]
      exact ⟨rfl, rfl⟩
    · skip
      refine gl_op (op_rd rfl (rd_pick_f rfl rfl) ?_)
      refine gl_nil ?_
      refine gx_then ?_
      refine gc_cond_f rfl ?_
      refine gc_skip ?_
      refine gx_then ?_
      refine gc_seq ?_
      refine gc_seq ?_
      refine gc_region ?_
      refine gl_op (op_rd rfl (rd_move rfl) ?_)
      refine gl_op (op_rd rfl (rd_nilCheck rfl) ?_)
      refine gl_op (op_rd rfl (rd_fieldAddr rfl (fa_110_3 _)) ?_)
      refine gl_op (op_rd rfl (rd_load Try.underlying4 rfl rfl (by first | exact ld_blk 0 rfl rfl | exact ld_rowN 1 rfl (get_bools (by omega)) | exact ld_rowN 2 rfl (get_bools (by omega)) | exact ld_slN (by assumption) (get_bools (by omega)) | exact ld_old (by assumption) (by simp) | exact ld_cells (by assumption) (by simp) rfl)) ?_)
      refine gk_bool (fun h22 => ?_) (fun h22 => ?_)
      · skip
        refine gl_nil ?_
        refine gx_then ?_
        refine gc_cond_t rfl ?_
        refine gc_seq ?_
        refine gc_region ?_
        refine gl_op (op_rd rfl (rd_assign rfl) ?_)
        refine gl_nil ?_
        refine gx_then ?_
        refine gc_ret ?_
        refine gx_then_ret ?_
        refine gx_ret1 (.inl rfl) Try.results61 rfl [0, 1, 2] (by decide) ?_
        have hb : flBegins f at_ f.b.length = 9 := beg9 (by omega) (by omega) h22
        have hp : flProg f at_ u = (f, 9) := by unfold flProg; rw [hb, if_pos (by decide)]
        rw [hp]
        exact ⟨rfl, rfl⟩
      · skip
        have hb : flBegins f at_ f.b.length = 0 := beg0 (by omega) (by omega) h22
        obtain ⟨k, rfl⟩ : ∃ k : Nat, at_ = k := ⟨at_.toNat, by omega⟩
        refine gl_nil ?_
        refine gx_then ?_
        refine gc_cond_f rfl ?_
        refine gc_skip ?_
        refine gx_then ?_
        refine gc_seq ?_
        refine gc_region ?_
        refine gl_op (op_rd rfl (rd_move rfl) ?_)
        refine gl_op (op_rd rfl (rd_nilCheck rfl) ?_)
        refine gl_op (op_rd rfl (rd_fieldAddr rfl (fa_110_4 _)) ?_)
        refine gl_op (op_rd rfl (rd_load Try.underlying3 rfl rfl (by first | exact ld_blk 0 rfl rfl | exact ld_rowN 1 rfl (get_nats (by omega)) | exact ld_rowN 2 rfl (get_nats (by omega)) | exact ld_slN (by assumption) (get_nats (by omega)) | exact ld_rowN 1 rfl (get_ints (by omega)) | exact ld_rowN 2 rfl (get_ints (by omega)) | exact ld_slN (by assumption) (get_ints (by omega)) | exact ld_old (by assumption) (by simp) | exact ld_cells (by assumption) (by simp) rfl)) ?_)
        refine gl_op (op_rd rfl (by first | exact rd_addN (b := 1) rfl rfl (by omega) | exact rd_add rfl rfl (by omega) (by omega)) ?_)
        refine gl_op (op_rd rfl (rd_nilCheck rfl) ?_)
        refine gl_op (op_rd rfl (rd_fieldAddr rfl (fa_110_4 _)) ?_)
        first | refine gl_op (op_store 0 ty_3 rfl rfl rfl rfl rfl (by first | rfl | (simp only [List.set_cons_succ, List.set_cons_zero]; exact rfl)) (by first | rfl | (simp only [List.set_cons_succ, List.set_cons_zero]; exact rfl)) ?_) | refine gl_op (op_storeRow 1 ty_3 rfl rfl rfl rfl (by simp; omega) (by first | rfl | (simp only [List.set_cons_succ, List.set_cons_zero]; exact rfl)) ?_) | refine gl_op (op_storeRow 2 ty_3 rfl rfl rfl rfl (by simp; omega) (by first | rfl | (simp only [List.set_cons_succ, List.set_cons_zero]; exact rfl)) ?_)
        refine gl_nil ?_
        refine gx_then ?_
        refine gc_seq ?_
        refine gc_seq ?_
        refine gc_region ?_
        refine gl_op (op_rd rfl (rd_move rfl) ?_)
        refine gl_op (op_callM [0, 1, 2] [] rfl (vf := []) (vc := []) rfl rfl Try.call70 (by decide) rfl (fun w how hc => rfails_ok { f with pr := f.pr + 1 } ⟨hf.l0, hf.l1⟩ h22 br (some gb) cb rp cp _ w hc) ?_)
        rintro _ _ ⟨rfl, rfl⟩
        obtain ⟨g, hg⟩ : ∃ g, flFails { f with pr := f.pr + 1 } = g := ⟨_, rfl⟩
        have hgb : g.b = f.b := by rw [← hg, flFails_b]
        have hgp : g.picks = f.picks := by rw [← hg, flFails_picks]
        have hgl : g.b.length = f.b.length := by rw [hgb]
        have hgpl : g.picks.length = f.picks.length := by rw [hgp]
        rw [hg]
        have hgbs : ∀ z ∈ g.b, z < 256 := by rw [hgb]; exact hf.bs
        have hgps : ∀ z ∈ g.picks, z < 256 := by rw [hgp]; exact hf.ps
        refine gk_bool (fun hfd => ?_) (fun hfd => ?_)
        · skip
          refine gl_nil ?_
          refine gx_then ?_
          refine gc_cond_t rfl ?_
          refine gc_seq ?_
          refine gc_region ?_
          refine gl_op (op_rd rfl (rd_assign rfl) ?_)
          refine gl_nil ?_
          refine gx_then ?_
          refine gc_seq ?_
          refine gc_seq ?_
          refine gc_region ?_
          refine gl_op (op_rd rfl (rd_move rfl) ?_)
          refine gl_op (op_rd rfl (rd_nilCheck rfl) ?_)
          refine gl_op (op_rd rfl (rd_fieldAddr rfl (fa_110_2 _)) ?_)
          refine gl_op (op_rd rfl (rd_load Try.underlying36 rfl rfl (by first | exact ld_blk 0 rfl rfl | exact ld_old (by assumption) (by simp) | exact ld_cells (by assumption) (by simp) rfl)) ?_)
          refine gl_op (op_rd rfl (rd_lenSlice Try.underlying36 rfl) ?_)
          refine gl_op (op_rd rfl (rd_gtr rfl rfl) (gk_dec (fun h37 => ?_) (fun h37 => ?_)))
          · skip
            refine gl_nil ?_
            refine gx_then ?_
            refine gc_cond_t rfl ?_
            refine gc_region ?_
            refine gl_op (op_rd rfl (rd_move rfl) ?_)
            refine gl_op (op_rd rfl (rd_nilCheck rfl) ?_)
            refine gl_op (op_rd rfl (rd_fieldAddr rfl (fa_110_2 _)) ?_)
            refine gl_op (op_rd rfl (rd_load Try.underlying36 rfl rfl (by first | exact ld_blk 0 rfl rfl | exact ld_old (by assumption) (by simp) | exact ld_cells (by assumption) (by simp) rfl)) ?_)
            refine gl_op (op_rd rfl (rd_indexRow1 2 rfl Try.underlying36 ty_5 rfl rfl (by omega) (by omega)) ?_)
            refine gl_op (op_rd rfl (rd_load Try.underlying5 rfl rfl (ld_rowN 2 rfl (get_u8n (gB_get (show 0 < g.picks.length by omega))))) ?_)
            refine gl_op (op_rd rfl (rd_assign rfl) ?_)
            refine gl_nil ?_
            refine gx_then ?_
            refine gc_seq ?_
            refine gc_drawP [0, 2] false 17 rfl ?_
            refine ga_first 0 #[true, false, false, false, false, false, false, false, false, false, false, false, false, false, false, false, false, false] rfl rfl rfl rfl (by kernel_rfl) rfl ⟨[0, 2], by decide, rfl⟩ (qt_rd (rd_move rfl)) ?_
            refine ga_first 1 #[true, true, false, false, false, false, false, false, false, false, false, false, false, false, false, false, false, false] rfl rfl rfl rfl (by kernel_rfl) rfl ⟨[0, 2], by decide, rfl⟩ (qt_rd (rd_nilCheck rfl)) ?_
            refine ga_first 2 #[true, true, true, false, false, false, false, false, false, false, false, false, false, false, false, false, false, false] rfl rfl rfl rfl (by kernel_rfl) rfl ⟨[0, 2], by decide, rfl⟩ (qt_rd (rd_fieldAddr rfl (fa_110_0 _))) ?_
            refine ga_first 3 #[true, true, true, true, false, false, false, false, false, false, false, false, false, false, false, false, false, false] rfl rfl rfl rfl (by kernel_rfl) rfl ⟨[0, 2], by decide, rfl⟩ (qt_rd (rd_load Try.underlying36 rfl rfl (by first | exact ld_blk 0 rfl rfl | exact ld_old (by assumption) (by simp) | exact ld_cells (by assumption) (by simp) rfl))) ?_
            refine ga_first 4 #[true, true, true, true, true, false, false, false, false, false, false, false, false, false, false, false, false, false] rfl rfl rfl rfl (by kernel_rfl) rfl ⟨[0, 2], by decide, rfl⟩ (qt_rd (rd_move rfl)) ?_
            refine ga_first 5 #[true, true, true, true, true, true, false, false, false, false, false, false, false, false, false, false, false, false] rfl rfl rfl rfl (by kernel_rfl) rfl ⟨[0, 2], by decide, rfl⟩ (qt_rd (rd_move rfl)) ?_
            refine ga_first 6 #[true, true, true, true, true, true, true, false, false, false, false, false, false, false, false, false, false, false] rfl rfl rfl rfl (by kernel_rfl) rfl ⟨[0, 2], by decide, rfl⟩ (qt_rd (rd_nilCheck rfl)) ?_
            refine ga_first 7 #[true, true, true, true, true, true, true, true, false, false, false, false, false, false, false, false, false, false] rfl rfl rfl rfl (by kernel_rfl) rfl ⟨[0, 2], by decide, rfl⟩ (qt_rd (rd_fieldAddr rfl (fa_110_0 _))) ?_
            refine ga_first 8 #[true, true, true, true, true, true, true, true, true, false, false, false, false, false, false, false, false, false] rfl rfl rfl rfl (by kernel_rfl) rfl ⟨[0, 2], by decide, rfl⟩ (qt_rd (rd_load Try.underlying36 rfl rfl (by first | exact ld_blk 0 rfl rfl | exact ld_old (by assumption) (by simp) | exact ld_cells (by assumption) (by simp) rfl))) ?_
            refine ga_first 9 #[true, true, true, true, true, true, true, true, true, true, false, false, false, false, false, false, false, false] rfl rfl rfl rfl (by kernel_rfl) rfl ⟨[0, 2], by decide, rfl⟩ (qt_rd (rd_move rfl)) ?_
            refine ga_first 10 #[true, true, true, true, true, true, true, true, true, true, true, false, false, false, false, false, false, false] rfl rfl rfl rfl (by kernel_rfl) rfl ⟨[0, 2], by decide, rfl⟩ (qt_rd (rd_indexRS Try.underlying36 ty_5 rfl rfl (by omega) (by omega))) ?_
            refine ga_first 12 #[true, true, true, true, true, true, true, true, true, true, true, false, true, false, false, false, false, false] rfl rfl rfl rfl (by kernel_rfl) rfl ⟨[0, 2], by decide, rfl⟩ (qt_rd (rd_move rfl)) ?_
            refine ga_first 13 #[true, true, true, true, true, true, true, true, true, true, true, false, true, true, false, false, false, false] rfl rfl rfl rfl (by kernel_rfl) rfl ⟨[0, 2], by decide, rfl⟩ (qt_rd (rd_move rfl)) ?_
            refine ga_first 14 #[true, true, true, true, true, true, true, true, true, true, true, false, true, true, true, false, false, false] rfl rfl rfl rfl (by kernel_rfl) rfl ⟨[0, 2], by decide, rfl⟩ (qt_rd (rd_or8 rfl rfl (by first | exact hv | exact gB_lt hgps 0 | decide) (by first | exact hv | exact gB_lt hgps 0 | decide))) ?_
            refine ga_only 11 #[true, true, true, true, true, true, true, true, true, true, true, true, true, true, true, false, false, false] rfl rfl (by kernel_rfl) rfl (.inr ⟨[0, 2], by decide, rfl⟩) (op_rd rfl (rd_load Try.underlying5 rfl rfl (ld_row 1 (a := some gb) (off := k) rfl (get_u8n (gB_get (show k < g.b.length by omega))))) ?_)
            refine ga_first 15 #[true, true, true, true, true, true, true, true, true, true, true, true, true, true, true, true, false, false] rfl rfl rfl rfl (by kernel_rfl) rfl ⟨[0, 2], by decide, rfl⟩ (qt_rd (rd_and8 rfl rfl (by first | exact gB_lt hgbs k | exact Nat.or_lt_two_pow (n := 8) hv (gB_lt hgps 0) | exact Nat.or_lt_two_pow (n := 8) hv (by decide)) (by first | exact gB_lt hgbs k | exact Nat.or_lt_two_pow (n := 8) hv (gB_lt hgps 0) | exact Nat.or_lt_two_pow (n := 8) hv (by decide)))) ?_
            refine ga_first 16 #[true, true, true, true, true, true, true, true, true, true, true, true, true, true, true, true, true, false] rfl rfl rfl rfl (by kernel_rfl) rfl ⟨[0, 2], by decide, rfl⟩ (qt_rd (rd_indexRS Try.underlying36 ty_5 rfl rfl (by omega) (by omega))) ?_
            refine ga_only 17 #[true, true, true, true, true, true, true, true, true, true, true, true, true, true, true, true, true, true] rfl rfl (by kernel_rfl) rfl (.inr ⟨[0, 2], by decide, rfl⟩) (op_storeRowE 1 ty_5 rfl rfl rfl rfl (by simp; omega) (setU8 g.b k _) (by first | rfl | (simp only [List.set_cons_succ, List.set_cons_zero]; exact rfl)) ?_)
            refine ga_end (by kernel_rfl) (.inl (by kernel_rfl)) ?_
            refine gx_then ?_
            refine gc_seq ?_
            refine gc_region ?_
            refine gl_op (op_rd rfl (rd_assign rfl) ?_)
            refine gl_nil ?_
            refine gx_then ?_
            refine gc_ret ?_
            refine gx_then_ret ?_
            refine gx_ret1 (.inl rfl) Try.results61 rfl [0, 1, 2] (by decide) ?_
            have hp : flProg f (k : Int) u = flProg1 f k u := by unfold flProg; rw [if_neg (by omega), Int.toNat_natCast]
            have hp1 : flProg1 f k u = ({ g with b := g.b.set k (gB g.b k &&& (u ||| gB g.picks 0)) }, 9) := by unfold flProg1; rw [hg, if_neg (by rw [hfd]; decide), if_pos (show 0 < f.picks.length by omega), ← hgb, ← hgp]
            rw [hp, hp1]
            exact ⟨rfl, by simp only [pick, RfH, Fl.rcells, List.length_set]; rfl⟩
          · skip
            refine gl_nil ?_
            refine gx_then ?_
            refine gc_cond_f rfl ?_
            refine gc_skip ?_
            refine gx_then ?_
            refine gc_seq ?_
            refine gc_drawP [0, 2] false 17 rfl ?_
            refine ga_first 0 #[true, false, false, false, false, false, false, false, false, false, false, false, false, false, false, false, false, false] rfl rfl rfl rfl (by kernel_rfl) rfl ⟨[0, 2], by decide, rfl⟩ (qt_rd (rd_move rfl)) ?_
            refine ga_first 1 #[true, true, false, false, false, false, false, false, false, false, false, false, false, false, false, false, false, false] rfl rfl rfl rfl (by kernel_rfl) rfl ⟨[0, 2], by decide, rfl⟩ (qt_rd (rd_nilCheck rfl)) ?_
            refine ga_first 2 #[true, true, true, false, false, false, false, false, false, false, false, false, false, false, false, false, false, false] rfl rfl rfl rfl (by kernel_rfl) rfl ⟨[0, 2], by decide, rfl⟩ (qt_rd (rd_fieldAddr rfl (fa_110_0 _))) ?_
            refine ga_first 3 #[true, true, true, true, false, false, false, false, false, false, false, false, false, false, false, false, false, false] rfl rfl rfl rfl (by kernel_rfl) rfl ⟨[0, 2], by decide, rfl⟩ (qt_rd (rd_load Try.underlying36 rfl rfl (by first | exact ld_blk 0 rfl rfl | exact ld_old (by assumption) (by simp) | exact ld_cells (by assumption) (by simp) rfl))) ?_
            refine ga_first 4 #[true, true, true, true, true, false, false, false, false, false, false, false, false, false, false, false, false, false] rfl rfl rfl rfl (by kernel_rfl) rfl ⟨[0, 2], by decide, rfl⟩ (qt_rd (rd_move rfl)) ?_
            refine ga_first 5 #[true, true, true, true, true, true, false, false, false, false, false, false, false, false, false, false, false, false] rfl rfl rfl rfl (by kernel_rfl) rfl ⟨[0, 2], by decide, rfl⟩ (qt_rd (rd_move rfl)) ?_
            refine ga_first 6 #[true, true, true, true, true, true, true, false, false, false, false, false, false, false, false, false, false, false] rfl rfl rfl rfl (by kernel_rfl) rfl ⟨[0, 2], by decide, rfl⟩ (qt_rd (rd_nilCheck rfl)) ?_
            refine ga_first 7 #[true, true, true, true, true, true, true, true, false, false, false, false, false, false, false, false, false, false] rfl rfl rfl rfl (by kernel_rfl) rfl ⟨[0, 2], by decide, rfl⟩ (qt_rd (rd_fieldAddr rfl (fa_110_0 _))) ?_
            refine ga_first 8 #[true, true, true, true, true, true, true, true, true, false, false, false, false, false, false, false, false, false] rfl rfl rfl rfl (by kernel_rfl) rfl ⟨[0, 2], by decide, rfl⟩ (qt_rd (rd_load Try.underlying36 rfl rfl (by first | exact ld_blk 0 rfl rfl | exact ld_old (by assumption) (by simp) | exact ld_cells (by assumption) (by simp) rfl))) ?_
            refine ga_first 9 #[true, true, true, true, true, true, true, true, true, true, false, false, false, false, false, false, false, false] rfl rfl rfl rfl (by kernel_rfl) rfl ⟨[0, 2], by decide, rfl⟩ (qt_rd (rd_move rfl)) ?_
            refine ga_first 10 #[true, true, true, true, true, true, true, true, true, true, true, false, false, false, false, false, false, false] rfl rfl rfl rfl (by kernel_rfl) rfl ⟨[0, 2], by decide, rfl⟩ (qt_rd (rd_indexRS Try.underlying36 ty_5 rfl rfl (by omega) (by omega))) ?_
            refine ga_first 12 #[true, true, true, true, true, true, true, true, true, true, true, false, true, false, false, false, false, false] rfl rfl rfl rfl (by kernel_rfl) rfl ⟨[0, 2], by decide, rfl⟩ (qt_rd (rd_move rfl)) ?_
            refine ga_first 13 #[true, true, true, true, true, true, true, true, true, true, true, false, true, true, false, false, false, false] rfl rfl rfl rfl (by kernel_rfl) rfl ⟨[0, 2], by decide, rfl⟩ (qt_rd (rd_move rfl)) ?_
            refine ga_first 14 #[true, true, true, true, true, true, true, true, true, true, true, false, true, true, true, false, false, false] rfl rfl rfl rfl (by kernel_rfl) rfl ⟨[0, 2], by decide, rfl⟩ (qt_rd (rd_or8 rfl rfl (by first | exact hv | exact gB_lt hgps 0 | decide) (by first | exact hv | exact gB_lt hgps 0 | decide))) ?_
            refine ga_only 11 #[true, true, true, true, true, true, true, true, true, true, true, true, true, true, true, false, false, false] rfl rfl (by kernel_rfl) rfl (.inr ⟨[0, 2], by decide, rfl⟩) (op_rd rfl (rd_load Try.underlying5 rfl rfl (ld_row 1 (a := some gb) (off := k) rfl (get_u8n (gB_get (show k < g.b.length by omega))))) ?_)
            refine ga_first 15 #[true, true, true, true, true, true, true, true, true, true, true, true, true, true, true, true, false, false] rfl rfl rfl rfl (by kernel_rfl) rfl ⟨[0, 2], by decide, rfl⟩ (qt_rd (rd_and8 rfl rfl (by first | exact gB_lt hgbs k | exact Nat.or_lt_two_pow (n := 8) hv (gB_lt hgps 0) | exact Nat.or_lt_two_pow (n := 8) hv (by decide)) (by first | exact gB_lt hgbs k | exact Nat.or_lt_two_pow (n := 8) hv (gB_lt hgps 0) | exact Nat.or_lt_two_pow (n := 8) hv (by decide)))) ?_
            refine ga_first 16 #[true, true, true, true, true, true, true, true, true, true, true, true, true, true, true, true, true, false] rfl rfl rfl rfl (by kernel_rfl) rfl ⟨[0, 2], by decide, rfl⟩ (qt_rd (rd_indexRS Try.underlying36 ty_5 rfl rfl (by omega) (by omega))) ?_
            refine ga_only 17 #[true, true, true, true, true, true, true, true, true, true, true, true, true, true, true, true, true, true] rfl rfl (by kernel_rfl) rfl (.inr ⟨[0, 2], by decide, rfl⟩) (op_storeRowE 1 ty_5 rfl rfl rfl rfl (by simp; omega) (setU8 g.b k _) (by first | rfl | (simp only [List.set_cons_succ, List.set_cons_zero]; exact rfl)) ?_)
            refine ga_end (by kernel_rfl) (.inl (by kernel_rfl)) ?_
            refine gx_then ?_
            refine gc_seq ?_
            refine gc_region ?_
            refine gl_op (op_rd rfl (rd_assign rfl) ?_)
            refine gl_nil ?_
            refine gx_then ?_
            refine gc_ret ?_
            refine gx_then_ret ?_
            refine gx_ret1 (.inl rfl) Try.results61 rfl [0, 1, 2] (by decide) ?_
            have hp : flProg f (k : Int) u = flProg1 f k u := by unfold flProg; rw [if_neg (by omega), Int.toNat_natCast]
            have hp1 : flProg1 f k u = ({ g with b := g.b.set k (gB g.b k &&& (u ||| 0)) }, 9) := by unfold flProg1; rw [hg, if_neg (by rw [hfd]; decide), if_neg (show ¬ 0 < f.picks.length by omega), ← hgb, Nat.or_zero]
            rw [hp, hp1]
            exact ⟨rfl, by simp only [pick, RfH, Fl.rcells, List.length_set]; rfl⟩
        · skip
          refine gl_nil ?_
          refine gx_then ?_
          refine gc_cond_f rfl ?_
          refine gc_skip ?_
          refine gx_then ?_
          refine gc_seq ?_
          refine gc_drawP [0, 2] false 15 rfl ?_
          refine ga_first 0 #[true, false, false, false, false, false, false, false, false, false, false, false, false, false, false, false] rfl rfl rfl rfl (by kernel_rfl) rfl ⟨[0, 2], by decide, rfl⟩ (qt_rd (rd_move rfl)) ?_
          refine ga_first 1 #[true, true, false, false, false, false, false, false, false, false, false, false, false, false, false, false] rfl rfl rfl rfl (by kernel_rfl) rfl ⟨[0, 2], by decide, rfl⟩ (qt_rd (rd_nilCheck rfl)) ?_
          refine ga_first 2 #[true, true, true, false, false, false, false, false, false, false, false, false, false, false, false, false] rfl rfl rfl rfl (by kernel_rfl) rfl ⟨[0, 2], by decide, rfl⟩ (qt_rd (rd_fieldAddr rfl (fa_110_0 _))) ?_
          refine ga_first 3 #[true, true, true, true, false, false, false, false, false, false, false, false, false, false, false, false] rfl rfl rfl rfl (by kernel_rfl) rfl ⟨[0, 2], by decide, rfl⟩ (qt_rd (rd_load Try.underlying36 rfl rfl (by first | exact ld_blk 0 rfl rfl | exact ld_old (by assumption) (by simp) | exact ld_cells (by assumption) (by simp) rfl))) ?_
          refine ga_first 4 #[true, true, true, true, true, false, false, false, false, false, false, false, false, false, false, false] rfl rfl rfl rfl (by kernel_rfl) rfl ⟨[0, 2], by decide, rfl⟩ (qt_rd (rd_move rfl)) ?_
          refine ga_first 5 #[true, true, true, true, true, true, false, false, false, false, false, false, false, false, false, false] rfl rfl rfl rfl (by kernel_rfl) rfl ⟨[0, 2], by decide, rfl⟩ (qt_rd (rd_move rfl)) ?_
          refine ga_first 6 #[true, true, true, true, true, true, true, false, false, false, false, false, false, false, false, false] rfl rfl rfl rfl (by kernel_rfl) rfl ⟨[0, 2], by decide, rfl⟩ (qt_rd (rd_nilCheck rfl)) ?_
          refine ga_first 7 #[true, true, true, true, true, true, true, true, false, false, false, false, false, false, false, false] rfl rfl rfl rfl (by kernel_rfl) rfl ⟨[0, 2], by decide, rfl⟩ (qt_rd (rd_fieldAddr rfl (fa_110_0 _))) ?_
          refine ga_first 8 #[true, true, true, true, true, true, true, true, true, false, false, false, false, false, false, false] rfl rfl rfl rfl (by kernel_rfl) rfl ⟨[0, 2], by decide, rfl⟩ (qt_rd (rd_load Try.underlying36 rfl rfl (by first | exact ld_blk 0 rfl rfl | exact ld_old (by assumption) (by simp) | exact ld_cells (by assumption) (by simp) rfl))) ?_
          refine ga_first 9 #[true, true, true, true, true, true, true, true, true, true, false, false, false, false, false, false] rfl rfl rfl rfl (by kernel_rfl) rfl ⟨[0, 2], by decide, rfl⟩ (qt_rd (rd_move rfl)) ?_
          refine ga_first 10 #[true, true, true, true, true, true, true, true, true, true, true, false, false, false, false, false] rfl rfl rfl rfl (by kernel_rfl) rfl ⟨[0, 2], by decide, rfl⟩ (qt_rd (rd_indexRS Try.underlying36 ty_5 rfl rfl (by omega) (by omega))) ?_
          refine ga_first 12 #[true, true, true, true, true, true, true, true, true, true, true, false, true, false, false, false] rfl rfl rfl rfl (by kernel_rfl) rfl ⟨[0, 2], by decide, rfl⟩ (qt_rd (rd_move rfl)) ?_
          refine ga_only 11 #[true, true, true, true, true, true, true, true, true, true, true, true, true, false, false, false] rfl rfl (by kernel_rfl) rfl (.inr ⟨[0, 2], by decide, rfl⟩) (op_rd rfl (rd_load Try.underlying5 rfl rfl (ld_row 1 (a := some gb) (off := k) rfl (get_u8n (gB_get (show k < g.b.length by omega))))) ?_)
          refine ga_first 13 #[true, true, true, true, true, true, true, true, true, true, true, true, true, true, false, false] rfl rfl rfl rfl (by kernel_rfl) rfl ⟨[0, 2], by decide, rfl⟩ (qt_rd (rd_and8 rfl rfl (by first | exact gB_lt hgbs k | exact hv) (by first | exact gB_lt hgbs k | exact hv))) ?_
          refine ga_first 14 #[true, true, true, true, true, true, true, true, true, true, true, true, true, true, true, false] rfl rfl rfl rfl (by kernel_rfl) rfl ⟨[0, 2], by decide, rfl⟩ (qt_rd (rd_indexRS Try.underlying36 ty_5 rfl rfl (by omega) (by omega))) ?_
          refine ga_only 15 #[true, true, true, true, true, true, true, true, true, true, true, true, true, true, true, true] rfl rfl (by kernel_rfl) rfl (.inr ⟨[0, 2], by decide, rfl⟩) (op_storeRowE 1 ty_5 rfl rfl rfl rfl (by simp; omega) (setU8 g.b k _) (by first | rfl | (simp only [List.set_cons_succ, List.set_cons_zero]; exact rfl)) ?_)
          refine ga_end (by kernel_rfl) (.inl (by kernel_rfl)) ?_
          refine gx_then ?_
          refine gc_seq ?_
          refine gc_region ?_
          refine gl_op (op_rd rfl (rd_assign rfl) ?_)
          refine gl_nil ?_
          refine gx_then ?_
          refine gc_ret ?_
          refine gx_ret1 (.inl rfl) Try.results61 rfl [0, 1, 2] (by decide) ?_
          have hp : flProg f (k : Int) u = flProg1 f k u := by unfold flProg; rw [if_neg (by omega), Int.toNat_natCast]
          have hp1 : flProg1 f k u = ({ g with b := g.b.set k (gB g.b k &&& u) }, 0) := by unfold flProg1; rw [hg, if_pos (by rw [hfd]; rfl), ← hgb]
          rw [hp, hp1]
          exact ⟨rfl, by simp only [pick, RfH, Fl.rcells, List.length_set]; rfl⟩

end Go.Proofs.Ythcbcdjkfefnlaa

set_option autoImplicit false
set_option linter.unusedVariables false
namespace Go.Proofs.Ythcbcdjkfefnlaa
open Go.Gv
open Go.RowKit
open Iv
set_option maxRecDepth 100000 in
set_option maxHeartbeats 1000000 in
theorem rErase_ok (f : Fl) (hf : f.Ok) (br : Nat) (rb : Option Nat) (cb : Nat) (rp : Option Nat) (cp : Nat) (S : List Nat) (w0 : World) (hown : Own w0 S w0 (RfH br rb cb rp cp f)) (at_ : Int) : Sp Try.prog 56 [.pointer (some ⟨br, 0, none⟩), .int .i64 at_] w0 S (fun v L => v = .int .i64 (flErase f at_).2 ∧ L = RfH br rb cb rp cp (flErase f at_).1) := by
  have hbl := hf.hi
  have hbl0 := hf.lo
  have hblm := hf.len
  have hpr := hf.pr
  have her := hf.er
  have hpl := hf.pl
  obtain ⟨gb, rfl, hcb⟩ := row_some (hown.holds (.row 5 1 rb f.b.length cb (f.b.map u8V)) (by simp)) (by omega)
  refine spec_enter Try.func56 rfl Try.ntmps56 rfl hown ?_
  simp only [argEnv]
  refine gc_seq ?_
  refine gc_region ?_
  refine gl_op (op_rd rfl (rd_assign rfl) ?_)
  refine gl_nil ?_
  refine gx_then ?_
  refine gc_seq ?_
  refine gc_seq ?_
  refine gc_region ?_
  refine gl_op (op_rd rfl (rd_move rfl) ?_)
  refine gl_op (op_rd rfl (rd_lss rfl rfl) (gk_dec (fun h9 => ?_) (fun h9 => ?_)))
  · skip
    refine gl_op (op_rd rfl (rd_move rfl) ?_)
    refine gl_no rfl rfl rfl ?_
    refine gl_no rfl rfl rfl ?_
    refine gl_no rfl rfl rfl ?_
    refine gl_no rfl rfl rfl ?_
    refine gl_no rfl rfl rfl ?_
    refine gl_no rfl rfl rfl ?_
    refine gl_no rfl rfl rfl ?_
    refine gl_no rfl rfl rfl ?_
    refine gl_op (op_rd rfl (rd_pick_t rfl rfl) ?_)
    refine gl_nil ?_
    refine gx_then ?_
    refine gc_cond_t rfl ?_
    refine gc_seq ?_
    refine gc_region ?_
    refine gl_op (op_rd rfl (rd_assign rfl) ?_)
    refine gl_nil ?_
    refine gx_then ?_
    refine gc_ret ?_
    refine gx_then_ret ?_
    refine gx_ret1 (.inl rfl) Try.results56 rfl [0, 1, 2] (by decide) ?_
    have hb : flBegins f at_ ((f.b.length / 256 : Nat) : Int) = 2 := beg2 (by omega)
    have hp : flErase f at_ = (f, 2) := by unfold flErase; rw [hb, if_pos (by decide)]
    rw [hp]
    exact ⟨rfl, rfl⟩
  · skip
    refine gl_op (op_rd rfl (rd_move rfl) ?_)
    refine gl_yes rfl rfl (op_rd rfl (rd_move rfl) ?_)
    refine gl_yes rfl rfl (op_rd rfl (rd_move rfl) ?_)
    refine gl_yes rfl rfl (op_rd rfl (rd_nilCheck rfl) ?_)
    refine gl_yes rfl rfl (op_rd rfl (rd_fieldAddr rfl (fa_110_0 _)) ?_)
    refine gl_yes rfl rfl (op_rd rfl (rd_load Try.underlying36 rfl rfl (by first | exact ld_blk 0 rfl rfl | exact ld_old (by assumption) (by simp) | exact ld_cells (by assumption) (by simp) rfl)) ?_)
    refine gl_yes rfl rfl (op_rd rfl (rd_lenSlice Try.underlying36 rfl) ?_)
    refine gl_yes rfl rfl (op_rd rfl (by first | exact rd_quoN (b := 256) rfl rfl (by omega) (by omega) | exact rd_quo rfl rfl (by omega) (by omega) (by omega)) ?_)
    refine gl_yes rfl rfl (op_rd rfl (rd_geq rfl rfl) (gk_dec (fun h18 => ?_) (fun h18 => ?_)))
    · skip
      refine gl_op (op_rd rfl (rd_pick_f rfl rfl) ?_)
      refine gl_nil ?_
      refine gx_then ?_
      refine gc_cond_t rfl ?_
      refine gc_seq ?_
      refine gc_region ?_
      refine gl_op (op_rd rfl (rd_assign rfl) ?_)
      refine gl_nil ?_
      refine gx_then ?_
      refine gc_ret ?_
      refine gx_then_ret ?_
      refine gx_ret1 (.inl rfl) Try.results56 rfl [0, 1, 2] (by decide) ?_
      have hb : flBegins f at_ ((f.b.length / 256 : Nat) : Int) = 2 := beg2 (by omega)
      have hp : flErase f at_ = (f, 2) := by unfold flErase; rw [hb, if_pos (by decide)]
      rw [hp]
      exact ⟨rfl, rfl⟩
    · skip
      refine gl_op (op_rd rfl (rd_pick_f rfl rfl) ?_)
      refine gl_nil ?_
      refine gx_then ?_
      refine gc_cond_f rfl ?_
      refine gc_skip ?_
      refine gx_then ?_
      refine gc_seq ?_
      refine gc_seq ?_
      refine gc_region ?_
      refine gl_op (op_rd rfl (rd_move rfl) ?_)
      refine gl_op (op_rd rfl (rd_nilCheck rfl) ?_)
      refine gl_op (op_rd rfl (rd_fieldAddr rfl (fa_110_3 _)) ?_)
      refine gl_op (op_rd rfl (rd_load Try.underlying4 rfl rfl (by first | exact ld_blk 0 rfl rfl | exact ld_rowN 1 rfl (get_bools (by omega)) | exact ld_rowN 2 rfl (get_bools (by omega)) | exact ld_slN (by assumption) (get_bools (by omega)) | exact ld_old (by assumption) (by simp) | exact ld_cells (by assumption) (by simp) rfl)) ?_)
      refine gk_bool (fun h23 => ?_) (fun h23 => ?_)
      · skip
        refine gl_nil ?_
        refine gx_then ?_
        refine gc_cond_t rfl ?_
        refine gc_seq ?_
        refine gc_region ?_
        refine gl_op (op_rd rfl (rd_assign rfl) ?_)
        refine gl_nil ?_
        refine gx_then ?_
        refine gc_ret ?_
        refine gx_then_ret ?_
        refine gx_ret1 (.inl rfl) Try.results56 rfl [0, 1, 2] (by decide) ?_
        have hb : flBegins f at_ ((f.b.length / 256 : Nat) : Int) = 9 := beg9 (by omega) (by omega) h23
        have hp : flErase f at_ = (f, 9) := by unfold flErase; rw [hb, if_pos (by decide)]
        rw [hp]
        exact ⟨rfl, rfl⟩
      · skip
        have hb : flBegins f at_ ((f.b.length / 256 : Nat) : Int) = 0 := beg0 (by omega) (by omega) h23
        obtain ⟨k, rfl⟩ : ∃ k : Nat, at_ = k := ⟨at_.toNat, by omega⟩
        refine gl_nil ?_
        refine gx_then ?_
        refine gc_cond_f rfl ?_
        refine gc_skip ?_
        refine gx_then ?_
        refine gc_seq ?_
        refine gc_region ?_
        refine gl_op (op_rd rfl (rd_move rfl) ?_)
        refine gl_op (op_rd rfl (rd_nilCheck rfl) ?_)
        refine gl_op (op_rd rfl (rd_fieldAddr rfl (fa_110_5 _)) ?_)
        refine gl_op (op_rd rfl (rd_load Try.underlying3 rfl rfl (by first | exact ld_blk 0 rfl rfl | exact ld_rowN 1 rfl (get_nats (by omega)) | exact ld_rowN 2 rfl (get_nats (by omega)) | exact ld_slN (by assumption) (get_nats (by omega)) | exact ld_rowN 1 rfl (get_ints (by omega)) | exact ld_rowN 2 rfl (get_ints (by omega)) | exact ld_slN (by assumption) (get_ints (by omega)) | exact ld_old (by assumption) (by simp) | exact ld_cells (by assumption) (by simp) rfl)) ?_)
        refine gl_op (op_rd rfl (by first | exact rd_addN (b := 1) rfl rfl (by omega) | exact rd_add rfl rfl (by omega) (by omega)) ?_)
        refine gl_op (op_rd rfl (rd_nilCheck rfl) ?_)
        refine gl_op (op_rd rfl (rd_fieldAddr rfl (fa_110_5 _)) ?_)
        first | refine gl_op (op_store 0 ty_3 rfl rfl rfl rfl rfl (by first | rfl | (simp only [List.set_cons_succ, List.set_cons_zero]; exact rfl)) (by first | rfl | (simp only [List.set_cons_succ, List.set_cons_zero]; exact rfl)) ?_) | refine gl_op (op_storeRow 1 ty_3 rfl rfl rfl rfl (by simp; omega) (by first | rfl | (simp only [List.set_cons_succ, List.set_cons_zero]; exact rfl)) ?_) | refine gl_op (op_storeRow 2 ty_3 rfl rfl rfl rfl (by simp; omega) (by first | rfl | (simp only [List.set_cons_succ, List.set_cons_zero]; exact rfl)) ?_)
        refine gl_nil ?_
        refine gx_then ?_
        refine gc_seq ?_
        refine gc_region ?_
        refine gl_op (op_rd rfl (rd_move rfl) ?_)
        refine gl_op (op_callM [0, 1, 2] [] rfl (vf := []) (vc := []) rfl rfl Try.call70 (by decide) rfl (fun w how hc => rfails_ok { f with er := f.er + 1 } ⟨hf.l0, hf.l1⟩ h23 br (some gb) cb rp cp _ w hc) ?_)
        rintro _ _ ⟨rfl, rfl⟩
        obtain ⟨g, hg⟩ : ∃ g, flFails { f with er := f.er + 1 } = g := ⟨_, rfl⟩
        have hgb : g.b = f.b := by rw [← hg, flFails_b]
        have hgp : g.picks = f.picks := by rw [← hg, flFails_picks]
        have hgl : g.b.length = f.b.length := by rw [hgb]
        have hgpl : g.picks.length = f.picks.length := by rw [hgp]
        rw [hg]
        have hgbs : ∀ z ∈ g.b, z < 256 := by rw [hgb]; exact hf.bs
        have hgps : ∀ z ∈ g.picks, z < 256 := by rw [hgp]; exact hf.ps
        have hgl16 : k * 256 + 256 ≤ g.b.length := by omega
        refine gk_bool (fun hfd => ?_) (fun hfd => ?_)
        · skip
          rcases Nat.eq_zero_or_pos f.picks.length with hpz | hpz
          · skip
            refine gl_op (op_rd rfl (rd_assign rfl) ?_)
            refine gl_nil ?_
            refine gx_then ?_
            refine gc_seq ?_
            refine gc_seq ?_
            refine gc_region ?_
            refine gl_op (op_rd rfl (rd_assign rfl) ?_)
            refine gl_nil ?_
            refine gx_then ?_
            refine gc_block ?_
            refine gc_loopF (ι := Nat) [(0, _), (1, _), (5, _)] [_, _] (fun j => j ≤ 256) (fun j Fr0 => ((6, natV j) :: Fr0)) (fun j Fr0 => (.row 5 1 (some gb) g.b.length cb ((erTo g.b (k * 256) j).map u8V) :: Fr0)) (fun j => 256 - j) 0 (Nat.zero_le _) ⟨rfl, rfl, rfl, rfl, trivial⟩ ⟨[1, 0, 2], by decide, rfl⟩ ?_
            rintro j hj
            obtain ⟨bj, hbj⟩ : ∃ bj, erTo g.b (k * 256) j = bj := ⟨_, rfl⟩
            have hbjl : bj.length = g.b.length := by rw [← hbj, erTo_len]
            have hbjs : ∀ z ∈ bj, z < 256 := by rw [← hbj]; exact erTo_lt hgbs _ _
            rw [hbj]
            refine gc_seq ?_
            refine gc_seq ?_
            refine gc_region ?_
            refine gl_op (op_rd rfl (rd_move rfl) ?_)
            refine gl_op (op_rd rfl (rd_lss rfl rfl) (gk_dec (fun h34 => ?_) (fun h34 => ?_)))
            · skip
              refine gl_nil ?_
              refine gx_then ?_
              refine gc_cond_t rfl ?_
              refine gc_skip ?_
              refine gx_then ?_
              refine gc_seq ?_
              refine gc_block ?_
              refine gc_seq ?_
              refine gc_region ?_
              refine gl_op (op_rd rfl (rd_move rfl) ?_)
              refine gl_op (op_rd rfl (by first | exact rd_mulN (a := 256) rfl rfl (by omega) | exact rd_mul rfl rfl (by omega) (by omega)) ?_)
              refine gl_op (op_rd rfl (rd_move rfl) ?_)
              refine gl_op (op_rd rfl (by first | exact rd_addN rfl rfl (by omega) | exact rd_add rfl rfl (by omega) (by omega)) ?_)
              refine gl_op (op_rd rfl (rd_assign rfl) ?_)
              refine gl_nil ?_
              refine gx_then ?_
              refine gc_seq ?_
              rw [show 256 * k + j = k * 256 + j by omega]
              refine gc_region ?_
              refine gl_op (op_rd rfl (rd_move rfl) ?_)
              refine gl_op (op_rd rfl (rd_move rfl) ?_)
              refine gl_yes rfl rfl (op_rd rfl (rd_move rfl) ?_)
              refine gl_yes rfl rfl (op_rd rfl (rd_nilCheck rfl) ?_)
              refine gl_yes rfl rfl (op_rd rfl (rd_fieldAddr rfl (fa_110_2 _)) ?_)
              refine gl_yes rfl rfl (op_rd rfl (rd_load Try.underlying36 rfl rfl (by first | exact ld_blk 1 rfl rfl | exact ld_old (by assumption) (by simp) | exact ld_cells (by assumption) (by simp) rfl)) ?_)
              refine gl_yes rfl rfl (op_rd rfl (rd_lenSlice Try.underlying36 rfl) ?_)
              refine gl_yes rfl rfl (op_rd rfl (rd_gtr rfl rfl) (gk_dec (fun h48 => ?_) (fun h48 => ?_)))
              · skip
                exfalso; omega
              · skip
                refine gl_op (op_rd rfl (rd_pick_t rfl rfl) ?_)
                refine gl_nil ?_
                refine gx_then ?_
                refine gc_cond_f rfl ?_
                refine gc_region ?_
                refine gl_op (op_rd rfl (rd_move rfl) ?_)
                refine gl_op (op_rd rfl (rd_nilCheck rfl) ?_)
                refine gl_op (op_rd rfl (rd_fieldAddr rfl (fa_110_0 _)) ?_)
                refine gl_op (op_rd rfl (rd_load Try.underlying36 rfl rfl (by first | exact ld_blk 1 rfl rfl | exact ld_old (by assumption) (by simp) | exact ld_cells (by assumption) (by simp) rfl)) ?_)
                refine gl_op (op_rd rfl (rd_move rfl) ?_)
                refine gl_op (op_rd rfl (rd_indexRS Try.underlying36 ty_5 rfl rfl (by omega) (by omega)) ?_)
                refine gl_op (op_storeRowE 0 ty_5 rfl rfl rfl rfl (by simp; omega) (setU8 bj (k * 256 + j) 255) (by first | rfl | (simp only [List.set_cons_succ, List.set_cons_zero]; exact rfl)) ?_)
                refine gl_nil ?_
                refine gx_block ?_
                refine gx_then ?_
                rw [show bj.set (k * 256 + j) 255 = erTo g.b (k * 256) (j + 1) by rw [erTo_succ, hbj]]
                refine gc_region ?_
                refine gl_op (op_rd rfl (rd_move rfl) ?_)
                refine gl_op (op_rd rfl (by first | exact rd_addN (b := 1) rfl rfl (by omega) | exact rd_add rfl rfl (by omega) (by omega)) ?_)
                refine gl_op (op_rd rfl (rd_assign rfl) ?_)
                refine gl_nil ?_
                refine gx_then ?_
                exact gx_cut (j + 1) ⟨by omega, by omega⟩ ⟨rfl, rfl, rfl, rfl, trivial⟩ ⟨[0, 1, 2], by decide, rfl⟩
            · skip
              refine gl_nil ?_
              refine gx_then ?_
              refine gc_cond_f rfl ?_
              refine gc_exit ?_
              refine gx_then_exit ?_
              refine gx_then_exit ?_
              refine gx_block_exit ?_
              refine gx_then ?_
              refine gc_seq ?_
              refine gc_seq ?_
              refine gc_region ?_
              refine gl_op (op_rd rfl (rd_move rfl) ?_)
              refine gl_nil ?_
              refine gx_then ?_
              refine gc_cond_t rfl ?_
              refine gc_seq ?_
              refine gc_region ?_
              refine gl_op (op_rd rfl (rd_assign rfl) ?_)
              refine gl_nil ?_
              refine gx_then ?_
              refine gc_ret ?_
              refine gx_then_ret ?_
              refine gx_ret1 (.inl rfl) Try.results56 rfl [1, 0, 2] (by decide) ?_
              have hp : flErase f (k : Int) = flErase1 f k := by unfold flErase; rw [if_neg (by omega), Int.toNat_natCast]
              obtain rfl : j = 256 := by omega
              have hp1 : flErase1 f k = ({ g with b := g.b.take (k * 256) ++ List.replicate 256 255 ++ g.b.drop (k * 256 + 256) }, 9) := by unfold flErase1; rw [hg, if_pos (by rw [decide_eq_true (show f.picks.length = 0 by omega), Bool.or_true]), if_pos hfd, ← hgb]
              have heq : g.b.take (k * 256) ++ List.replicate 256 255 ++ g.b.drop (k * 256 + 256) = erTo g.b (k * 256) 256 := (erTo_eq g.b (k * 256) 256 (by omega)).symm
              rw [heq, hbj] at hp1
              rw [hp, hp1]
              exact ⟨rfl, by simp only [pick, RfH, Fl.rcells, hbjl]; rfl⟩
          · skip
            refine gl_op (op_rd rfl (rd_assign rfl) ?_)
            refine gl_nil ?_
            refine gx_then ?_
            refine gc_seq ?_
            refine gc_seq ?_
            refine gc_region ?_
            refine gl_op (op_rd rfl (rd_assign rfl) ?_)
            refine gl_nil ?_
            refine gx_then ?_
            refine gc_block ?_
            refine gc_loopF (ι := Nat) [(0, _), (1, _), (5, _)] [_, _] (fun j => j ≤ 256) (fun j Fr0 => ((6, natV j) :: Fr0)) (fun j Fr0 => (.row 5 1 (some gb) g.b.length cb ((orTo g.picks g.b (k * 256) j).map u8V) :: Fr0)) (fun j => 256 - j) 0 (Nat.zero_le _) ⟨rfl, rfl, rfl, rfl, trivial⟩ ⟨[1, 0, 2], by decide, rfl⟩ ?_
            rintro j hj
            obtain ⟨bj, hbj⟩ : ∃ bj, orTo g.picks g.b (k * 256) j = bj := ⟨_, rfl⟩
            have hbjl : bj.length = g.b.length := by rw [← hbj, orTo_len]
            have hbjs : ∀ z ∈ bj, z < 256 := by rw [← hbj]; exact orTo_lt hgbs hgps _ _
            rw [hbj]
            refine gc_seq ?_
            refine gc_seq ?_
            refine gc_region ?_
            refine gl_op (op_rd rfl (rd_move rfl) ?_)
            refine gl_op (op_rd rfl (rd_lss rfl rfl) (gk_dec (fun h34 => ?_) (fun h34 => ?_)))
            · skip
              have hjm : j % g.picks.length < g.picks.length := Nat.mod_lt _ (by omega)
              refine gl_nil ?_
              refine gx_then ?_
              refine gc_cond_t rfl ?_
              refine gc_skip ?_
              refine gx_then ?_
              refine gc_seq ?_
              refine gc_block ?_
              refine gc_seq ?_
              refine gc_region ?_
              refine gl_op (op_rd rfl (rd_move rfl) ?_)
              refine gl_op (op_rd rfl (by first | exact rd_mulN (a := 256) rfl rfl (by omega) | exact rd_mul rfl rfl (by omega) (by omega)) ?_)
              refine gl_op (op_rd rfl (rd_move rfl) ?_)
              refine gl_op (op_rd rfl (by first | exact rd_addN rfl rfl (by omega) | exact rd_add rfl rfl (by omega) (by omega)) ?_)
              refine gl_op (op_rd rfl (rd_assign rfl) ?_)
              refine gl_nil ?_
              refine gx_then ?_
              refine gc_seq ?_
              rw [show 256 * k + j = k * 256 + j by omega]
              refine gc_region ?_
              refine gl_op (op_rd rfl (rd_move rfl) ?_)
              refine gl_op (op_rd rfl (rd_move rfl) ?_)
              refine gl_yes rfl rfl (op_rd rfl (rd_move rfl) ?_)
              refine gl_yes rfl rfl (op_rd rfl (rd_nilCheck rfl) ?_)
              refine gl_yes rfl rfl (op_rd rfl (rd_fieldAddr rfl (fa_110_2 _)) ?_)
              refine gl_yes rfl rfl (op_rd rfl (rd_load Try.underlying36 rfl rfl (by first | exact ld_blk 1 rfl rfl | exact ld_old (by assumption) (by simp) | exact ld_cells (by assumption) (by simp) rfl)) ?_)
              refine gl_yes rfl rfl (op_rd rfl (rd_lenSlice Try.underlying36 rfl) ?_)
              refine gl_yes rfl rfl (op_rd rfl (rd_gtr rfl rfl) (gk_dec (fun h48 => ?_) (fun h48 => ?_)))
              · skip
                refine gl_op (op_rd rfl (rd_pick_t rfl rfl) ?_)
                refine gl_nil ?_
                refine gx_then ?_
                refine gc_cond_t rfl ?_
                refine gc_drawP [1, 2] false 27 rfl ?_
                refine ga_first 0 #[true, false, false, false, false, false, false, false, false, false, false, false, false, false, false, false, false, false, false, false, false, false, false, false, false, false, false, false] rfl rfl rfl rfl (by kernel_rfl) rfl ⟨[1, 2], by decide, rfl⟩ (qt_rd (rd_move rfl)) ?_
                refine ga_first 1 #[true, true, false, false, false, false, false, false, false, false, false, false, false, false, false, false, false, false, false, false, false, false, false, false, false, false, false, false] rfl rfl rfl rfl (by kernel_rfl) rfl ⟨[1, 2], by decide, rfl⟩ (qt_rd (rd_nilCheck rfl)) ?_
                refine ga_first 2 #[true, true, true, false, false, false, false, false, false, false, false, false, false, false, false, false, false, false, false, false, false, false, false, false, false, false, false, false] rfl rfl rfl rfl (by kernel_rfl) rfl ⟨[1, 2], by decide, rfl⟩ (qt_rd (rd_fieldAddr rfl (fa_110_0 _))) ?_
                refine ga_first 3 #[true, true, true, true, false, false, false, false, false, false, false, false, false, false, false, false, false, false, false, false, false, false, false, false, false, false, false, false] rfl rfl rfl rfl (by kernel_rfl) rfl ⟨[1, 2], by decide, rfl⟩ (qt_rd (rd_load Try.underlying36 rfl rfl (by first | exact ld_blk 0 rfl rfl | exact ld_old (by assumption) (by simp) | exact ld_cells (by assumption) (by simp) rfl))) ?_
                refine ga_first 4 #[true, true, true, true, true, false, false, false, false, false, false, false, false, false, false, false, false, false, false, false, false, false, false, false, false, false, false, false] rfl rfl rfl rfl (by kernel_rfl) rfl ⟨[1, 2], by decide, rfl⟩ (qt_rd (rd_move rfl)) ?_
                refine ga_first 5 #[true, true, true, true, true, true, false, false, false, false, false, false, false, false, false, false, false, false, false, false, false, false, false, false, false, false, false, false] rfl rfl rfl rfl (by kernel_rfl) rfl ⟨[1, 2], by decide, rfl⟩ (qt_rd (rd_move rfl)) ?_
                refine ga_first 6 #[true, true, true, true, true, true, true, false, false, false, false, false, false, false, false, false, false, false, false, false, false, false, false, false, false, false, false, false] rfl rfl rfl rfl (by kernel_rfl) rfl ⟨[1, 2], by decide, rfl⟩ (qt_rd (rd_nilCheck rfl)) ?_
                refine ga_first 7 #[true, true, true, true, true, true, true, true, false, false, false, false, false, false, false, false, false, false, false, false, false, false, false, false, false, false, false, false] rfl rfl rfl rfl (by kernel_rfl) rfl ⟨[1, 2], by decide, rfl⟩ (qt_rd (rd_fieldAddr rfl (fa_110_0 _))) ?_
                refine ga_first 8 #[true, true, true, true, true, true, true, true, true, false, false, false, false, false, false, false, false, false, false, false, false, false, false, false, false, false, false, false] rfl rfl rfl rfl (by kernel_rfl) rfl ⟨[1, 2], by decide, rfl⟩ (qt_rd (rd_load Try.underlying36 rfl rfl (by first | exact ld_blk 0 rfl rfl | exact ld_old (by assumption) (by simp) | exact ld_cells (by assumption) (by simp) rfl))) ?_
                refine ga_first 9 #[true, true, true, true, true, true, true, true, true, true, false, false, false, false, false, false, false, false, false, false, false, false, false, false, false, false, false, false] rfl rfl rfl rfl (by kernel_rfl) rfl ⟨[1, 2], by decide, rfl⟩ (qt_rd (rd_move rfl)) ?_
                refine ga_first 10 #[true, true, true, true, true, true, true, true, true, true, true, false, false, false, false, false, false, false, false, false, false, false, false, false, false, false, false, false] rfl rfl rfl rfl (by kernel_rfl) rfl ⟨[1, 2], by decide, rfl⟩ (qt_rd (rd_indexRS Try.underlying36 ty_5 rfl rfl (by omega) (by omega))) ?_
                refine ga_first 12 #[true, true, true, true, true, true, true, true, true, true, true, false, true, false, false, false, false, false, false, false, false, false, false, false, false, false, false, false] rfl rfl rfl rfl (by kernel_rfl) rfl ⟨[1, 2], by decide, rfl⟩ (qt_rd (rd_move rfl)) ?_
                refine ga_first 13 #[true, true, true, true, true, true, true, true, true, true, true, false, true, true, false, false, false, false, false, false, false, false, false, false, false, false, false, false] rfl rfl rfl rfl (by kernel_rfl) rfl ⟨[1, 2], by decide, rfl⟩ (qt_rd (rd_nilCheck rfl)) ?_
                refine ga_first 14 #[true, true, true, true, true, true, true, true, true, true, true, false, true, true, true, false, false, false, false, false, false, false, false, false, false, false, false, false] rfl rfl rfl rfl (by kernel_rfl) rfl ⟨[1, 2], by decide, rfl⟩ (qt_rd (rd_fieldAddr rfl (fa_110_2 _))) ?_
                refine ga_first 15 #[true, true, true, true, true, true, true, true, true, true, true, false, true, true, true, true, false, false, false, false, false, false, false, false, false, false, false, false] rfl rfl rfl rfl (by kernel_rfl) rfl ⟨[1, 2], by decide, rfl⟩ (qt_rd (rd_load Try.underlying36 rfl rfl (by first | exact ld_blk 0 rfl rfl | exact ld_old (by assumption) (by simp) | exact ld_cells (by assumption) (by simp) rfl))) ?_
                refine ga_first 16 #[true, true, true, true, true, true, true, true, true, true, true, false, true, true, true, true, true, false, false, false, false, false, false, false, false, false, false, false] rfl rfl rfl rfl (by kernel_rfl) rfl ⟨[1, 2], by decide, rfl⟩ (qt_rd (rd_move rfl)) ?_
                refine ga_first 17 #[true, true, true, true, true, true, true, true, true, true, true, false, true, true, true, true, true, true, false, false, false, false, false, false, false, false, false, false] rfl rfl rfl rfl (by kernel_rfl) rfl ⟨[1, 2], by decide, rfl⟩ (qt_rd (rd_move rfl)) ?_
                refine ga_first 18 #[true, true, true, true, true, true, true, true, true, true, true, false, true, true, true, true, true, true, true, false, false, false, false, false, false, false, false, false] rfl rfl rfl rfl (by kernel_rfl) rfl ⟨[1, 2], by decide, rfl⟩ (qt_rd (rd_nilCheck rfl)) ?_
                refine ga_first 19 #[true, true, true, true, true, true, true, true, true, true, true, false, true, true, true, true, true, true, true, true, false, false, false, false, false, false, false, false] rfl rfl rfl rfl (by kernel_rfl) rfl ⟨[1, 2], by decide, rfl⟩ (qt_rd (rd_fieldAddr rfl (fa_110_2 _))) ?_
                refine ga_first 20 #[true, true, true, true, true, true, true, true, true, true, true, false, true, true, true, true, true, true, true, true, true, false, false, false, false, false, false, false] rfl rfl rfl rfl (by kernel_rfl) rfl ⟨[1, 2], by decide, rfl⟩ (qt_rd (rd_load Try.underlying36 rfl rfl (by first | exact ld_blk 0 rfl rfl | exact ld_old (by assumption) (by simp) | exact ld_cells (by assumption) (by simp) rfl))) ?_
                refine ga_first 21 #[true, true, true, true, true, true, true, true, true, true, true, false, true, true, true, true, true, true, true, true, true, true, false, false, false, false, false, false] rfl rfl rfl rfl (by kernel_rfl) rfl ⟨[1, 2], by decide, rfl⟩ (qt_rd (rd_lenSlice Try.underlying36 rfl)) ?_
                refine ga_first 22 #[true, true, true, true, true, true, true, true, true, true, true, false, true, true, true, true, true, true, true, true, true, true, true, false, false, false, false, false] rfl rfl rfl rfl (by kernel_rfl) rfl ⟨[1, 2], by decide, rfl⟩ (qt_rd (by first | exact rd_remN rfl rfl (by omega) | exact rd_rem rfl rfl (by omega) (by omega))) ?_
                refine ga_first 23 #[true, true, true, true, true, true, true, true, true, true, true, false, true, true, true, true, true, true, true, true, true, true, true, true, false, false, false, false] rfl rfl rfl rfl (by kernel_rfl) rfl ⟨[1, 2], by decide, rfl⟩ (qt_rd (rd_indexRow1 1 rfl Try.underlying36 ty_5 rfl rfl (by omega) (by omega))) ?_
                refine ga_first 24 #[true, true, true, true, true, true, true, true, true, true, true, false, true, true, true, true, true, true, true, true, true, true, true, true, true, false, false, false] rfl rfl rfl rfl (by kernel_rfl) rfl ⟨[1, 2], by decide, rfl⟩ (qt_rd (rd_load Try.underlying5 rfl rfl (ld_rowN 1 rfl (get_u8n (gB_get (show (j % g.picks.length) < g.picks.length by omega)))))) ?_
                refine ga_only 11 #[true, true, true, true, true, true, true, true, true, true, true, true, true, true, true, true, true, true, true, true, true, true, true, true, true, false, false, false] rfl rfl (by kernel_rfl) rfl (.inr ⟨[1, 2], by decide, rfl⟩) (op_rd rfl (rd_load Try.underlying5 rfl rfl (ld_row 0 (a := some gb) (off := (k * 256 + j)) rfl (get_u8n (gB_get (show (k * 256 + j) < bj.length by omega))))) ?_)
                refine ga_first 25 #[true, true, true, true, true, true, true, true, true, true, true, true, true, true, true, true, true, true, true, true, true, true, true, true, true, true, false, false] rfl rfl rfl rfl (by kernel_rfl) rfl ⟨[1, 2], by decide, rfl⟩ (qt_rd (rd_or8 rfl rfl (by first | exact gB_lt hbjs _ | exact gB_lt hgps _) (by first | exact gB_lt hbjs _ | exact gB_lt hgps _))) ?_
                refine ga_first 26 #[true, true, true, true, true, true, true, true, true, true, true, true, true, true, true, true, true, true, true, true, true, true, true, true, true, true, true, false] rfl rfl rfl rfl (by kernel_rfl) rfl ⟨[1, 2], by decide, rfl⟩ (qt_rd (rd_indexRS Try.underlying36 ty_5 rfl rfl (by omega) (by omega))) ?_
                refine ga_only 27 #[true, true, true, true, true, true, true, true, true, true, true, true, true, true, true, true, true, true, true, true, true, true, true, true, true, true, true, true] rfl rfl (by kernel_rfl) rfl (.inr ⟨[1, 2], by decide, rfl⟩) (op_storeRowE 0 ty_5 rfl rfl rfl rfl (by simp; omega) (setU8 bj (k * 256 + j) _) (by first | rfl | (simp only [List.set_cons_succ, List.set_cons_zero]; exact rfl)) ?_)
                refine ga_end (by kernel_rfl) (.inl (by kernel_rfl)) ?_
                refine gx_block ?_
                refine gx_then ?_
                rw [show bj.set (k * 256 + j) (gB bj (k * 256 + j) ||| gB g.picks (j % g.picks.length)) = orTo g.picks g.b (k * 256) (j + 1) by rw [orTo_succ, hbj]]
                refine gc_region ?_
                refine gl_op (op_rd rfl (rd_move rfl) ?_)
                refine gl_op (op_rd rfl (by first | exact rd_addN (b := 1) rfl rfl (by omega) | exact rd_add rfl rfl (by omega) (by omega)) ?_)
                refine gl_op (op_rd rfl (rd_assign rfl) ?_)
                refine gl_nil ?_
                refine gx_then ?_
                exact gx_cut (j + 1) ⟨by omega, by omega⟩ ⟨rfl, rfl, rfl, rfl, trivial⟩ ⟨[0, 1, 2], by decide, rfl⟩
              · skip
                exfalso; omega
            · skip
              refine gl_nil ?_
              refine gx_then ?_
              refine gc_cond_f rfl ?_
              refine gc_exit ?_
              refine gx_then_exit ?_
              refine gx_then_exit ?_
              refine gx_block_exit ?_
              refine gx_then ?_
              refine gc_seq ?_
              refine gc_seq ?_
              refine gc_region ?_
              refine gl_op (op_rd rfl (rd_move rfl) ?_)
              refine gl_nil ?_
              refine gx_then ?_
              refine gc_cond_t rfl ?_
              refine gc_seq ?_
              refine gc_region ?_
              refine gl_op (op_rd rfl (rd_assign rfl) ?_)
              refine gl_nil ?_
              refine gx_then ?_
              refine gc_ret ?_
              refine gx_then_ret ?_
              refine gx_ret1 (.inl rfl) Try.results56 rfl [1, 0, 2] (by decide) ?_
              have hp : flErase f (k : Int) = flErase1 f k := by unfold flErase; rw [if_neg (by omega), Int.toNat_natCast]
              obtain rfl : j = 256 := by omega
              have hp1 : flErase1 f k = ({ g with b := orTo g.picks g.b (k * 256) 256 }, 9) := by unfold flErase1; rw [hg, if_neg (by rw [hfd, decide_eq_false (show ¬ f.picks.length = 0 by omega)]; decide), if_pos hfd, ← hgb, ← hgp]
              have heq : orTo g.picks g.b (k * 256) 256 = orTo g.picks g.b (k * 256) 256 := rfl
              rw [heq, hbj] at hp1
              rw [hp, hp1]
              exact ⟨rfl, by simp only [pick, RfH, Fl.rcells, hbjl]; rfl⟩
        · skip
          refine gl_op (op_rd rfl (rd_assign rfl) ?_)
          refine gl_nil ?_
          refine gx_then ?_
          refine gc_seq ?_
          refine gc_seq ?_
          refine gc_region ?_
          refine gl_op (op_rd rfl (rd_assign rfl) ?_)
          refine gl_nil ?_
          refine gx_then ?_
          refine gc_block ?_
          refine gc_loopF (ι := Nat) [(0, _), (1, _), (5, _)] [_, _] (fun j => j ≤ 256) (fun j Fr0 => ((6, natV j) :: Fr0)) (fun j Fr0 => (.row 5 1 (some gb) g.b.length cb ((erTo g.b (k * 256) j).map u8V) :: Fr0)) (fun j => 256 - j) 0 (Nat.zero_le _) ⟨rfl, rfl, rfl, rfl, trivial⟩ ⟨[1, 0, 2], by decide, rfl⟩ ?_
          rintro j hj
          obtain ⟨bj, hbj⟩ : ∃ bj, erTo g.b (k * 256) j = bj := ⟨_, rfl⟩
          have hbjl : bj.length = g.b.length := by rw [← hbj, erTo_len]
          have hbjs : ∀ z ∈ bj, z < 256 := by rw [← hbj]; exact erTo_lt hgbs _ _
          rw [hbj]
          refine gc_seq ?_
          refine gc_seq ?_
          refine gc_region ?_
          refine gl_op (op_rd rfl (rd_move rfl) ?_)
          refine gl_op (op_rd rfl (rd_lss rfl rfl) (gk_dec (fun h34 => ?_) (fun h34 => ?_)))
          · skip
            refine gl_nil ?_
            refine gx_then ?_
            refine gc_cond_t rfl ?_
            refine gc_skip ?_
            refine gx_then ?_
            refine gc_seq ?_
            refine gc_block ?_
            refine gc_seq ?_
            refine gc_region ?_
            refine gl_op (op_rd rfl (rd_move rfl) ?_)
            refine gl_op (op_rd rfl (by first | exact rd_mulN (a := 256) rfl rfl (by omega) | exact rd_mul rfl rfl (by omega) (by omega)) ?_)
            refine gl_op (op_rd rfl (rd_move rfl) ?_)
            refine gl_op (op_rd rfl (by first | exact rd_addN rfl rfl (by omega) | exact rd_add rfl rfl (by omega) (by omega)) ?_)
            refine gl_op (op_rd rfl (rd_assign rfl) ?_)
            refine gl_nil ?_
            refine gx_then ?_
            refine gc_seq ?_
            rw [show 256 * k + j = k * 256 + j by omega]
            refine gc_region ?_
            refine gl_op (op_rd rfl (rd_move rfl) ?_)
            refine gl_op (op_rd rfl (rd_move rfl) ?_)
            refine gl_no rfl rfl rfl ?_
            refine gl_no rfl rfl rfl ?_
            refine gl_no rfl rfl rfl ?_
            refine gl_no rfl rfl rfl ?_
            refine gl_no rfl rfl rfl ?_
            refine gl_no rfl rfl rfl ?_
            refine gl_op (op_rd rfl (rd_pick_f rfl rfl) ?_)
            refine gl_nil ?_
            refine gx_then ?_
            refine gc_cond_f rfl ?_
            refine gc_region ?_
            refine gl_op (op_rd rfl (rd_move rfl) ?_)
            refine gl_op (op_rd rfl (rd_nilCheck rfl) ?_)
            refine gl_op (op_rd rfl (rd_fieldAddr rfl (fa_110_0 _)) ?_)
            refine gl_op (op_rd rfl (rd_load Try.underlying36 rfl rfl (by first | exact ld_blk 1 rfl rfl | exact ld_old (by assumption) (by simp) | exact ld_cells (by assumption) (by simp) rfl)) ?_)
            refine gl_op (op_rd rfl (rd_move rfl) ?_)
            refine gl_op (op_rd rfl (rd_indexRS Try.underlying36 ty_5 rfl rfl (by omega) (by omega)) ?_)
            refine gl_op (op_storeRowE 0 ty_5 rfl rfl rfl rfl (by simp; omega) (setU8 bj (k * 256 + j) 255) (by first | rfl | (simp only [List.set_cons_succ, List.set_cons_zero]; exact rfl)) ?_)
            refine gl_nil ?_
            refine gx_block ?_
            refine gx_then ?_
            rw [show bj.set (k * 256 + j) 255 = erTo g.b (k * 256) (j + 1) by rw [erTo_succ, hbj]]
            refine gc_region ?_
            refine gl_op (op_rd rfl (rd_move rfl) ?_)
            refine gl_op (op_rd rfl (by first | exact rd_addN (b := 1) rfl rfl (by omega) | exact rd_add rfl rfl (by omega) (by omega)) ?_)
            refine gl_op (op_rd rfl (rd_assign rfl) ?_)
            refine gl_nil ?_
            refine gx_then ?_
            exact gx_cut (j + 1) ⟨by omega, by omega⟩ ⟨rfl, rfl, rfl, rfl, trivial⟩ ⟨[0, 1, 2], by decide, rfl⟩
          · skip
            refine gl_nil ?_
            refine gx_then ?_
            refine gc_cond_f rfl ?_
            refine gc_exit ?_
            refine gx_then_exit ?_
            refine gx_then_exit ?_
            refine gx_block_exit ?_
            refine gx_then ?_
            refine gc_seq ?_
            refine gc_seq ?_
            refine gc_region ?_
            refine gl_op (op_rd rfl (rd_move rfl) ?_)
            refine gl_nil ?_
            refine gx_then ?_
            refine gc_cond_f rfl ?_
            refine gc_skip ?_
            refine gx_then ?_
            refine gc_seq ?_
            refine gc_region ?_
            refine gl_op (op_rd rfl (rd_assign rfl) ?_)
            refine gl_nil ?_
            refine gx_then ?_
            refine gc_ret ?_
            refine gx_ret1 (.inl rfl) Try.results56 rfl [1, 0, 2] (by decide) ?_
            have hp : flErase f (k : Int) = flErase1 f k := by unfold flErase; rw [if_neg (by omega), Int.toNat_natCast]
            obtain rfl : j = 256 := by omega
            have hp1 : flErase1 f k = ({ g with b := g.b.take (k * 256) ++ List.replicate 256 255 ++ g.b.drop (k * 256 + 256) }, 0) := by unfold flErase1; rw [hg, if_pos (by rw [hfd]; rfl), if_neg (by rw [hfd]; decide), ← hgb]
            have heq : g.b.take (k * 256) ++ List.replicate 256 255 ++ g.b.drop (k * 256 + 256) = erTo g.b (k * 256) 256 := (erTo_eq g.b (k * 256) 256 (by omega)).symm
            rw [heq, hbj] at hp1
            rw [hp, hp1]
            exact ⟨rfl, by simp only [pick, RfH, Fl.rcells, hbjl]; rfl⟩

end Go.Proofs.Ythcbcdjkfefnlaa

set_option autoImplicit false
set_option linter.unusedVariables false
namespace Go.Proofs.Ythcbcdjkfefnlaa
open Go.Gv
open Go.RowKit
open Iv
set_option maxRecDepth 100000 in
set_option maxHeartbeats 1000000 in
theorem rBytes_ok (f : Fl) (hf : f.Ok) (br : Nat) (rb : Option Nat) (cb : Nat) (rp : Option Nat) (cp : Nat) (S : List Nat) (w0 : World) (hown : Own w0 S w0 (RfH br rb cb rp cp f)) : Sp Try.prog 62 [.pointer (some ⟨br, 0, none⟩)] w0 S (fun v L => ∃ (r : Option Nat) (c : Nat), v = .tuple #[.slice (rowA r) (flBytes f).1.length c, .int .i64 (flBytes f).2] ∧ L = RfH br rb cb rp cp f ++ [.row 5 1 r (flBytes f).1.length c ((flBytes f).1.map u8V)]) := by
  have hbl := hf.hi
  have hbl0 := hf.lo
  have hblm := hf.len
  have hpr := hf.pr
  have her := hf.er
  have hpl := hf.pl
  refine spec_enter Try.func62 rfl Try.ntmps62 rfl hown ?_
  simp only [argEnv]
  refine gc_seq ?_
  refine gc_region ?_
  refine gl_op (op_rd rfl (rd_assign rfl) ?_)
  refine gl_op (op_rd rfl (rd_assign rfl) ?_)
  refine gl_nil ?_
  refine gx_then ?_
  refine gc_seq ?_
  refine gc_seq ?_
  refine gc_region ?_
  refine gl_op (op_rd rfl (rd_move rfl) ?_)
  refine gl_op (op_rd rfl (rd_nilCheck rfl) ?_)
  refine gl_op (op_rd rfl (rd_fieldAddr rfl (fa_110_3 _)) ?_)
  refine gl_op (op_rd rfl (rd_load Try.underlying4 rfl rfl (by first | exact ld_blk 0 rfl rfl | exact ld_rowN 1 rfl (get_bools (by omega)) | exact ld_rowN 2 rfl (get_bools (by omega)) | exact ld_slN (by assumption) (get_bools (by omega)) | exact ld_old (by assumption) (by simp) | exact ld_cells (by assumption) (by simp) rfl)) ?_)
  refine gk_bool (fun h7 => ?_) (fun h7 => ?_)
  · skip
    refine gl_nil ?_
    refine gx_then ?_
    refine gc_cond_t rfl ?_
    refine gc_seq ?_
    refine gk_nil 5 1 ?_
    refine gc_region ?_
    refine gl_op (op_rd rfl (rd_assign rfl) ?_)
    refine gl_op (op_rd rfl (rd_assign rfl) ?_)
    refine gl_nil ?_
    refine gx_then ?_
    refine gc_ret ?_
    refine gx_then_ret ?_
    refine gx_ret2 (.inl rfl) Try.results62 rfl rfl [1, 2, 3, 0] (by decide) ?_
    have hp : flBytes f = ([], 9) := by unfold flBytes; rw [if_pos h7]
    rw [hp]
    exact ⟨none, 0, rfl, rfl⟩
  · skip
    refine gl_nil ?_
    refine gx_then ?_
    refine gc_cond_f rfl ?_
    refine gc_skip ?_
    refine gx_then ?_
    refine gc_seq ?_
    refine gc_region ?_
    refine gl_op (op_buildSlice (sz := 1) rfl rfl (fun _ => bs_36_0_) rfl rfl (fun b8 => ?_))
    refine gl_op (op_rd rfl (rd_move rfl) ?_)
    refine gl_op (op_rd rfl (rd_nilCheck rfl) ?_)
    refine gl_op (op_rd rfl (rd_fieldAddr rfl (fa_110_0 _)) ?_)
    refine gl_op (op_rd rfl (rd_load Try.underlying36 rfl rfl (by first | exact ld_blk 1 rfl rfl | exact ld_old (by assumption) (by simp) | exact ld_cells (by assumption) (by simp) rfl)) ?_)
    refine gl_op (op_appendRowO 0 2 Try.underlying36 ty_5 rfl (by decide) rfl rfl rfl rfl rfl (u8_one f.b) (by omega) (by omega) (fun _ => (by first | rfl | (simp only [List.set_cons_succ, List.set_cons_zero]; exact rfl))) (fun r13 c13 => ?_))
    refine gl_op (op_rd rfl (rd_assign rfl) ?_)
    refine gl_op (op_rd rfl (rd_assign rfl) ?_)
    refine gl_nil ?_
    refine gx_then ?_
    refine gc_ret ?_
    refine gx_ret2 (.inl rfl) Try.results62 rfl rfl [1, 2, 3, 0] (by decide) ?_
    have hp : flBytes f = (f.b, 0) := by unfold flBytes; rw [if_neg (by rw [h7]; decide)]
    rw [hp]
    exact ⟨r13, c13, by rw [Nat.zero_add], by rw [Nat.zero_add]; rfl⟩

set_option maxRecDepth 100000 in
set_option maxHeartbeats 1000000 in
theorem rFuse_ok (f : Fl) (hf : f.Ok) (br : Nat) (rb : Option Nat) (cb : Nat) (rp : Option Nat) (cp : Nat) (S : List Nat) (w0 : World) (hown : Own w0 S w0 (RfH br rb cb rp cp f)) (n : Int) (ps : List Nat) (a : Option Addr) (ca : Nat) (hps : OldSl w0 S a ps.length 1 (ps.map u8V)) (hpsl : ps.length ≤ 140737488355328) : Sp Try.prog 58 [.pointer (some ⟨br, 0, none⟩), .int .i64 n, .slice a ps.length ca] w0 S (fun v L => ∃ (rp2 : Option Nat) (cp2 : Nat), v = .int .i64 (flFuse f n ps).2 ∧ L = RfH br rb cb rp2 cp2 (flFuse f n ps).1) := by
  have hbl := hf.hi
  have hbl0 := hf.lo
  have hblm := hf.len
  have hpr := hf.pr
  have her := hf.er
  have hpl := hf.pl
  refine spec_enter Try.func58 rfl Try.ntmps58 rfl hown ?_
  simp only [argEnv]
  refine gc_seq ?_
  refine gc_region ?_
  refine gl_op (op_rd rfl (rd_assign rfl) ?_)
  refine gl_nil ?_
  refine gx_then ?_
  refine gc_seq ?_
  refine gc_seq ?_
  refine gc_region ?_
  refine gl_op (op_rd rfl (rd_move rfl) ?_)
  refine gl_op (op_rd rfl (rd_lss rfl rfl) (gk_dec (fun h8 => ?_) (fun h8 => ?_)))
  · skip
    refine gl_op (op_rd rfl (rd_move rfl) ?_)
    refine gl_no rfl rfl rfl ?_
    refine gl_no rfl rfl rfl ?_
    refine gl_no rfl rfl rfl ?_
    refine gl_op (op_rd rfl (rd_pick_t rfl rfl) ?_)
    refine gl_nil ?_
    refine gx_then ?_
    refine gc_cond_t rfl ?_
    refine gc_seq ?_
    refine gc_region ?_
    refine gl_op (op_rd rfl (rd_assign rfl) ?_)
    refine gl_nil ?_
    refine gx_then ?_
    refine gc_ret ?_
    refine gx_then_ret ?_
    refine gx_ret1 (.inl rfl) Try.results58 rfl [0, 1, 2] (by decide) ?_
    have hp : flFuse f n ps = (f, 2) := by unfold flFuse; rw [if_pos (by omega)]
    rw [hp]
    exact ⟨rp, cp, rfl, rfl⟩
  · skip
    refine gl_op (op_rd rfl (rd_move rfl) ?_)
    refine gl_yes rfl rfl (op_rd rfl (rd_move rfl) ?_)
    refine gl_yes rfl rfl (op_rd rfl (rd_lenSlice Try.underlying36 rfl) ?_)
    refine gl_yes rfl rfl (op_rd rfl (rd_gtr rfl rfl) (gk_dec (fun h12 => ?_) (fun h12 => ?_)))
    · skip
      refine gl_op (op_rd rfl (rd_pick_f rfl rfl) ?_)
      refine gl_nil ?_
      refine gx_then ?_
      refine gc_cond_t rfl ?_
      refine gc_seq ?_
      refine gc_region ?_
      refine gl_op (op_rd rfl (rd_assign rfl) ?_)
      refine gl_nil ?_
      refine gx_then ?_
      refine gc_ret ?_
      refine gx_then_ret ?_
      refine gx_ret1 (.inl rfl) Try.results58 rfl [0, 1, 2] (by decide) ?_
      have hp : flFuse f n ps = (f, 2) := by unfold flFuse; rw [if_pos (by omega)]
      rw [hp]
      exact ⟨rp, cp, rfl, rfl⟩
    · skip
      refine gl_op (op_rd rfl (rd_pick_f rfl rfl) ?_)
      refine gl_nil ?_
      refine gx_then ?_
      refine gc_cond_f rfl ?_
      refine gc_skip ?_
      refine gx_then ?_
      refine gc_seq ?_
      refine gc_seq ?_
      refine gc_region ?_
      refine gl_op (op_rd rfl (rd_move rfl) ?_)
      refine gl_op (op_rd rfl (rd_nilCheck rfl) ?_)
      refine gl_op (op_rd rfl (rd_fieldAddr rfl (fa_110_3 _)) ?_)
      refine gl_op (op_rd rfl (rd_load Try.underlying4 rfl rfl (by first | exact ld_blk 0 rfl rfl | exact ld_rowN 1 rfl (get_bools (by omega)) | exact ld_rowN 2 rfl (get_bools (by omega)) | exact ld_slN (by assumption) (get_bools (by omega)) | exact ld_old (by assumption) (by simp) | exact ld_cells (by assumption) (by simp) rfl)) ?_)
      refine gk_bool (fun h17 => ?_) (fun h17 => ?_)
      · skip
        refine gl_nil ?_
        refine gx_then ?_
        refine gc_cond_t rfl ?_
        refine gc_seq ?_
        refine gc_region ?_
        refine gl_op (op_rd rfl (rd_assign rfl) ?_)
        refine gl_nil ?_
        refine gx_then ?_
        refine gc_ret ?_
        refine gx_then_ret ?_
        refine gx_ret1 (.inl rfl) Try.results58 rfl [0, 1, 2] (by decide) ?_
        have hp : flFuse f n ps = (f, 9) := by unfold flFuse; rw [if_neg (by omega), if_pos h17]
        rw [hp]
        exact ⟨rp, cp, rfl, rfl⟩
      · skip
        refine gl_nil ?_
        refine gx_then ?_
        refine gc_cond_f rfl ?_
        refine gc_skip ?_
        refine gx_then ?_
        refine gc_seq ?_
        refine gc_region ?_
        refine gl_op (op_rd rfl (rd_move rfl) ?_)
        refine gl_op (op_rd rfl (rd_move rfl) ?_)
        refine gl_op (op_rd rfl (rd_nilCheck rfl) ?_)
        refine gl_op (op_rd rfl (rd_fieldAddr rfl (fa_110_1 _)) ?_)
        first | refine gl_op (op_store 0 ty_3 rfl rfl rfl rfl rfl (by first | rfl | (simp only [List.set_cons_succ, List.set_cons_zero]; exact rfl)) (by first | rfl | (simp only [List.set_cons_succ, List.set_cons_zero]; exact rfl)) ?_) | refine gl_op (op_storeRow 1 ty_3 rfl rfl rfl rfl (by simp; omega) (by first | rfl | (simp only [List.set_cons_succ, List.set_cons_zero]; exact rfl)) ?_) | refine gl_op (op_storeRow 2 ty_3 rfl rfl rfl rfl (by simp; omega) (by first | rfl | (simp only [List.set_cons_succ, List.set_cons_zero]; exact rfl)) ?_)
        refine gl_nil ?_
        refine gx_then ?_
        refine gc_seq ?_
        refine gc_region ?_
        refine gl_op (op_rd rfl (rd_move rfl) ?_)
        refine gl_op (op_buildSlice (sz := 1) rfl rfl (fun _ => bs_36_0_) rfl rfl (fun b23 => ?_))
        refine gl_op (op_rd rfl (rd_move rfl) ?_)
        refine gl_op (op_appendSl 0 hps Try.underlying36 ty_5 rfl (by decide) rfl rfl rfl rfl (u8_one ps) (by omega) (by omega) (fun _ => (by first | rfl | (simp only [List.set_cons_succ, List.set_cons_zero]; exact rfl))) (fun r25 c25 => ?_))
        refine gl_op (op_rd rfl (rd_nilCheck rfl) ?_)
        refine gl_op (op_rd rfl (rd_fieldAddr rfl (fa_110_2 _)) ?_)
        first | refine gl_op (op_store 1 ty_36 rfl rfl rfl rfl rfl (by first | rfl | (simp only [List.set_cons_succ, List.set_cons_zero]; exact rfl)) (by first | rfl | (simp only [List.set_cons_succ, List.set_cons_zero]; exact rfl)) ?_) | refine gl_op (op_storeRow 0 ty_36 rfl rfl rfl rfl (by simp; omega) (by first | rfl | (simp only [List.set_cons_succ, List.set_cons_zero]; exact rfl)) ?_) | refine gl_op (op_storeRow 2 ty_36 rfl rfl rfl rfl (by simp; omega) (by first | rfl | (simp only [List.set_cons_succ, List.set_cons_zero]; exact rfl)) ?_) | refine gl_op (op_storeRow 3 ty_36 rfl rfl rfl rfl (by simp; omega) (by first | rfl | (simp only [List.set_cons_succ, List.set_cons_zero]; exact rfl)) ?_)
        refine gl_nil ?_
        refine gx_then ?_
        refine gc_seq ?_
        rw [Nat.zero_add, List.nil_append]
        refine gc_region ?_
        refine gl_op (op_rd rfl (rd_assign rfl) ?_)
        refine gl_nil ?_
        refine gx_then ?_
        refine gc_ret ?_
        refine gx_ret1 (.inl rfl) Try.results58 rfl [1, 2, 0] (by decide) ?_
        have hp : flFuse f n ps = ({ f with left := n, picks := ps }, 0) := by unfold flFuse; rw [if_neg (by omega), if_neg (by rw [h17]; decide)]
        rw [hp]
        exact ⟨r25, c25, rfl, rfl⟩

set_option maxRecDepth 100000 in
set_option maxHeartbeats 1000000 in
theorem rRestart_ok (f : Fl) (hf : f.Ok) (br : Nat) (rb : Option Nat) (cb : Nat) (rp : Option Nat) (cp : Nat) (S : List Nat) (w0 : World) (hown : Own w0 S w0 (RfH br rb cb rp cp f)) : Sp Try.prog 59 [.pointer (some ⟨br, 0, none⟩)] w0 S (fun v L => v = .tuple #[] ∧ L = RfH br rb cb none 0 (flRestart f)) := by
  have hbl := hf.hi
  have hbl0 := hf.lo
  have hblm := hf.len
  have hpr := hf.pr
  have her := hf.er
  have hpl := hf.pl
  refine spec_enter Try.func59 rfl Try.ntmps59 rfl hown ?_
  simp only [argEnv]
  refine gc_seq ?_
  refine gc_region ?_
  refine gl_op (op_rd rfl (rd_move rfl) ?_)
  refine gl_op (op_rd rfl (rd_nilCheck rfl) ?_)
  refine gl_op (op_rd rfl (rd_fieldAddr rfl (fa_110_3 _)) ?_)
  first | refine gl_op (op_store 0 ty_4 rfl rfl rfl rfl rfl (by first | rfl | (simp only [List.set_cons_succ, List.set_cons_zero]; exact rfl)) (by first | rfl | (simp only [List.set_cons_succ, List.set_cons_zero]; exact rfl)) ?_) | refine gl_op (op_storeRow 1 ty_4 rfl rfl rfl rfl (by simp; omega) (by first | rfl | (simp only [List.set_cons_succ, List.set_cons_zero]; exact rfl)) ?_) | refine gl_op (op_storeRow 2 ty_4 rfl rfl rfl rfl (by simp; omega) (by first | rfl | (simp only [List.set_cons_succ, List.set_cons_zero]; exact rfl)) ?_)
  refine gl_nil ?_
  refine gx_then ?_
  refine gc_seq ?_
  refine gc_region ?_
  refine gl_op (op_rd rfl (rd_move rfl) ?_)
  refine gl_op (op_rd rfl (rd_nilCheck rfl) ?_)
  refine gl_op (op_rd rfl (rd_fieldAddr rfl (fa_110_1 _)) ?_)
  first | refine gl_op (op_store 0 ty_3 rfl rfl rfl rfl rfl (by first | rfl | (simp only [List.set_cons_succ, List.set_cons_zero]; exact rfl)) (by first | rfl | (simp only [List.set_cons_succ, List.set_cons_zero]; exact rfl)) ?_) | refine gl_op (op_storeRow 1 ty_3 rfl rfl rfl rfl (by simp; omega) (by first | rfl | (simp only [List.set_cons_succ, List.set_cons_zero]; exact rfl)) ?_) | refine gl_op (op_storeRow 2 ty_3 rfl rfl rfl rfl (by simp; omega) (by first | rfl | (simp only [List.set_cons_succ, List.set_cons_zero]; exact rfl)) ?_)
  refine gl_nil ?_
  refine gx_then ?_
  refine gk_nil 5 1 ?_
  refine gc_region ?_
  refine gl_op (op_rd rfl (rd_move rfl) ?_)
  refine gl_op (op_rd rfl (rd_nilCheck rfl) ?_)
  refine gl_op (op_rd rfl (rd_fieldAddr rfl (fa_110_2 _)) ?_)
  first | refine gl_op (op_store 1 ty_36 rfl rfl rfl rfl rfl (by first | rfl | (simp only [List.set_cons_succ, List.set_cons_zero]; exact rfl)) (by first | rfl | (simp only [List.set_cons_succ, List.set_cons_zero]; exact rfl)) ?_) | refine gl_op (op_storeRow 0 ty_36 rfl rfl rfl rfl (by simp; omega) (by first | rfl | (simp only [List.set_cons_succ, List.set_cons_zero]; exact rfl)) ?_) | refine gl_op (op_storeRow 2 ty_36 rfl rfl rfl rfl (by simp; omega) (by first | rfl | (simp only [List.set_cons_succ, List.set_cons_zero]; exact rfl)) ?_) | refine gl_op (op_storeRow 3 ty_36 rfl rfl rfl rfl (by simp; omega) (by first | rfl | (simp only [List.set_cons_succ, List.set_cons_zero]; exact rfl)) ?_)
  refine gl_nil ?_
  refine gx_ret0 (.inr rfl) Try.results59 [1, 2, 0] (by decide) ?_
  exact ⟨rfl, rfl⟩

set_option maxRecDepth 100000 in
set_option maxHeartbeats 1000000 in
theorem rNew_ok (n : Nat) (hn4 : 4 ≤ n) (hn64 : n ≤ 64) (w0 : World) : Sp Try.prog 28 [natV n] w0 [] (fun v L => ∃ (br : Nat) (rb : Option Nat) (cb : Nat), v = .tuple #[.pointer (some ⟨br, 0, none⟩), .int .i64 0] ∧ L = RfH br rb cb none 0 (flNew (List.replicate (256 * n) 255))) := by
  refine spec_enter Try.func28 rfl Try.ntmps28 rfl (Own.refl _) ?_
  simp only [argEnv]
  refine gc_seq ?_
  refine gc_region ?_
  refine gl_op (op_rd rfl (rd_assign rfl) ?_)
  refine gl_op (op_rd rfl (rd_assign rfl) ?_)
  refine gl_nil ?_
  refine gx_then ?_
  refine gc_seq ?_
  refine gc_seq ?_
  refine gc_region ?_
  refine gl_op (op_rd rfl (rd_move rfl) ?_)
  refine gl_op (op_rd rfl (rd_lss rfl rfl) (gk_dec (fun h7 => ?_) (fun h7 => ?_)))
  · skip
    exfalso; omega
  · skip
    refine gl_op (op_rd rfl (rd_move rfl) ?_)
    refine gl_yes rfl rfl (op_rd rfl (rd_move rfl) ?_)
    refine gl_yes rfl rfl (op_rd rfl (rd_gtr rfl rfl) (gk_dec (fun h10 => ?_) (fun h10 => ?_)))
    · skip
      exfalso; omega
    · skip
      refine gl_op (op_rd rfl (rd_pick_f rfl rfl) ?_)
      refine gl_nil ?_
      refine gx_then ?_
      refine gc_cond_f rfl ?_
      refine gc_skip ?_
      refine gx_then ?_
      refine gc_seq ?_
      refine gc_region ?_
      refine gl_op (op_rd rfl (rd_build rfl (fun _ => bd_110_1 _)) ?_)
      refine gl_op (op_box rfl rfl rfl (fun b13 => ?_))
      refine gl_op (op_rd rfl (rd_assign rfl) ?_)
      refine gl_nil ?_
      refine gx_then ?_
      refine gc_seq ?_
      refine gc_seq ?_
      refine gc_region ?_
      refine gl_op (op_rd rfl (rd_assign rfl) ?_)
      refine gl_nil ?_
      refine gx_then ?_
      refine gc_block ?_
      refine gk_nil 5 1 ?_
      refine gk_nil 5 1 ?_
      refine gc_loopF (ι := Nat × Option Nat × Nat) [(0, _), (4, _)] [_] (fun j => j.1 ≤ 256 * n) (fun j Fr0 => ((5, natV j.1) :: Fr0)) (fun j Fr0 => (.blk b13 [.slice (rowA j.2.1) j.1 j.2.2, .int .i64 (-1), .slice none 0 0, .bool false, .int .i64 0, .int .i64 0] 110 :: .row 5 1 j.2.1 j.1 j.2.2 ((List.replicate j.1 255).map u8V) :: Fr0)) (fun j => 256 * n - j.1) (0, none, 0) (Nat.zero_le _) ⟨rfl, rfl, rfl, trivial⟩ ⟨[2, 0, 1], by decide, rfl⟩ ?_
      rintro ⟨j, rb, cb⟩ hj
      simp only at hj ⊢
      refine gc_seq ?_
      refine gc_seq ?_
      refine gc_region ?_
      refine gl_op (op_rd rfl (rd_move rfl) ?_)
      refine gl_op (op_rd rfl (rd_move rfl) ?_)
      refine gl_op (op_rd rfl (by first | exact rd_mulN (a := 256) rfl rfl (by omega) | exact rd_mul rfl rfl (by omega) (by omega)) ?_)
      refine gl_op (op_rd rfl (rd_lss rfl rfl) (gk_dec (fun h17 => ?_) (fun h17 => ?_)))
      · skip
        refine gl_nil ?_
        refine gx_then ?_
        refine gc_cond_t rfl ?_
        refine gc_skip ?_
        refine gx_then ?_
        refine gc_seq ?_
        refine gc_block ?_
        refine gc_region ?_
        refine gl_op (op_rd rfl (rd_move rfl) ?_)
        refine gl_op (op_rd rfl (rd_move rfl) ?_)
        refine gl_op (op_rd rfl (rd_nilCheck rfl) ?_)
        refine gl_op (op_rd rfl (rd_fieldAddr rfl (fa_110_0 _)) ?_)
        refine gl_op (op_rd rfl (rd_load Try.underlying36 rfl rfl (by first | exact ld_blk 0 rfl rfl | exact ld_old (by assumption) (by simp) | exact ld_cells (by assumption) (by simp) rfl)) ?_)
        refine gl_op (op_buildSlice (sz := 1) rfl rfl (fun _ => bs_36_1_0 _) rfl rfl (fun b25 => ?_))
        refine gl_op (op_appendRow 2 0 Try.underlying36 ty_5 rfl (by decide) rfl rfl rfl rfl rfl (by simp [Value.oneCell']) (by omega) (by omega) (fun _ => (by first | rfl | (simp only [List.set_cons_succ, List.set_cons_zero]; exact rfl))) (fun r26 c26 => ?_))
        refine gl_op (op_rd rfl (rd_nilCheck rfl) ?_)
        refine gl_op (op_rd rfl (rd_fieldAddr rfl (fa_110_0 _)) ?_)
        first | refine gl_op (op_store 1 ty_36 rfl rfl rfl rfl rfl (by first | rfl | (simp only [List.set_cons_succ, List.set_cons_zero]; exact rfl)) (by first | rfl | (simp only [List.set_cons_succ, List.set_cons_zero]; exact rfl)) ?_) | refine gl_op (op_storeRow 0 ty_36 rfl rfl rfl rfl (by simp; omega) (by first | rfl | (simp only [List.set_cons_succ, List.set_cons_zero]; exact rfl)) ?_) | refine gl_op (op_storeRow 2 ty_36 rfl rfl rfl rfl (by simp; omega) (by first | rfl | (simp only [List.set_cons_succ, List.set_cons_zero]; exact rfl)) ?_) | refine gl_op (op_storeRow 3 ty_36 rfl rfl rfl rfl (by simp; omega) (by first | rfl | (simp only [List.set_cons_succ, List.set_cons_zero]; exact rfl)) ?_)
        refine gl_nil ?_
        refine gx_block ?_
        refine gx_then ?_
        rw [show (List.replicate j 255).map u8V ++ [Value.int .u8 255] = (List.replicate (j + 1) 255).map u8V by rw [List.replicate_succ', List.map_append]; rfl]
        refine gc_region ?_
        refine gl_op (op_rd rfl (rd_move rfl) ?_)
        refine gl_op (op_rd rfl (by first | exact rd_addN (b := 1) rfl rfl (by omega) | exact rd_add rfl rfl (by omega) (by omega)) ?_)
        refine gl_op (op_rd rfl (rd_assign rfl) ?_)
        refine gl_nil ?_
        refine gx_then ?_
        exact gx_cut ((j + 1, r26, c26)) ⟨by simp only; omega, by simp only; omega⟩ ⟨rfl, rfl, rfl, trivial⟩ ⟨[1, 2, 3], by decide, rfl⟩
      · skip
        refine gl_nil ?_
        refine gx_then ?_
        refine gc_cond_f rfl ?_
        refine gc_exit ?_
        refine gx_then_exit ?_
        refine gx_then_exit ?_
        refine gx_block_exit ?_
        refine gx_then ?_
        refine gc_seq ?_
        refine gc_region ?_
        refine gl_op (op_rd rfl (rd_move rfl) ?_)
        refine gl_op (op_rd rfl (rd_assign rfl) ?_)
        refine gl_op (op_rd rfl (rd_assign rfl) ?_)
        refine gl_nil ?_
        refine gx_then ?_
        refine gc_ret ?_
        refine gx_ret2 (.inl rfl) Try.results28 rfl rfl [0, 1, 2] (by decide) ?_
        have hje : 256 * n = j := by omega
        have hbl2 : (flNew (List.replicate (256 * n) 255)).b.length = j := by rw [hje]; exact List.length_replicate
        exact ⟨b13, rb, cb, rfl, by simp only [RfH, Fl.rcells, hbl2]; rw [hje]; rfl⟩

set_option maxRecDepth 100000 in
set_option maxHeartbeats 1000000 in
theorem rNew_bad (n : Int) (hn : n < 4 ∨ 64 < n) (w0 : World) : Sp Try.prog 28 [.int .i64 n] w0 [] (RV (.tuple #[.pointer none, .int .i64 2])) := by
  refine spec_enter Try.func28 rfl Try.ntmps28 rfl (Own.refl _) ?_
  simp only [argEnv]
  refine gc_seq ?_
  refine gc_region ?_
  refine gl_op (op_rd rfl (rd_assign rfl) ?_)
  refine gl_op (op_rd rfl (rd_assign rfl) ?_)
  refine gl_nil ?_
  refine gx_then ?_
  refine gc_seq ?_
  refine gc_seq ?_
  refine gc_region ?_
  refine gl_op (op_rd rfl (rd_move rfl) ?_)
  refine gl_op (op_rd rfl (rd_lss rfl rfl) (gk_dec (fun h7 => ?_) (fun h7 => ?_)))
  · skip
    refine gl_op (op_rd rfl (rd_move rfl) ?_)
    refine gl_no rfl rfl rfl ?_
    refine gl_no rfl rfl rfl ?_
    refine gl_op (op_rd rfl (rd_pick_t rfl rfl) ?_)
    refine gl_nil ?_
    refine gx_then ?_
    refine gc_cond_t rfl ?_
    refine gc_seq ?_
    refine gc_region ?_
    refine gl_op (op_rd rfl (rd_assign rfl) ?_)
    refine gl_op (op_rd rfl (rd_assign rfl) ?_)
    refine gl_nil ?_
    refine gx_then ?_
    refine gc_ret ?_
    refine gx_then_ret ?_
    refine gx_ret2 (.inl rfl) Try.results28 rfl rfl [] (by decide) ?_
    exact ⟨rfl, rfl⟩
  · skip
    refine gl_op (op_rd rfl (rd_move rfl) ?_)
    refine gl_yes rfl rfl (op_rd rfl (rd_move rfl) ?_)
    refine gl_yes rfl rfl (op_rd rfl (rd_gtr rfl rfl) (gk_dec (fun h10 => ?_) (fun h10 => ?_)))
    · skip
      refine gl_op (op_rd rfl (rd_pick_f rfl rfl) ?_)
      refine gl_nil ?_
      refine gx_then ?_
      refine gc_cond_t rfl ?_
      refine gc_seq ?_
      refine gc_region ?_
      refine gl_op (op_rd rfl (rd_assign rfl) ?_)
      refine gl_op (op_rd rfl (rd_assign rfl) ?_)
      refine gl_nil ?_
      refine gx_then ?_
      refine gc_ret ?_
      refine gx_then_ret ?_
      refine gx_ret2 (.inl rfl) Try.results28 rfl rfl [] (by decide) ?_
      exact ⟨rfl, rfl⟩
    · skip
      omega

set_option maxRecDepth 100000 in
set_option maxHeartbeats 1000000 in
theorem rLoad_ok (zs : List Nat) (a : Option Addr) (ca : Nat) (w0 : World) (hsl : OldSl w0 [] a zs.length 1 (zs.map u8V)) (hn : zs.length ≤ 140737488355328) (hg : goodLen zs.length) : Sp Try.prog 60 [.slice a zs.length ca] w0 [] (fun v L => ∃ (bf : Nat) (rb : Option Nat) (cb : Nat), v = .tuple #[.pointer (some ⟨bf, 0, none⟩), .int .i64 0] ∧ L = RfH bf rb cb none 0 (flNew zs)) := by
  obtain ⟨hg1, hg2, hg3⟩ := hg
  refine spec_enter Try.func60 rfl Try.ntmps60 rfl (Own.refl _) ?_
  simp only [argEnv]
  refine gc_seq ?_
  refine gc_region ?_
  refine gl_op (op_rd rfl (rd_assign rfl) ?_)
  refine gl_op (op_rd rfl (rd_assign rfl) ?_)
  refine gl_nil ?_
  refine gx_then ?_
  refine gc_seq ?_
  refine gc_region ?_
  refine gl_op (op_rd rfl (rd_move rfl) ?_)
  refine gl_op (op_rd rfl (rd_lenSlice Try.underlying36 rfl) ?_)
  refine gl_op (op_rd rfl (by first | exact rd_quoN (b := 256) rfl rfl (by omega) (by omega) | exact rd_quo rfl rfl (by omega) (by omega) (by omega)) ?_)
  refine gl_op (op_rd rfl (rd_assign rfl) ?_)
  refine gl_nil ?_
  refine gx_then ?_
  refine gc_seq ?_
  refine gc_seq ?_
  refine gc_region ?_
  refine gl_op (op_rd rfl (rd_move rfl) ?_)
  refine gl_op (op_rd rfl (rd_lenSlice Try.underlying36 rfl) ?_)
  refine gl_op (op_rd rfl (by first | exact rd_remN (b := 256) rfl rfl (by omega) | exact rd_rem rfl rfl (by omega) (by omega)) ?_)
  refine gl_op (op_rd rfl (rd_neq rfl rfl) (gk_dec (fun h11 => ?_) (fun h11 => ?_)))
  · skip
    exfalso; omega
  · skip
    refine gl_op (op_rd rfl (rd_move rfl) ?_)
    refine gl_yes rfl rfl (op_rd rfl (rd_move rfl) ?_)
    refine gl_yes rfl rfl (op_rd rfl (rd_lss rfl rfl) (gk_dec (fun h14 => ?_) (fun h14 => ?_)))
    · skip
      exfalso; omega
    · skip
      refine gl_op (op_rd rfl (rd_pick_f rfl rfl) ?_)
      refine gl_op (op_rd rfl (rd_move rfl) ?_)
      refine gl_yes rfl rfl (op_rd rfl (rd_move rfl) ?_)
      refine gl_yes rfl rfl (op_rd rfl (rd_gtr rfl rfl) (gk_dec (fun h18 => ?_) (fun h18 => ?_)))
      · skip
        exfalso; omega
      · skip
        refine gl_op (op_rd rfl (rd_pick_f rfl rfl) ?_)
        refine gl_nil ?_
        refine gx_then ?_
        refine gc_cond_f rfl ?_
        refine gc_skip ?_
        refine gx_then ?_
        refine gc_seq ?_
        refine gk_nil 5 1 ?_
        refine gc_region ?_
        refine gl_op (op_buildSlice (sz := 1) rfl rfl (fun _ => bs_36_0_) rfl rfl (fun b20 => ?_))
        refine gl_op (op_rd rfl (rd_move rfl) ?_)
        refine gl_op (op_appendSl 0 hsl Try.underlying36 ty_5 rfl (by decide) rfl rfl rfl rfl (u8_one zs) (by omega) (by omega) (fun _ => (by first | rfl | (simp only [List.set_cons_succ, List.set_cons_zero]; exact rfl))) (fun r22 c22 => ?_))
        refine gl_op (op_rd rfl (rd_build rfl (fun _ => bd_110_0_1 _ _ _ _)) ?_)
        refine gl_op (op_box rfl rfl rfl (fun b24 => ?_))
        refine gl_op (op_rd rfl (rd_assign rfl) ?_)
        refine gl_op (op_rd rfl (rd_assign rfl) ?_)
        refine gl_nil ?_
        refine gx_then ?_
        refine gc_ret ?_
        refine gx_ret2 (.inl rfl) Try.results60 rfl rfl [0, 1, 2] (by decide) ?_
        exact ⟨b24, r22, c22, by rfl, by rw [Nat.zero_add, List.nil_append]; rfl⟩

set_option maxRecDepth 100000 in
set_option maxHeartbeats 1000000 in
theorem rLoad_bad (zs : List Nat) (a : Option Addr) (ca : Nat) (w0 : World) (hsl : OldSl w0 [] a zs.length 1 (zs.map u8V)) (hn : zs.length ≤ 140737488355328) (hg : ¬ goodLen zs.length) : Sp Try.prog 60 [.slice a zs.length ca] w0 [] (RV (.tuple #[.pointer none, .int .i64 2])) := by
  refine spec_enter Try.func60 rfl Try.ntmps60 rfl (Own.refl _) ?_
  simp only [argEnv]
  refine gc_seq ?_
  refine gc_region ?_
  refine gl_op (op_rd rfl (rd_assign rfl) ?_)
  refine gl_op (op_rd rfl (rd_assign rfl) ?_)
  refine gl_nil ?_
  refine gx_then ?_
  refine gc_seq ?_
  refine gc_region ?_
  refine gl_op (op_rd rfl (rd_move rfl) ?_)
  refine gl_op (op_rd rfl (rd_lenSlice Try.underlying36 rfl) ?_)
  refine gl_op (op_rd rfl (by first | exact rd_quoN (b := 256) rfl rfl (by omega) (by omega) | exact rd_quo rfl rfl (by omega) (by omega) (by omega)) ?_)
  refine gl_op (op_rd rfl (rd_assign rfl) ?_)
  refine gl_nil ?_
  refine gx_then ?_
  refine gc_seq ?_
  refine gc_seq ?_
  refine gc_region ?_
  refine gl_op (op_rd rfl (rd_move rfl) ?_)
  refine gl_op (op_rd rfl (rd_lenSlice Try.underlying36 rfl) ?_)
  refine gl_op (op_rd rfl (by first | exact rd_remN (b := 256) rfl rfl (by omega) | exact rd_rem rfl rfl (by omega) (by omega)) ?_)
  refine gl_op (op_rd rfl (rd_neq rfl rfl) (gk_dec (fun h11 => ?_) (fun h11 => ?_)))
  · skip
    refine gl_op (op_rd rfl (rd_move rfl) ?_)
    refine gl_no rfl rfl rfl ?_
    refine gl_no rfl rfl rfl ?_
    refine gl_op (op_rd rfl (rd_pick_t rfl rfl) ?_)
    refine gl_op (op_rd rfl (rd_move rfl) ?_)
    refine gl_no rfl rfl rfl ?_
    refine gl_no rfl rfl rfl ?_
    refine gl_op (op_rd rfl (rd_pick_t rfl rfl) ?_)
    refine gl_nil ?_
    refine gx_then ?_
    refine gc_cond_t rfl ?_
    refine gc_seq ?_
    refine gc_region ?_
    refine gl_op (op_rd rfl (rd_assign rfl) ?_)
    refine gl_op (op_rd rfl (rd_assign rfl) ?_)
    refine gl_nil ?_
    refine gx_then ?_
    refine gc_ret ?_
    refine gx_then_ret ?_
    refine gx_ret2 (.inl rfl) Try.results60 rfl rfl [] (by decide) ?_
    exact ⟨rfl, rfl⟩
  · skip
    refine gl_op (op_rd rfl (rd_move rfl) ?_)
    refine gl_yes rfl rfl (op_rd rfl (rd_move rfl) ?_)
    refine gl_yes rfl rfl (op_rd rfl (rd_lss rfl rfl) (gk_dec (fun h14 => ?_) (fun h14 => ?_)))
    · skip
      refine gl_op (op_rd rfl (rd_pick_f rfl rfl) ?_)
      refine gl_op (op_rd rfl (rd_move rfl) ?_)
      refine gl_no rfl rfl rfl ?_
      refine gl_no rfl rfl rfl ?_
      refine gl_op (op_rd rfl (rd_pick_t rfl rfl) ?_)
      refine gl_nil ?_
      refine gx_then ?_
      refine gc_cond_t rfl ?_
      refine gc_seq ?_
      refine gc_region ?_
      refine gl_op (op_rd rfl (rd_assign rfl) ?_)
      refine gl_op (op_rd rfl (rd_assign rfl) ?_)
      refine gl_nil ?_
      refine gx_then ?_
      refine gc_ret ?_
      refine gx_then_ret ?_
      refine gx_ret2 (.inl rfl) Try.results60 rfl rfl [] (by decide) ?_
      exact ⟨rfl, rfl⟩
    · skip
      refine gl_op (op_rd rfl (rd_pick_f rfl rfl) ?_)
      refine gl_op (op_rd rfl (rd_move rfl) ?_)
      refine gl_yes rfl rfl (op_rd rfl (rd_move rfl) ?_)
      refine gl_yes rfl rfl (op_rd rfl (rd_gtr rfl rfl) (gk_dec (fun h18 => ?_) (fun h18 => ?_)))
      · skip
        refine gl_op (op_rd rfl (rd_pick_f rfl rfl) ?_)
        refine gl_nil ?_
        refine gx_then ?_
        refine gc_cond_t rfl ?_
        refine gc_seq ?_
        refine gc_region ?_
        refine gl_op (op_rd rfl (rd_assign rfl) ?_)
        refine gl_op (op_rd rfl (rd_assign rfl) ?_)
        refine gl_nil ?_
        refine gx_then ?_
        refine gc_ret ?_
        refine gx_then_ret ?_
        refine gx_ret2 (.inl rfl) Try.results60 rfl rfl [] (by decide) ?_
        exact ⟨rfl, rfl⟩
      · skip
        exact absurd ⟨by omega, by omega, by omega⟩ hg

end Go.Proofs.Ythcbcdjkfefnlaa

set_option autoImplicit false
set_option linter.unusedVariables false
namespace Go.Proofs.Ythcbcdjkfefnlaa
open Go.Gv
open Go.RowKit
open Iv
namespace Iv
theorem fuse_okP {f : Fl} (hf : f.Ok) {n : Int} (hn : n ≤ 9223372036854775807) {ps : List Nat} (hps : ∀ z ∈ ps, z < 256) : (flFuse f n ps).1.Ok := by
  unfold flFuse
  split
  · exact hf
  · rename_i h
    split
    · exact hf
    · exact ⟨hf.bs, hps, hf.len, hf.lo, hf.hi, by simp only; omega, hf.pr, hf.er, hf.st, by simp only; omega, hn⟩
theorem restart_okP {f : Fl} (hf : f.Ok) : (flRestart f).Ok := ⟨hf.bs, (fun z hz => by cases hz), hf.len, hf.lo, hf.hi, Nat.zero_le _, hf.pr, hf.er, hf.st, (by decide : (-1 : Int) ≤ -1), (by decide : (-1 : Int) ≤ 9223372036854775807)⟩
theorem erase_okP {f : Fl} (hf : f.Ok) (he : f.er + 1 < 4611686018427387904) (at_ : Int) : (flErase f at_).1.Ok ∧ (flErase f at_).1.er ≤ f.er + 1 ∧ (flErase f at_).1.b.length = f.b.length ∧ (flErase f at_).1.st = f.st ∧ (flErase f at_).1.pr = f.pr := by
  unfold flErase
  split
  · exact ⟨hf, Nat.le_succ _, rfl, rfl, rfl⟩
  · rename_i h
    have hat : 0 ≤ at_ ∧ at_ < ((f.b.length / 256 : Nat) : Int) := by
      unfold flBegins at h
      split at h
      · exact absurd (by decide) h
      · split at h
        · exact absurd (by decide) h
        · omega
    have hlm := hf.len
    obtain ⟨s1, s2, s3⟩ := flFails_st { f with er := f.er + 1 }
    obtain ⟨l0, l1⟩ := flFails_left (f := { f with er := f.er + 1 }) hf.l0 hf.l1
    have hpk := flFails_picks { f with er := f.er + 1 }
    unfold flErase1
    have hbb : ∀ z ∈ (if !(flFails { f with er := f.er + 1 }).down || decide (f.picks.length = 0) then f.b.take (at_.toNat * 256) ++ List.replicate 256 255 ++ f.b.drop (at_.toNat * 256 + 256) else orTo f.picks f.b (at_.toNat * 256) 256), z < 256 := by
      split
      · intro z hz
        rcases List.mem_append.1 hz with hz | hz
        · rcases List.mem_append.1 hz with hz | hz
          · exact hf.bs z (List.mem_of_mem_take hz)
          · rw [List.eq_of_mem_replicate hz]; decide
        · exact hf.bs z (List.mem_of_mem_drop hz)
      · exact orTo_lt hf.bs hf.ps _ _
    have hbl : (if !(flFails { f with er := f.er + 1 }).down || decide (f.picks.length = 0) then f.b.take (at_.toNat * 256) ++ List.replicate 256 255 ++ f.b.drop (at_.toNat * 256 + 256) else orTo f.picks f.b (at_.toNat * 256) 256).length = f.b.length := by
      split
      · simp only [List.length_append, List.length_take, List.length_replicate, List.length_drop]; omega
      · exact orTo_len _ _ _ _
    generalize (if !(flFails { f with er := f.er + 1 }).down || decide (f.picks.length = 0) then f.b.take (at_.toNat * 256) ++ List.replicate 256 255 ++ f.b.drop (at_.toNat * 256 + 256) else orTo f.picks f.b (at_.toNat * 256) 256) = B at hbb hbl ⊢
    have hpr := hf.pr
    have hst := hf.st
    refine ⟨⟨hbb, by rw [hpk]; exact hf.ps, by simp only [hbl]; exact hf.len, by simp only [hbl]; exact hf.lo, by simp only [hbl]; exact hf.hi, by rw [hpk]; exact hf.pl, ?_, ?_, ?_, l0, l1⟩, ?_, hbl, s1, s2⟩
    · simp only [s2]; exact hpr
    · simp only [s3]; exact he
    · simp only [s1]; exact hst
    · simp only [s3]; exact Nat.le_refl _
def K0 : Fl := flNew (List.replicate (256 * 4) 255)
def K1 : Fl := (flProg K0 5 15).1
def K2 : Fl := (flProg K1 5 243).1
def K3 : Fl := (flFuse K2 1 [48]).1
def K4 : Fl := (flProg K3 6 143).1
def K5 : Fl := (flProg K4 7 15).1
def K6 : Fl := flRestart K5
def K7 : Fl := (flErase K6 0).1
def K8 : Fl := (flFuse K7 0 [1, 128]).1
def K9 : Fl := (flProg K8 8 0).1
def K10 : Fl := flRestart K9
set_option maxRecDepth 100000 in
theorem known_all : ∃ k0 k1 k2 k3 k4 k5 k6 k7 k8 k9 k10 : Fl, flNew (List.replicate (256 * 4) 255) = k0 ∧ (flProg k0 5 15 = (k1, 0) ∧ flProg k1 5 243 = (k2, 0) ∧ flRead k2 5 = (3, 0) ∧ flFuse k2 1 [48] = (k3, 0) ∧ flProg k3 6 143 = (k4, 0) ∧ flProg k4 7 15 = (k5, 9) ∧ k5.down = true ∧ flRead k5 7 = (0, 9)) ∧ (flRestart k5 = k6 ∧ flRead k6 7 = (63, 0) ∧ flErase k6 0 = (k7, 0) ∧ flRead k7 5 = (255, 0) ∧ flFuse k7 0 [1, 128] = (k8, 0) ∧ flProg k8 8 0 = (k9, 9) ∧ flRestart k9 = k10 ∧ flRead k10 8 = (1, 0) ∧ k10.pr = 5 ∧ k10.er = 1) ∧ (k0.Ok ∧ k1.Ok ∧ k2.Ok ∧ k3.Ok ∧ k4.Ok ∧ k5.Ok ∧ k6.Ok ∧ k7.Ok ∧ k8.Ok ∧ k9.Ok ∧ k10.Ok) := by
  have o0 : K0.Ok := (new_fresh (n := 4) (by decide) (by decide)).ok
  have o1 : K1.Ok := (prog_ok o0 (by decide +kernel) (u := 15) (by decide) 5).1
  have o2 : K2.Ok := (prog_ok o1 (by decide +kernel) (u := 243) (by decide) 5).1
  have o3 : K3.Ok := fuse_okP o2 (by decide) (by decide)
  have o4 : K4.Ok := (prog_ok o3 (by decide +kernel) (u := 143) (by decide) 6).1
  have o5 : K5.Ok := (prog_ok o4 (by decide +kernel) (u := 15) (by decide) 7).1
  have o6 : K6.Ok := restart_okP o5
  have o7 : K7.Ok := (erase_okP o6 (by decide +kernel) 0).1
  have o8 : K8.Ok := fuse_okP o7 (by decide) (by decide)
  have o9 : K9.Ok := (prog_ok o8 (by decide +kernel) (u := 0) (by decide) 8).1
  have o10 : K10.Ok := restart_okP o9
  refine ⟨K0, K1, K2, K3, K4, K5, K6, K7, K8, K9, K10, rfl, ⟨Prod.ext rfl (by decide +kernel), Prod.ext rfl (by decide +kernel), by decide +kernel, Prod.ext rfl (by decide +kernel), Prod.ext rfl (by decide +kernel), Prod.ext rfl (by decide +kernel), by decide +kernel, by decide +kernel⟩, ⟨rfl, by decide +kernel, Prod.ext rfl (by decide +kernel), by decide +kernel, Prod.ext rfl (by decide +kernel), Prod.ext rfl (by decide +kernel), rfl, by decide +kernel, by decide +kernel, by decide +kernel⟩, o0, o1, o2, o3, o4, o5, o6, o7, o8, o9, o10⟩
end Iv
end Go.Proofs.Ythcbcdjkfefnlaa

set_option autoImplicit false
set_option linter.unusedVariables false
namespace Go.Proofs.Ythcbcdjkfefnlaa
open Go.Gv
open Go.RowKit
open Iv
namespace Iv
section
variable {P : Program} {n : Nat} {e : Env} {w0 : World} {S : List Nat} {l : List HL} {dst : Option Tmp} {ty : TypeId} {pos : String} {aft : Array Edge} {gd : Option (Nat × Bool)} {x y : Operand} {t ty' : TypeId}
theorem rd_neqNilPt {E : TypeId} {a : Option Addr} (hgt : P.eqGuardType P.depth t = false) (hu : P.underlying t = some (.pointer E)) (hx : e.ev x = some (.pointer a)) (hy : e.ev y = some (.pointer none)) : Rd P n e w0 S l ⟨dst, .binOp .neq t x y ty', ty, pos, aft, gd⟩ (.bool (!a.isNone)) :=
  fun ac w hs ho => by
    have h := run_equalInPt (P := P) 9999 hu a w
    have h2 : (Op.equal t (.pointer a) (.pointer none)).run P w = .ok a.isNone w := h
    simp [execOp, hs.ev hx, hs.ev hy, eqGuard, binOp, hgt, h2]
end
/-- no flash, no store: nil, or not made -/
def NoP (w : World) (p : Option Addr) : Prop := p = none ∨ ∃ ad cs, p = some ad ∧ Cells w ad (.bool false :: cs)
theorem NoP.at {w0 w : World} {l : List HL} {p : Option Addr} (h : NoP w0 p) (ho : Own w0 [] w l) : NoP w p := by
  rcases h with h | ⟨ad, cs, h1, h2⟩
  · exact .inl h
  · exact .inr ⟨ad, cs, h1, h2.at ho⟩
end Iv

set_option maxRecDepth 100000 in
set_option maxHeartbeats 1000000 in
theorem none_no_nil (w0 : World)  : Sp Try.prog 37 [.pointer none] w0 [] (RV (.bool true)) := by
  refine spec_enter Try.func37 rfl Try.ntmps37 rfl (Own.refl _) ?_
  simp only [argEnv]
  refine gc_seq ?_
  refine gc_region ?_
  refine gl_op (op_rd rfl (rd_assign rfl) ?_)
  refine gl_nil ?_
  refine gx_then ?_
  refine gc_seq ?_
  refine gc_region ?_
  refine gl_op (op_rd rfl (rd_move rfl) ?_)
  refine gl_op (op_rd rfl (rd_eqlNilPt eg_25 Try.underlying25 rfl rfl) ?_)
  refine gl_op (op_rd rfl (rd_move rfl) ?_)
  refine gl_no rfl rfl rfl ?_
  refine gl_no rfl rfl rfl ?_
  refine gl_no rfl rfl rfl ?_
  refine gl_no rfl rfl rfl ?_
  refine gl_no rfl rfl rfl ?_
  refine gl_op (op_rd rfl (rd_pick_t rfl rfl) ?_)
  refine gl_op (op_rd rfl (rd_assign rfl) ?_)
  refine gl_nil ?_
  refine gx_then ?_
  refine gc_ret ?_
  refine gx_ret1 (.inl rfl) Try.results37 rfl [] (by decide) ?_
  exact ⟨rfl, rfl⟩

set_option maxRecDepth 100000 in
set_option maxHeartbeats 1000000 in
theorem none_no_zero (ad : Addr) (cs : List Value) (w0 : World) (hc : Cells w0 ad (.bool false :: cs))  : Sp Try.prog 37 [.pointer (some ad)] w0 [] (RV (.bool true)) := by
  refine spec_enter Try.func37 rfl Try.ntmps37 rfl (Own.refl _) ?_
  simp only [argEnv]
  refine gc_seq ?_
  refine gc_region ?_
  refine gl_op (op_rd rfl (rd_assign rfl) ?_)
  refine gl_nil ?_
  refine gx_then ?_
  refine gc_seq ?_
  refine gc_region ?_
  refine gl_op (op_rd rfl (rd_move rfl) ?_)
  refine gl_op (op_rd rfl (rd_eqlNilPt eg_25 Try.underlying25 rfl rfl) ?_)
  refine gl_op (op_rd rfl (rd_move rfl) ?_)
  refine gl_yes rfl rfl (op_rd rfl (rd_move rfl) ?_)
  refine gl_yes rfl rfl (op_rd rfl (rd_nilCheck rfl) ?_)
  refine gl_yes rfl rfl (op_rd rfl (rd_fieldAddr rfl (fa_72_0 _)) ?_)
  refine gl_yes rfl rfl (op_rd rfl (rd_load Try.underlying4 rfl rfl (ld_cells (j := 0) hc (by simp) rfl)) ?_)
  refine gl_yes rfl rfl (op_rd rfl (rd_not rfl) ?_)
  refine gl_op (op_rd rfl (rd_pick_f rfl rfl) ?_)
  refine gl_op (op_rd rfl (rd_assign rfl) ?_)
  refine gl_nil ?_
  refine gx_then ?_
  refine gc_ret ?_
  refine gx_ret1 (.inl rfl) Try.results37 rfl [] (by decide) ?_
  exact ⟨rfl, rfl⟩

theorem none_no (p : Option Addr) (w0 : World) (hp : NoP w0 p)  : Sp Try.prog 37 [.pointer p] w0 [] (RV (.bool true)) := by
  rcases hp with rfl | ⟨ad, cs, rfl, hc⟩
  · exact none_no_nil w0 
  · exact none_no_zero ad cs w0 hc 

set_option maxRecDepth 100000 in
set_option maxHeartbeats 1000000 in
theorem ready_no_nil (w0 : World)  : Sp Try.prog 41 [.pointer none] w0 [] (RV (.int .i64 1)) := by
  refine spec_enter Try.func41 rfl Try.ntmps41 rfl (Own.refl _) ?_
  simp only [argEnv]
  refine gc_seq ?_
  refine gc_region ?_
  refine gl_op (op_rd rfl (rd_assign rfl) ?_)
  refine gl_nil ?_
  refine gx_then ?_
  refine gc_seq ?_
  refine gc_block ?_
  refine gc_seq ?_
  refine gc_region ?_
  refine gl_op (op_rd rfl (rd_move rfl) ?_)
  refine gl_op (op_rd rfl (rd_eqlNilPt eg_29 Try.underlying29 rfl rfl) ?_)
  refine gl_op (op_rd rfl (rd_move rfl) ?_)
  refine gl_no rfl rfl rfl ?_
  refine gl_no rfl rfl rfl ?_
  refine gl_no rfl rfl rfl ?_
  refine gl_no rfl rfl rfl ?_
  refine gl_no rfl rfl rfl ?_
  refine gl_op (op_rd rfl (rd_pick_t rfl rfl) ?_)
  refine gl_op (op_rd rfl (rd_assign rfl) ?_)
  refine gl_nil ?_
  refine gx_then ?_
  refine gc_cond_t rfl ?_
  refine gc_seq ?_
  refine gc_region ?_
  refine gl_op (op_rd rfl (rd_assign rfl) ?_)
  refine gl_nil ?_
  refine gx_then ?_
  refine gc_ret ?_
  refine gx_block_ret ?_
  refine gx_then_ret ?_
  refine gx_ret1 (.inl rfl) Try.results41 rfl [] (by decide) ?_
  exact ⟨rfl, rfl⟩

set_option maxRecDepth 100000 in
set_option maxHeartbeats 1000000 in
theorem ready_no_zero (ad : Addr) (cs : List Value) (w0 : World) (hc : Cells w0 ad (.bool false :: cs))  : Sp Try.prog 41 [.pointer (some ad)] w0 [] (RV (.int .i64 1)) := by
  refine spec_enter Try.func41 rfl Try.ntmps41 rfl (Own.refl _) ?_
  simp only [argEnv]
  refine gc_seq ?_
  refine gc_region ?_
  refine gl_op (op_rd rfl (rd_assign rfl) ?_)
  refine gl_nil ?_
  refine gx_then ?_
  refine gc_seq ?_
  refine gc_block ?_
  refine gc_seq ?_
  refine gc_region ?_
  refine gl_op (op_rd rfl (rd_move rfl) ?_)
  refine gl_op (op_rd rfl (rd_eqlNilPt eg_29 Try.underlying29 rfl rfl) ?_)
  refine gl_op (op_rd rfl (rd_move rfl) ?_)
  refine gl_yes rfl rfl (op_rd rfl (rd_move rfl) ?_)
  refine gl_yes rfl rfl (op_rd rfl (rd_nilCheck rfl) ?_)
  refine gl_yes rfl rfl (op_rd rfl (rd_fieldAddr rfl (fa_81_0 _)) ?_)
  refine gl_yes rfl rfl (op_rd rfl (rd_load Try.underlying4 rfl rfl (ld_cells (j := 0) hc (by simp) rfl)) ?_)
  refine gl_yes rfl rfl (op_rd rfl (rd_not rfl) ?_)
  refine gl_op (op_rd rfl (rd_pick_f rfl rfl) ?_)
  refine gl_op (op_rd rfl (rd_assign rfl) ?_)
  refine gl_nil ?_
  refine gx_then ?_
  refine gc_cond_t rfl ?_
  refine gc_seq ?_
  refine gc_region ?_
  refine gl_op (op_rd rfl (rd_assign rfl) ?_)
  refine gl_nil ?_
  refine gx_then ?_
  refine gc_ret ?_
  refine gx_block_ret ?_
  refine gx_then_ret ?_
  refine gx_ret1 (.inl rfl) Try.results41 rfl [] (by decide) ?_
  exact ⟨rfl, rfl⟩

theorem ready_no (p : Option Addr) (w0 : World) (hp : NoP w0 p)  : Sp Try.prog 41 [.pointer p] w0 [] (RV (.int .i64 1)) := by
  rcases hp with rfl | ⟨ad, cs, rfl, hc⟩
  · exact ready_no_nil w0 
  · exact ready_no_zero ad cs w0 hc 

set_option maxRecDepth 100000 in
set_option maxHeartbeats 1000000 in
theorem Get_no_nil (w0 : World) (key : Int) : Sp Try.prog 12 [.pointer none, .int .i64 key] w0 [] (RV (.tuple #[.slice none 0 0, .int .i64 1])) := by
  refine spec_enter Try.func12 rfl Try.ntmps12 rfl (Own.refl _) ?_
  simp only [argEnv]
  refine gc_seq ?_
  refine gc_region ?_
  refine gl_op (op_rd rfl (rd_assign rfl) ?_)
  refine gl_op (op_rd rfl (rd_assign rfl) ?_)
  refine gl_nil ?_
  refine gx_then ?_
  refine gc_seq ?_
  refine gc_seq ?_
  refine gc_region ?_
  refine gl_op (op_rd rfl (rd_move rfl) ?_)
  refine gl_op (op_rd rfl (rd_eqlNilPt eg_29 Try.underlying29 rfl rfl) ?_)
  refine gl_op (op_rd rfl (rd_move rfl) ?_)
  refine gl_no rfl rfl rfl ?_
  refine gl_no rfl rfl rfl ?_
  refine gl_no rfl rfl rfl ?_
  refine gl_no rfl rfl rfl ?_
  refine gl_no rfl rfl rfl ?_
  refine gl_op (op_rd rfl (rd_pick_t rfl rfl) ?_)
  refine gl_nil ?_
  refine gx_then ?_
  refine gc_cond_t rfl ?_
  refine gc_seq ?_
  refine gc_region ?_
  refine gl_op (op_rd rfl (rd_assign rfl) ?_)
  refine gl_op (op_rd rfl (rd_assign rfl) ?_)
  refine gl_nil ?_
  refine gx_then ?_
  refine gc_ret ?_
  refine gx_then_ret ?_
  refine gx_ret2 (.inl rfl) Try.results12 rfl rfl [] (by decide) ?_
  exact ⟨rfl, rfl⟩

set_option maxRecDepth 100000 in
set_option maxHeartbeats 1000000 in
theorem Get_no_zero (ad : Addr) (cs : List Value) (w0 : World) (hc : Cells w0 ad (.bool false :: cs)) (key : Int) : Sp Try.prog 12 [.pointer (some ad), .int .i64 key] w0 [] (RV (.tuple #[.slice none 0 0, .int .i64 1])) := by
  refine spec_enter Try.func12 rfl Try.ntmps12 rfl (Own.refl _) ?_
  simp only [argEnv]
  refine gc_seq ?_
  refine gc_region ?_
  refine gl_op (op_rd rfl (rd_assign rfl) ?_)
  refine gl_op (op_rd rfl (rd_assign rfl) ?_)
  refine gl_nil ?_
  refine gx_then ?_
  refine gc_seq ?_
  refine gc_seq ?_
  refine gc_region ?_
  refine gl_op (op_rd rfl (rd_move rfl) ?_)
  refine gl_op (op_rd rfl (rd_eqlNilPt eg_29 Try.underlying29 rfl rfl) ?_)
  refine gl_op (op_rd rfl (rd_move rfl) ?_)
  refine gl_yes rfl rfl (op_rd rfl (rd_move rfl) ?_)
  refine gl_yes rfl rfl (op_rd rfl (rd_nilCheck rfl) ?_)
  refine gl_yes rfl rfl (op_rd rfl (rd_fieldAddr rfl (fa_81_0 _)) ?_)
  refine gl_yes rfl rfl (op_rd rfl (rd_load Try.underlying4 rfl rfl (ld_cells (j := 0) hc (by simp) rfl)) ?_)
  refine gl_yes rfl rfl (op_rd rfl (rd_not rfl) ?_)
  refine gl_op (op_rd rfl (rd_pick_f rfl rfl) ?_)
  refine gl_nil ?_
  refine gx_then ?_
  refine gc_cond_t rfl ?_
  refine gc_seq ?_
  refine gc_region ?_
  refine gl_op (op_rd rfl (rd_assign rfl) ?_)
  refine gl_op (op_rd rfl (rd_assign rfl) ?_)
  refine gl_nil ?_
  refine gx_then ?_
  refine gc_ret ?_
  refine gx_then_ret ?_
  refine gx_ret2 (.inl rfl) Try.results12 rfl rfl [] (by decide) ?_
  exact ⟨rfl, rfl⟩

theorem Get_no (p : Option Addr) (w0 : World) (hp : NoP w0 p) (key : Int) : Sp Try.prog 12 [.pointer p, .int .i64 key] w0 [] (RV (.tuple #[.slice none 0 0, .int .i64 1])) := by
  rcases hp with rfl | ⟨ad, cs, rfl, hc⟩
  · exact Get_no_nil w0 key
  · exact Get_no_zero ad cs w0 hc key

set_option maxRecDepth 100000 in
set_option maxHeartbeats 1000000 in
theorem Put_no_nil (w0 : World) (key : Int) (a : Option Addr) (m : Nat) (c : Nat) : Sp Try.prog 17 [.pointer none, .int .i64 key, .slice a m c] w0 [] (RV (.int .i64 1)) := by
  refine spec_enter Try.func17 rfl Try.ntmps17 rfl (Own.refl _) ?_
  simp only [argEnv]
  refine gc_seq ?_
  refine gc_region ?_
  refine gl_op (op_rd rfl (rd_assign rfl) ?_)
  refine gl_nil ?_
  refine gx_then ?_
  refine gc_seq ?_
  refine gc_seq ?_
  refine gc_region ?_
  refine gl_op (op_rd rfl (rd_move rfl) ?_)
  refine gl_op (op_rd rfl (rd_eqlNilPt eg_29 Try.underlying29 rfl rfl) ?_)
  refine gl_op (op_rd rfl (rd_move rfl) ?_)
  refine gl_no rfl rfl rfl ?_
  refine gl_no rfl rfl rfl ?_
  refine gl_no rfl rfl rfl ?_
  refine gl_no rfl rfl rfl ?_
  refine gl_no rfl rfl rfl ?_
  refine gl_op (op_rd rfl (rd_pick_t rfl rfl) ?_)
  refine gl_nil ?_
  refine gx_then ?_
  refine gc_cond_t rfl ?_
  refine gc_seq ?_
  refine gc_region ?_
  refine gl_op (op_rd rfl (rd_assign rfl) ?_)
  refine gl_nil ?_
  refine gx_then ?_
  refine gc_ret ?_
  refine gx_then_ret ?_
  refine gx_ret1 (.inl rfl) Try.results17 rfl [] (by decide) ?_
  exact ⟨rfl, rfl⟩

set_option maxRecDepth 100000 in
set_option maxHeartbeats 1000000 in
theorem Put_no_zero (ad : Addr) (cs : List Value) (w0 : World) (hc : Cells w0 ad (.bool false :: cs)) (key : Int) (a : Option Addr) (m : Nat) (c : Nat) : Sp Try.prog 17 [.pointer (some ad), .int .i64 key, .slice a m c] w0 [] (RV (.int .i64 1)) := by
  refine spec_enter Try.func17 rfl Try.ntmps17 rfl (Own.refl _) ?_
  simp only [argEnv]
  refine gc_seq ?_
  refine gc_region ?_
  refine gl_op (op_rd rfl (rd_assign rfl) ?_)
  refine gl_nil ?_
  refine gx_then ?_
  refine gc_seq ?_
  refine gc_seq ?_
  refine gc_region ?_
  refine gl_op (op_rd rfl (rd_move rfl) ?_)
  refine gl_op (op_rd rfl (rd_eqlNilPt eg_29 Try.underlying29 rfl rfl) ?_)
  refine gl_op (op_rd rfl (rd_move rfl) ?_)
  refine gl_yes rfl rfl (op_rd rfl (rd_move rfl) ?_)
  refine gl_yes rfl rfl (op_rd rfl (rd_nilCheck rfl) ?_)
  refine gl_yes rfl rfl (op_rd rfl (rd_fieldAddr rfl (fa_81_0 _)) ?_)
  refine gl_yes rfl rfl (op_rd rfl (rd_load Try.underlying4 rfl rfl (ld_cells (j := 0) hc (by simp) rfl)) ?_)
  refine gl_yes rfl rfl (op_rd rfl (rd_not rfl) ?_)
  refine gl_op (op_rd rfl (rd_pick_f rfl rfl) ?_)
  refine gl_nil ?_
  refine gx_then ?_
  refine gc_cond_t rfl ?_
  refine gc_seq ?_
  refine gc_region ?_
  refine gl_op (op_rd rfl (rd_assign rfl) ?_)
  refine gl_nil ?_
  refine gx_then ?_
  refine gc_ret ?_
  refine gx_then_ret ?_
  refine gx_ret1 (.inl rfl) Try.results17 rfl [] (by decide) ?_
  exact ⟨rfl, rfl⟩

theorem Put_no (p : Option Addr) (w0 : World) (hp : NoP w0 p) (key : Int) (a : Option Addr) (m : Nat) (c : Nat) : Sp Try.prog 17 [.pointer p, .int .i64 key, .slice a m c] w0 [] (RV (.int .i64 1)) := by
  rcases hp with rfl | ⟨ad, cs, rfl, hc⟩
  · exact Put_no_nil w0 key a m c
  · exact Put_no_zero ad cs w0 hc key a m c

set_option maxRecDepth 100000 in
set_option maxHeartbeats 1000000 in
theorem Blocks_no (p : Option Addr) (w0 : World) (hp : NoP w0 p)  : Sp Try.prog 33 [.pointer p] w0 [] (RV (natV 0)) := by
  refine spec_enter Try.func33 rfl Try.ntmps33 rfl (Own.refl _) ?_
  simp only [argEnv]
  refine gc_seq ?_
  refine gc_region ?_
  refine gl_op (op_rd rfl (rd_assign rfl) ?_)
  refine gl_nil ?_
  refine gx_then ?_
  refine gc_seq ?_
  refine gc_seq ?_
  refine gc_region ?_
  refine gl_op (op_rd rfl (rd_move rfl) ?_)
  refine gl_op (op_call rfl (vf := []) (vc := []) rfl rfl Try.call37 (fun w1 ho => none_no p w1 (hp.at ho)) ?_)
  rintro _ _ ⟨rfl, rfl⟩
  refine gl_nil ?_
  refine gx_then ?_
  refine gc_cond_t rfl ?_
  refine gc_seq ?_
  refine gc_region ?_
  refine gl_op (op_rd rfl (rd_assign rfl) ?_)
  refine gl_nil ?_
  refine gx_then ?_
  refine gc_ret ?_
  refine gx_then_ret ?_
  refine gx_ret1 (.inl rfl) Try.results33 rfl [] (by decide) ?_
  exact ⟨rfl, rfl⟩

set_option maxRecDepth 100000 in
set_option maxHeartbeats 1000000 in
theorem Counts_no (p : Option Addr) (w0 : World) (hp : NoP w0 p)  : Sp Try.prog 16 [.pointer p] w0 [] (RV (.tuple #[natV 0, natV 0])) := by
  refine spec_enter Try.func16 rfl Try.ntmps16 rfl (Own.refl _) ?_
  simp only [argEnv]
  refine gc_seq ?_
  refine gc_region ?_
  refine gl_op (op_rd rfl (rd_assign rfl) ?_)
  refine gl_op (op_rd rfl (rd_assign rfl) ?_)
  refine gl_nil ?_
  refine gx_then ?_
  refine gc_seq ?_
  refine gc_seq ?_
  refine gc_region ?_
  refine gl_op (op_rd rfl (rd_move rfl) ?_)
  refine gl_op (op_call rfl (vf := []) (vc := []) rfl rfl Try.call37 (fun w1 ho => none_no p w1 (hp.at ho)) ?_)
  rintro _ _ ⟨rfl, rfl⟩
  refine gl_nil ?_
  refine gx_then ?_
  refine gc_cond_t rfl ?_
  refine gc_seq ?_
  refine gc_region ?_
  refine gl_op (op_rd rfl (rd_assign rfl) ?_)
  refine gl_op (op_rd rfl (rd_assign rfl) ?_)
  refine gl_nil ?_
  refine gx_then ?_
  refine gc_ret ?_
  refine gx_then_ret ?_
  refine gx_ret2 (.inl rfl) Try.results16 rfl rfl [] (by decide) ?_
  exact ⟨rfl, rfl⟩

set_option maxRecDepth 100000 in
set_option maxHeartbeats 1000000 in
theorem Down_no (p : Option Addr) (w0 : World) (hp : NoP w0 p)  : Sp Try.prog 20 [.pointer p] w0 [] (RV (.bool false)) := by
  refine spec_enter Try.func20 rfl Try.ntmps20 rfl (Own.refl _) ?_
  simp only [argEnv]
  refine gc_seq ?_
  refine gc_region ?_
  refine gl_op (op_rd rfl (rd_assign rfl) ?_)
  refine gl_nil ?_
  refine gx_then ?_
  refine gc_seq ?_
  refine gc_region ?_
  refine gl_op (op_rd rfl (rd_move rfl) ?_)
  refine gl_op (op_call rfl (vf := []) (vc := []) rfl rfl Try.call37 (fun w1 ho => none_no p w1 (hp.at ho)) ?_)
  rintro _ _ ⟨rfl, rfl⟩
  refine gl_op (op_rd rfl (rd_not rfl) ?_)
  refine gl_op (op_rd rfl (rd_move rfl) ?_)
  refine gl_no rfl rfl rfl ?_
  refine gl_no rfl rfl rfl ?_
  refine gl_no rfl rfl rfl ?_
  refine gl_no rfl rfl rfl ?_
  refine gl_op (op_rd rfl (rd_pick_f rfl rfl) ?_)
  refine gl_op (op_rd rfl (rd_assign rfl) ?_)
  refine gl_nil ?_
  refine gx_then ?_
  refine gc_ret ?_
  refine gx_ret1 (.inl rfl) Try.results20 rfl [] (by decide) ?_
  exact ⟨rfl, rfl⟩

set_option maxRecDepth 100000 in
set_option maxHeartbeats 1000000 in
theorem begins_no (p : Option Addr) (w0 : World) (hp : NoP w0 p) (a b : Int) : Sp Try.prog 54 [.pointer p, .int .i64 a, .int .i64 b] w0 [] (RV (.int .i64 1)) := by
  refine spec_enter Try.func54 rfl Try.ntmps54 rfl (Own.refl _) ?_
  simp only [argEnv]
  refine gc_seq ?_
  refine gc_region ?_
  refine gl_op (op_rd rfl (rd_assign rfl) ?_)
  refine gl_nil ?_
  refine gx_then ?_
  refine gc_seq ?_
  refine gc_block ?_
  refine gc_seq ?_
  refine gc_region ?_
  refine gl_op (op_rd rfl (rd_move rfl) ?_)
  refine gl_op (op_call rfl (vf := []) (vc := []) rfl rfl Try.call37 (fun w1 ho => none_no p w1 (hp.at ho)) ?_)
  rintro _ _ ⟨rfl, rfl⟩
  refine gl_op (op_rd rfl (rd_assign rfl) ?_)
  refine gl_nil ?_
  refine gx_then ?_
  refine gc_cond_t rfl ?_
  refine gc_seq ?_
  refine gc_region ?_
  refine gl_op (op_rd rfl (rd_assign rfl) ?_)
  refine gl_nil ?_
  refine gx_then ?_
  refine gc_ret ?_
  refine gx_block_ret ?_
  refine gx_then_ret ?_
  refine gx_ret1 (.inl rfl) Try.results54 rfl [] (by decide) ?_
  exact ⟨rfl, rfl⟩

set_option maxRecDepth 100000 in
set_option maxHeartbeats 1000000 in
theorem Program_no (p : Option Addr) (w0 : World) (hp : NoP w0 p) (a : Int) (u : Nat) : Sp Try.prog 25 [.pointer p, .int .i64 a, .int .u8 (u : Int)] w0 [] (RV (.int .i64 1)) := by
  refine spec_enter Try.func25 rfl Try.ntmps25 rfl (Own.refl _) ?_
  simp only [argEnv]
  refine gc_seq ?_
  refine gc_region ?_
  refine gl_op (op_rd rfl (rd_assign rfl) ?_)
  refine gl_nil ?_
  refine gx_then ?_
  refine gc_seq ?_
  refine gc_seq ?_
  refine gc_region ?_
  refine gl_op (op_rd rfl (rd_move rfl) ?_)
  refine gl_op (op_rd rfl (rd_move rfl) ?_)
  refine gl_op (op_rd rfl (rd_move rfl) ?_)
  refine gl_op (op_call rfl (vf := []) (vc := []) rfl rfl Try.call33 (fun w1 ho => Blocks_no p w1 (hp.at ho)) ?_)
  rintro _ _ ⟨rfl, rfl⟩
  refine gl_op (op_rd rfl (by first | exact rd_mulN (b := 256) rfl rfl (by omega) | exact rd_mul rfl rfl (by omega) (by omega)) ?_)
  refine gl_op (op_call rfl (vf := []) (vc := []) rfl rfl Try.call54 (fun w1 ho => begins_no p w1 (hp.at ho) a ((0 * 256 : Nat) : Int)) ?_)
  rintro _ _ ⟨rfl, rfl⟩
  refine gl_op (op_rd rfl (rd_assign rfl) ?_)
  refine gl_nil ?_
  refine gx_then ?_
  refine gc_seq ?_
  refine gc_region ?_
  refine gl_op (op_rd rfl (rd_move rfl) ?_)
  refine gl_op (op_rd rfl (rd_neq rfl rfl) (gk_dec (fun h15 => ?_) (fun h15 => ?_)))
  · skip
    refine gl_nil ?_
    refine gx_then ?_
    refine gc_cond_t rfl ?_
    refine gc_seq ?_
    refine gc_region ?_
    refine gl_op (op_rd rfl (rd_move rfl) ?_)
    refine gl_op (op_rd rfl (rd_assign rfl) ?_)
    refine gl_nil ?_
    refine gx_then ?_
    refine gc_ret ?_
    refine gx_then_ret ?_
    refine gx_ret1 (.inl rfl) Try.results25 rfl [] (by decide) ?_
    exact ⟨rfl, rfl⟩
  · skip
    exfalso; omega

set_option maxRecDepth 100000 in
set_option maxHeartbeats 1000000 in
theorem Erase_no (p : Option Addr) (w0 : World) (hp : NoP w0 p) (a : Int) : Sp Try.prog 27 [.pointer p, .int .i64 a] w0 [] (RV (.int .i64 1)) := by
  refine spec_enter Try.func27 rfl Try.ntmps27 rfl (Own.refl _) ?_
  simp only [argEnv]
  refine gc_seq ?_
  refine gc_region ?_
  refine gl_op (op_rd rfl (rd_assign rfl) ?_)
  refine gl_nil ?_
  refine gx_then ?_
  refine gc_seq ?_
  refine gc_seq ?_
  refine gc_region ?_
  refine gl_op (op_rd rfl (rd_move rfl) ?_)
  refine gl_op (op_rd rfl (rd_move rfl) ?_)
  refine gl_op (op_rd rfl (rd_move rfl) ?_)
  refine gl_op (op_call rfl (vf := []) (vc := []) rfl rfl Try.call33 (fun w1 ho => Blocks_no p w1 (hp.at ho)) ?_)
  rintro _ _ ⟨rfl, rfl⟩
  refine gl_op (op_call rfl (vf := []) (vc := []) rfl rfl Try.call54 (fun w1 ho => begins_no p w1 (hp.at ho) a ((0 : Nat) : Int)) ?_)
  rintro _ _ ⟨rfl, rfl⟩
  refine gl_op (op_rd rfl (rd_assign rfl) ?_)
  refine gl_nil ?_
  refine gx_then ?_
  refine gc_seq ?_
  refine gc_region ?_
  refine gl_op (op_rd rfl (rd_move rfl) ?_)
  refine gl_op (op_rd rfl (rd_neq rfl rfl) (gk_dec (fun h14 => ?_) (fun h14 => ?_)))
  · skip
    refine gl_nil ?_
    refine gx_then ?_
    refine gc_cond_t rfl ?_
    refine gc_seq ?_
    refine gc_region ?_
    refine gl_op (op_rd rfl (rd_move rfl) ?_)
    refine gl_op (op_rd rfl (rd_assign rfl) ?_)
    refine gl_nil ?_
    refine gx_then ?_
    refine gc_ret ?_
    refine gx_then_ret ?_
    refine gx_ret1 (.inl rfl) Try.results27 rfl [] (by decide) ?_
    exact ⟨rfl, rfl⟩
  · skip
    exfalso; omega

set_option maxRecDepth 100000 in
set_option maxHeartbeats 1000000 in
theorem Read_no (p : Option Addr) (w0 : World) (hp : NoP w0 p) (a : Int) : Sp Try.prog 31 [.pointer p, .int .i64 a] w0 [] (RV (.tuple #[.int .u8 0, .int .i64 1])) := by
  refine spec_enter Try.func31 rfl Try.ntmps31 rfl (Own.refl _) ?_
  simp only [argEnv]
  refine gc_seq ?_
  refine gc_region ?_
  refine gl_op (op_rd rfl (rd_assign rfl) ?_)
  refine gl_op (op_rd rfl (rd_assign rfl) ?_)
  refine gl_nil ?_
  refine gx_then ?_
  refine gc_seq ?_
  refine gc_seq ?_
  refine gc_region ?_
  refine gl_op (op_rd rfl (rd_move rfl) ?_)
  refine gl_op (op_rd rfl (rd_move rfl) ?_)
  refine gl_op (op_rd rfl (rd_move rfl) ?_)
  refine gl_op (op_call rfl (vf := []) (vc := []) rfl rfl Try.call33 (fun w1 ho => Blocks_no p w1 (hp.at ho)) ?_)
  rintro _ _ ⟨rfl, rfl⟩
  refine gl_op (op_rd rfl (by first | exact rd_mulN (b := 256) rfl rfl (by omega) | exact rd_mul rfl rfl (by omega) (by omega)) ?_)
  refine gl_op (op_call rfl (vf := []) (vc := []) rfl rfl Try.call54 (fun w1 ho => begins_no p w1 (hp.at ho) a ((0 * 256 : Nat) : Int)) ?_)
  rintro _ _ ⟨rfl, rfl⟩
  refine gl_op (op_rd rfl (rd_assign rfl) ?_)
  refine gl_nil ?_
  refine gx_then ?_
  refine gc_seq ?_
  refine gc_region ?_
  refine gl_op (op_rd rfl (rd_move rfl) ?_)
  refine gl_op (op_rd rfl (rd_neq rfl rfl) (gk_dec (fun h14 => ?_) (fun h14 => ?_)))
  · skip
    refine gl_nil ?_
    refine gx_then ?_
    refine gc_cond_t rfl ?_
    refine gc_seq ?_
    refine gc_region ?_
    refine gl_op (op_rd rfl (rd_move rfl) ?_)
    refine gl_op (op_rd rfl (rd_assign rfl) ?_)
    refine gl_op (op_rd rfl (rd_assign rfl) ?_)
    refine gl_nil ?_
    refine gx_then ?_
    refine gc_ret ?_
    refine gx_then_ret ?_
    refine gx_ret2 (.inl rfl) Try.results31 rfl rfl [] (by decide) ?_
    exact ⟨rfl, rfl⟩
  · skip
    exfalso; omega

set_option maxRecDepth 100000 in
set_option maxHeartbeats 1000000 in
theorem Bytes_no (p : Option Addr) (w0 : World) (hp : NoP w0 p)  : Sp Try.prog 32 [.pointer p] w0 [] (RV (.tuple #[.slice none 0 0, .int .i64 1])) := by
  refine spec_enter Try.func32 rfl Try.ntmps32 rfl (Own.refl _) ?_
  simp only [argEnv]
  refine gc_seq ?_
  refine gc_region ?_
  refine gl_op (op_rd rfl (rd_assign rfl) ?_)
  refine gl_op (op_rd rfl (rd_assign rfl) ?_)
  refine gl_nil ?_
  refine gx_then ?_
  refine gc_seq ?_
  refine gc_seq ?_
  refine gc_region ?_
  refine gl_op (op_rd rfl (rd_move rfl) ?_)
  refine gl_op (op_call rfl (vf := []) (vc := []) rfl rfl Try.call54 (fun w1 ho => begins_no p w1 (hp.at ho) 0 1) ?_)
  rintro _ _ ⟨rfl, rfl⟩
  refine gl_op (op_rd rfl (rd_assign rfl) ?_)
  refine gl_nil ?_
  refine gx_then ?_
  refine gc_seq ?_
  refine gc_region ?_
  refine gl_op (op_rd rfl (rd_move rfl) ?_)
  refine gl_op (op_rd rfl (rd_neq rfl rfl) (gk_dec (fun h8 => ?_) (fun h8 => ?_)))
  · skip
    refine gl_nil ?_
    refine gx_then ?_
    refine gc_cond_t rfl ?_
    refine gc_seq ?_
    refine gc_region ?_
    refine gl_op (op_rd rfl (rd_move rfl) ?_)
    refine gl_op (op_rd rfl (rd_assign rfl) ?_)
    refine gl_op (op_rd rfl (rd_assign rfl) ?_)
    refine gl_nil ?_
    refine gx_then ?_
    refine gc_ret ?_
    refine gx_then_ret ?_
    refine gx_ret2 (.inl rfl) Try.results32 rfl rfl [] (by decide) ?_
    exact ⟨rfl, rfl⟩
  · skip
    exfalso; omega

set_option maxRecDepth 100000 in
set_option maxHeartbeats 1000000 in
theorem Fuse_no (p : Option Addr) (w0 : World) (hp : NoP w0 p) (n : Int) (a : Option Addr) (k c : Nat) : Sp Try.prog 19 [.pointer p, .int .i64 n, .slice a k c] w0 [] (RV (.int .i64 1)) := by
  refine spec_enter Try.func19 rfl Try.ntmps19 rfl (Own.refl _) ?_
  simp only [argEnv]
  refine gc_seq ?_
  refine gc_region ?_
  refine gl_op (op_rd rfl (rd_assign rfl) ?_)
  refine gl_nil ?_
  refine gx_then ?_
  refine gc_seq ?_
  refine gc_block ?_
  refine gc_seq ?_
  refine gc_region ?_
  refine gl_op (op_rd rfl (rd_move rfl) ?_)
  refine gl_op (op_call rfl (vf := []) (vc := []) rfl rfl Try.call37 (fun w1 ho => none_no p w1 (hp.at ho)) ?_)
  rintro _ _ ⟨rfl, rfl⟩
  refine gl_op (op_rd rfl (rd_assign rfl) ?_)
  refine gl_nil ?_
  refine gx_then ?_
  refine gc_cond_t rfl ?_
  refine gc_seq ?_
  refine gc_region ?_
  refine gl_op (op_rd rfl (rd_assign rfl) ?_)
  refine gl_nil ?_
  refine gx_then ?_
  refine gc_ret ?_
  refine gx_block_ret ?_
  refine gx_then_ret ?_
  refine gx_ret1 (.inl rfl) Try.results19 rfl [] (by decide) ?_
  exact ⟨rfl, rfl⟩

set_option maxRecDepth 100000 in
set_option maxHeartbeats 1000000 in
theorem Restart_no (p : Option Addr) (w0 : World) (hp : NoP w0 p)  : Sp Try.prog 21 [.pointer p] w0 [] (RV (.int .i64 1)) := by
  refine spec_enter Try.func21 rfl Try.ntmps21 rfl (Own.refl _) ?_
  simp only [argEnv]
  refine gc_seq ?_
  refine gc_region ?_
  refine gl_op (op_rd rfl (rd_assign rfl) ?_)
  refine gl_nil ?_
  refine gx_then ?_
  refine gc_seq ?_
  refine gc_seq ?_
  refine gc_region ?_
  refine gl_op (op_rd rfl (rd_move rfl) ?_)
  refine gl_op (op_call rfl (vf := []) (vc := []) rfl rfl Try.call37 (fun w1 ho => none_no p w1 (hp.at ho)) ?_)
  rintro _ _ ⟨rfl, rfl⟩
  refine gl_nil ?_
  refine gx_then ?_
  refine gc_cond_t rfl ?_
  refine gc_seq ?_
  refine gc_region ?_
  refine gl_op (op_rd rfl (rd_assign rfl) ?_)
  refine gl_nil ?_
  refine gx_then ?_
  refine gc_ret ?_
  refine gx_then_ret ?_
  refine gx_ret1 (.inl rfl) Try.results21 rfl [] (by decide) ?_
  exact ⟨rfl, rfl⟩

set_option maxRecDepth 100000 in
set_option maxHeartbeats 1000000 in
theorem Open_no (p : Option Addr) (w0 : World) (hp : NoP w0 p)  : Sp Try.prog 11 [.pointer p] w0 [] (RV (.tuple #[.pointer none, .int .i64 1])) := by
  refine spec_enter Try.func11 rfl Try.ntmps11 rfl (Own.refl _) ?_
  simp only [argEnv]
  refine gc_seq ?_
  refine gc_region ?_
  refine gl_op (op_rd rfl (rd_assign rfl) ?_)
  refine gl_op (op_rd rfl (rd_assign rfl) ?_)
  refine gl_nil ?_
  refine gx_then ?_
  refine gc_seq ?_
  refine gc_block ?_
  refine gc_seq ?_
  refine gc_region ?_
  refine gl_op (op_rd rfl (rd_move rfl) ?_)
  refine gl_op (op_call rfl (vf := []) (vc := []) rfl rfl Try.call37 (fun w1 ho => none_no p w1 (hp.at ho)) ?_)
  rintro _ _ ⟨rfl, rfl⟩
  refine gl_op (op_rd rfl (rd_assign rfl) ?_)
  refine gl_nil ?_
  refine gx_then ?_
  refine gc_cond_t rfl ?_
  refine gc_seq ?_
  refine gc_region ?_
  refine gl_op (op_rd rfl (rd_assign rfl) ?_)
  refine gl_op (op_rd rfl (rd_assign rfl) ?_)
  refine gl_nil ?_
  refine gx_then ?_
  refine gc_ret ?_
  refine gx_block_ret ?_
  refine gx_then_ret ?_
  refine gx_ret2 (.inl rfl) Try.results11 rfl rfl [] (by decide) ?_
  exact ⟨rfl, rfl⟩

set_option maxRecDepth 100000 in
set_option maxHeartbeats 1000000 in
theorem Keys_no (p : Option Addr) (w0 : World) (hp : NoP w0 p)  : Sp Try.prog 24 [.pointer p] w0 [] (RV (.tuple #[.slice none 0 0, .int .i64 1])) := by
  refine spec_enter Try.func24 rfl Try.ntmps24 rfl (Own.refl _) ?_
  simp only [argEnv]
  refine gc_seq ?_
  refine gc_region ?_
  refine gl_op (op_rd rfl (rd_assign rfl) ?_)
  refine gl_op (op_rd rfl (rd_assign rfl) ?_)
  refine gl_nil ?_
  refine gx_then ?_
  refine gc_seq ?_
  refine gc_seq ?_
  refine gc_region ?_
  refine gl_op (op_rd rfl (rd_move rfl) ?_)
  refine gl_op (op_call rfl (vf := []) (vc := []) rfl rfl Try.call41 (fun w1 ho => ready_no p w1 (hp.at ho)) ?_)
  rintro _ _ ⟨rfl, rfl⟩
  refine gl_op (op_rd rfl (rd_assign rfl) ?_)
  refine gl_nil ?_
  refine gx_then ?_
  refine gc_seq ?_
  refine gc_region ?_
  refine gl_op (op_rd rfl (rd_move rfl) ?_)
  refine gl_op (op_rd rfl (rd_neq rfl rfl) (gk_dec (fun h8 => ?_) (fun h8 => ?_)))
  · skip
    refine gl_nil ?_
    refine gx_then ?_
    refine gc_cond_t rfl ?_
    refine gc_seq ?_
    refine gc_region ?_
    refine gl_op (op_rd rfl (rd_move rfl) ?_)
    refine gl_op (op_rd rfl (rd_assign rfl) ?_)
    refine gl_op (op_rd rfl (rd_assign rfl) ?_)
    refine gl_nil ?_
    refine gx_then ?_
    refine gc_ret ?_
    refine gx_then_ret ?_
    refine gx_ret2 (.inl rfl) Try.results24 rfl rfl [] (by decide) ?_
    exact ⟨rfl, rfl⟩
  · skip
    exfalso; omega

set_option maxRecDepth 100000 in
set_option maxHeartbeats 1000000 in
theorem Room_no (p : Option Addr) (w0 : World) (hp : NoP w0 p)  : Sp Try.prog 34 [.pointer p] w0 [] (RV (.tuple #[.int .i64 0, .int .i64 1])) := by
  refine spec_enter Try.func34 rfl Try.ntmps34 rfl (Own.refl _) ?_
  simp only [argEnv]
  refine gc_seq ?_
  refine gc_region ?_
  refine gl_op (op_rd rfl (rd_assign rfl) ?_)
  refine gl_op (op_rd rfl (rd_assign rfl) ?_)
  refine gl_nil ?_
  refine gx_then ?_
  refine gc_seq ?_
  refine gc_seq ?_
  refine gc_region ?_
  refine gl_op (op_rd rfl (rd_move rfl) ?_)
  refine gl_op (op_call rfl (vf := []) (vc := []) rfl rfl Try.call41 (fun w1 ho => ready_no p w1 (hp.at ho)) ?_)
  rintro _ _ ⟨rfl, rfl⟩
  refine gl_op (op_rd rfl (rd_assign rfl) ?_)
  refine gl_nil ?_
  refine gx_then ?_
  refine gc_seq ?_
  refine gc_region ?_
  refine gl_op (op_rd rfl (rd_move rfl) ?_)
  refine gl_op (op_rd rfl (rd_neq rfl rfl) (gk_dec (fun h8 => ?_) (fun h8 => ?_)))
  · skip
    refine gl_nil ?_
    refine gx_then ?_
    refine gc_cond_t rfl ?_
    refine gc_seq ?_
    refine gc_region ?_
    refine gl_op (op_rd rfl (rd_move rfl) ?_)
    refine gl_op (op_rd rfl (rd_assign rfl) ?_)
    refine gl_op (op_rd rfl (rd_assign rfl) ?_)
    refine gl_nil ?_
    refine gx_then ?_
    refine gc_ret ?_
    refine gx_then_ret ?_
    refine gx_ret2 (.inl rfl) Try.results34 rfl rfl [] (by decide) ?_
    exact ⟨rfl, rfl⟩
  · skip
    exfalso; omega

namespace Iv
theorem noP_at {w : World} {l : List HL} {w0 : World} {S : List Nat} {b : Nat} {p : Option Addr} {cs : List Value} {t : TypeId} (ho : Own w0 S w l) (i : Nat) (hi : l[i]? = some (.blk b (.bool false :: cs) t)) (hp : p = none ∨ p = some ⟨b, 0, none⟩) : NoP w p := by
  rcases hp with h | h
  · exact .inl h
  · exact .inr ⟨_, cs, h, ho.blkCells i hi⟩
theorem two_at {b : Nat} {j : Nat} (hj : j < 2) : ∃ p : Option Addr, ([.pointer none, .pointer (some ⟨b, 0, none⟩)] : List Value)[j]? = some (.pointer p) ∧ (p = none ∨ p = some ⟨b, 0, none⟩) := by
  rcases (show j = 0 ∨ j = 1 by omega) with rfl | rfl
  · exact ⟨none, rfl, .inl rfl⟩
  · exact ⟨some ⟨b, 0, none⟩, rfl, .inr rfl⟩
end Iv

set_option maxRecDepth 100000 in
set_option maxHeartbeats 4000000 in
theorem StoreNone_ok (a1 a2 : Int) (vl : Nat) (pv : Option Addr) (cv : Nat) (w0 : World) (hvl : vl ≤ 140737488355328) : Sp Try.prog 7 [.int .i64 a1, .int .i64 a2, .slice pv vl cv] w0 [] (RV (.bool true)) := by
  refine spec_enter Try.func7 rfl Try.ntmps7 rfl (Own.refl _) ?_
  simp only [argEnv]
  refine gc_seq ?_
  refine gc_region ?_
  refine gl_op (op_rd rfl (rd_assign rfl) ?_)
  refine gl_nil ?_
  refine gx_then ?_
  refine gc_seq ?_
  refine gc_seq ?_
  refine gc_region ?_
  refine gl_op (op_rd rfl (rd_move rfl) ?_)
  refine gl_op (op_rd rfl (rd_lenSlice Try.underlying36 rfl) ?_)
  refine gl_op (op_rd rfl (rd_gtr rfl rfl) (gk_dec (fun h28 => ?_) (fun h28 => ?_)))
  · skip
    refine gl_nil ?_
    refine gx_then ?_
    refine gc_cond_t rfl ?_
    refine gc_seq ?_
    refine gc_region ?_
    refine gl_op (op_call rfl (vf := []) (vc := []) rfl rfl Try.call9 (fun w1 ho => shown_ok w1) ?_)
    rintro _ _ ⟨rfl, rfl⟩
    refine gl_op (op_rd rfl (rd_assign rfl) ?_)
    refine gl_nil ?_
    refine gx_then ?_
    refine gc_ret ?_
    refine gx_then_ret ?_
    refine gx_ret1 (.inl rfl) Try.results7 rfl [] (by decide) ?_
    exact ⟨rfl, rfl⟩
  · skip
    refine gl_nil ?_
    refine gx_then ?_
    refine gc_cond_f rfl ?_
    refine gc_skip ?_
    refine gx_then ?_
    refine gc_seq ?_
    refine gc_region ?_
    refine gl_op (op_rd rfl (rd_build rfl (fun _ => bd_72_)) ?_)
    refine gl_op (op_box rfl rfl rfl (fun b31 => ?_))
    refine gl_op (op_rd rfl (rd_build rfl (fun _ => bd_73_0_1 _ _)) ?_)
    refine gl_op (op_alloc ty_73 rfl rfl (fun b7 => ?_))
    first | refine gl_op (op_storeAgg 0 ty_73 rfl rfl rfl rfl rfl rfl (by first | rfl | (simp only [List.set_cons_succ, List.set_cons_zero]; exact rfl)) ?_) | refine gl_op (op_storeAgg 1 ty_73 rfl rfl rfl rfl rfl rfl (by first | rfl | (simp only [List.set_cons_succ, List.set_cons_zero]; exact rfl)) ?_)
    refine gl_nil ?_
    refine gx_then ?_
    refine gc_seq ?_
    refine gc_seq ?_
    refine gc_region ?_
    refine gl_op (op_rd rfl (rd_assign rfl) ?_)
    refine gl_nil ?_
    refine gx_then ?_
    refine gc_block ?_
    refine gc_loopF (ι := Nat) [(0, _), (1, _), (2, _), (7, _)] [_, _] (fun j => j ≤ 2) (fun j Fr0 => ((8, natV j) :: Fr0)) (fun j Fr0 => Fr0) (fun j => 2 - j) 0 (Nat.zero_le _) ⟨rfl, rfl, rfl, rfl, rfl, trivial⟩ ⟨[0, 1], by decide, rfl⟩ ?_
    rintro j hj
    refine gc_seq ?_
    refine gc_seq ?_
    refine gc_region ?_
    refine gl_op (op_rd rfl (rd_move rfl) ?_)
    refine gl_op (op_rd rfl (rd_lss rfl rfl) (gk_dec (fun h34 => ?_) (fun h34 => ?_)))
    · skip
      obtain ⟨p, hpv, hpp⟩ := two_at (b := b31) (show j < 2 by omega)
      refine gl_nil ?_
      refine gx_then ?_
      refine gc_cond_t rfl ?_
      refine gc_skip ?_
      refine gx_then ?_
      refine gc_seq ?_
      refine gc_block ?_
      refine gc_seq ?_
      refine gc_region ?_
      refine gl_op (op_rd rfl (rd_move rfl) ?_)
      refine gl_op (op_rd rfl (rd_indexArr Try.underlying73 ty_25 rfl rfl (by omega) (by omega)) ?_)
      rw [show (⟨b7, 0, none⟩ : Addr).add (j : Int).toNat = ⟨b7, j, none⟩ by rw [Addr.add_lit, Int.toNat_natCast, Nat.zero_add]]
      refine gl_op (op_rd rfl (rd_load Try.underlying25 rfl rfl (ld_blk 0 (off := j) rfl hpv)) ?_)
      refine gl_op (op_rd rfl (rd_assign rfl) ?_)
      refine gl_nil ?_
      refine gx_then ?_
      refine gc_seq ?_
      refine gc_region ?_
      refine gl_op (op_rd rfl (rd_move rfl) ?_)
      refine gl_op (op_rd rfl (rd_move rfl) ?_)
      refine gl_op (op_call rfl (vf := []) (vc := []) rfl rfl Try.call31 (fun w1 ho => Read_no p w1 (noP_at ho 1 rfl hpp) a1) ?_)
      rintro _ _ ⟨rfl, rfl⟩
      refine gl_op (op_rd rfl (rd_move rfl) ?_)
      refine gl_op (op_rd rfl (rd_extract rfl rfl) ?_)
      refine gl_op (op_rd rfl (rd_extract rfl rfl) ?_)
      refine gl_op (op_rd rfl (rd_assign rfl) ?_)
      refine gl_op (op_rd rfl (rd_assign rfl) ?_)
      refine gl_nil ?_
      refine gx_then ?_
      refine gc_seq ?_
      refine gc_region ?_
      refine gl_op (op_rd rfl (rd_move rfl) ?_)
      refine gl_op (op_call rfl (vf := []) (vc := []) rfl rfl Try.call32 (fun w1 ho => Bytes_no p w1 (noP_at ho 1 rfl hpp)) ?_)
      rintro _ _ ⟨rfl, rfl⟩
      refine gl_op (op_rd rfl (rd_move rfl) ?_)
      refine gl_op (op_rd rfl (rd_extract rfl rfl) ?_)
      refine gl_op (op_rd rfl (rd_extract rfl rfl) ?_)
      refine gl_op (op_rd rfl (rd_assign rfl) ?_)
      refine gl_op (op_rd rfl (rd_assign rfl) ?_)
      refine gl_nil ?_
      refine gx_then ?_
      refine gc_seq ?_
      refine gc_region ?_
      refine gl_op (op_rd rfl (rd_move rfl) ?_)
      refine gl_op (op_call rfl (vf := []) (vc := []) rfl rfl Try.call16 (fun w1 ho => Counts_no p w1 (noP_at ho 1 rfl hpp)) ?_)
      rintro _ _ ⟨rfl, rfl⟩
      refine gl_op (op_rd rfl (rd_move rfl) ?_)
      refine gl_op (op_rd rfl (rd_extract rfl rfl) ?_)
      refine gl_op (op_rd rfl (rd_extract rfl rfl) ?_)
      refine gl_op (op_rd rfl (rd_assign rfl) ?_)
      refine gl_op (op_rd rfl (rd_assign rfl) ?_)
      refine gl_nil ?_
      refine gx_then ?_
      refine gc_seq ?_
      refine gc_region ?_
      refine gl_op (op_rd rfl (rd_move rfl) ?_)
      refine gl_op (op_call rfl (vf := []) (vc := []) rfl rfl Try.call11 (fun w1 ho => Open_no p w1 (noP_at ho 1 rfl hpp)) ?_)
      rintro _ _ ⟨rfl, rfl⟩
      refine gl_op (op_rd rfl (rd_move rfl) ?_)
      refine gl_op (op_rd rfl (rd_extract rfl rfl) ?_)
      refine gl_op (op_rd rfl (rd_extract rfl rfl) ?_)
      refine gl_op (op_rd rfl (rd_assign rfl) ?_)
      refine gl_op (op_rd rfl (rd_assign rfl) ?_)
      refine gl_nil ?_
      refine gx_then ?_
      refine gc_seq ?_
      refine gc_region ?_
      refine gl_op (op_rd rfl (rd_move rfl) ?_)
      refine gl_op (op_rd rfl (rd_move rfl) ?_)
      refine gl_op (op_call rfl (vf := []) (vc := []) rfl rfl Try.call25 (fun w1 ho => Program_no p w1 (noP_at ho 1 rfl hpp) a1 1) ?_)
      rintro _ _ ⟨rfl, rfl⟩
      refine gl_op (op_rd rfl (rd_neq rfl rfl) (gk_dec (fun hd1 => ?_) (fun hd1 => ?_)))
      · skip
        exact absurd rfl (by assumption)
      · skip
        refine gl_op (op_rd rfl (rd_move rfl) ?_)
        refine gl_yes rfl rfl (op_rd rfl (rd_move rfl) ?_)
        refine gl_yes rfl rfl (op_rd rfl (rd_move rfl) ?_)
        refine gl_yes rfl rfl (op_call rfl (vf := []) (vc := []) rfl rfl Try.call27 (fun w1 ho => Erase_no p w1 (noP_at ho 1 rfl hpp) a1) ?_)
        rintro _ _ ⟨rfl, rfl⟩
        refine gl_yes rfl rfl (op_rd rfl (rd_neq rfl rfl) (gk_dec (fun hd2 => ?_) (fun hd2 => ?_)))
        · skip
          exact absurd rfl (by assumption)
        · skip
          refine gl_op (op_rd rfl (rd_pick_f rfl rfl) ?_)
          refine gl_op (op_rd rfl (rd_move rfl) ?_)
          refine gl_yes rfl rfl (op_rd rfl (rd_move rfl) ?_)
          refine gl_yes rfl rfl (op_rd rfl (rd_neq rfl rfl) (gk_dec (fun hd3 => ?_) (fun hd3 => ?_)))
          · skip
            exact absurd rfl (by assumption)
          · skip
            refine gl_op (op_rd rfl (rd_pick_f rfl rfl) ?_)
            refine gl_op (op_rd rfl (rd_move rfl) ?_)
            refine gl_yes rfl rfl (op_rd rfl (rd_move rfl) ?_)
            refine gl_yes rfl rfl (op_rd rfl (rd_neq rfl rfl) (gk_dec (fun hd4 => ?_) (fun hd4 => ?_)))
            · skip
              exact absurd rfl (by assumption)
            · skip
              refine gl_op (op_rd rfl (rd_pick_f rfl rfl) ?_)
              refine gl_op (op_rd rfl (rd_move rfl) ?_)
              refine gl_yes rfl rfl (op_rd rfl (rd_move rfl) ?_)
              refine gl_yes rfl rfl (op_rd rfl (rd_move rfl) ?_)
              refine gl_yes rfl rfl (op_rd rfl (rd_move rfl) ?_)
              refine gl_yes rfl rfl (op_call rfl (vf := []) (vc := []) rfl rfl Try.call19 (fun w1 ho => Fuse_no p w1 (noP_at ho 1 rfl hpp) a1 pv vl cv) ?_)
              rintro _ _ ⟨rfl, rfl⟩
              refine gl_yes rfl rfl (op_rd rfl (rd_neq rfl rfl) (gk_dec (fun hd5 => ?_) (fun hd5 => ?_)))
              · skip
                exact absurd rfl (by assumption)
              · skip
                refine gl_op (op_rd rfl (rd_pick_f rfl rfl) ?_)
                refine gl_op (op_rd rfl (rd_move rfl) ?_)
                refine gl_yes rfl rfl (op_rd rfl (rd_move rfl) ?_)
                refine gl_yes rfl rfl (op_call rfl (vf := []) (vc := []) rfl rfl Try.call21 (fun w1 ho => Restart_no p w1 (noP_at ho 1 rfl hpp)) ?_)
                rintro _ _ ⟨rfl, rfl⟩
                refine gl_yes rfl rfl (op_rd rfl (rd_neq rfl rfl) (gk_dec (fun hd6 => ?_) (fun hd6 => ?_)))
                · skip
                  exact absurd rfl (by assumption)
                · skip
                  refine gl_op (op_rd rfl (rd_pick_f rfl rfl) ?_)
                  refine gl_op (op_rd rfl (rd_move rfl) ?_)
                  refine gl_yes rfl rfl (op_rd rfl (rd_move rfl) ?_)
                  refine gl_yes rfl rfl (op_call rfl (vf := []) (vc := []) rfl rfl Try.call20 (fun w1 ho => Down_no p w1 (noP_at ho 1 rfl hpp)) ?_)
                  rintro _ _ ⟨rfl, rfl⟩
                  refine gl_op (op_rd rfl (rd_pick_f rfl rfl) ?_)
                  refine gl_op (op_rd rfl (rd_move rfl) ?_)
                  refine gl_yes rfl rfl (op_rd rfl (rd_move rfl) ?_)
                  refine gl_yes rfl rfl (op_call rfl (vf := []) (vc := []) rfl rfl Try.call33 (fun w1 ho => Blocks_no p w1 (noP_at ho 1 rfl hpp)) ?_)
                  rintro _ _ ⟨rfl, rfl⟩
                  refine gl_yes rfl rfl (op_rd rfl (rd_neq rfl rfl) (gk_dec (fun hd7 => ?_) (fun hd7 => ?_)))
                  · skip
                    exact absurd rfl (by assumption)
                  · skip
                    refine gl_op (op_rd rfl (rd_pick_f rfl rfl) ?_)
                    refine gl_op (op_rd rfl (rd_move rfl) ?_)
                    refine gl_yes rfl rfl (op_rd rfl (rd_move rfl) ?_)
                    refine gl_yes rfl rfl (op_rd rfl (rd_move rfl) ?_)
                    refine gl_yes rfl rfl (op_rd rfl (by first | exact rd_addN rfl rfl (by omega) | exact rd_add rfl rfl (by omega) (by omega)) ?_)
                    refine gl_yes rfl rfl (op_rd rfl (rd_neq rfl rfl) (gk_dec (fun hd8 => ?_) (fun hd8 => ?_)))
                    · skip
                      exact absurd rfl (by assumption)
                    · skip
                      refine gl_op (op_rd rfl (rd_pick_f rfl rfl) ?_)
                      refine gl_op (op_rd rfl (rd_move rfl) ?_)
                      refine gl_yes rfl rfl (op_rd rfl (rd_move rfl) ?_)
                      refine gl_yes rfl rfl (op_rd rfl (rd_neqNilPt eg_29 Try.underlying29 rfl rfl) ?_)
                      refine gl_op (op_rd rfl (rd_pick_f rfl rfl) ?_)
                      refine gl_op (op_rd rfl (rd_move rfl) ?_)
                      refine gl_yes rfl rfl (op_rd rfl (rd_move rfl) ?_)
                      refine gl_yes rfl rfl (op_rd rfl (rd_neq rfl rfl) (gk_dec (fun hd9 => ?_) (fun hd9 => ?_)))
                      · skip
                        exact absurd rfl (by assumption)
                      · skip
                        refine gl_op (op_rd rfl (rd_pick_f rfl rfl) ?_)
                        refine gl_nil ?_
                        refine gx_then ?_
                        refine gc_cond_f rfl ?_
                        refine gc_skip ?_
                        refine gx_block ?_
                        refine gx_then ?_
                        refine gc_region ?_
                        refine gl_op (op_rd rfl (rd_move rfl) ?_)
                        refine gl_op (op_rd rfl (by first | exact rd_addN (b := 1) rfl rfl (by omega) | exact rd_add rfl rfl (by omega) (by omega)) ?_)
                        refine gl_op (op_rd rfl (rd_assign rfl) ?_)
                        refine gl_nil ?_
                        refine gx_then ?_
                        exact gx_cut (j + 1) ⟨by omega, by omega⟩ ⟨rfl, rfl, rfl, rfl, rfl, trivial⟩ ⟨[0, 1], by decide, rfl⟩
    · skip
      refine gl_nil ?_
      refine gx_then ?_
      refine gc_cond_f rfl ?_
      refine gc_exit ?_
      refine gx_then_exit ?_
      refine gx_then_exit ?_
      refine gx_block_exit ?_
      refine gx_then ?_
      refine gc_seq ?_
      refine gc_region ?_
      refine gl_op (op_rd rfl (rd_build rfl (fun _ => bd_81_)) ?_)
      refine gl_op (op_box rfl rfl rfl (fun b115 => ?_))
      refine gl_op (op_rd rfl (rd_build rfl (fun _ => bd_82_0_1 _ _)) ?_)
      refine gl_op (op_alloc ty_82 rfl rfl (fun b18 => ?_))
      first | refine gl_op (op_storeAgg 0 ty_82 rfl rfl rfl rfl rfl rfl (by first | rfl | (simp only [List.set_cons_succ, List.set_cons_zero]; exact rfl)) ?_) | refine gl_op (op_storeAgg 1 ty_82 rfl rfl rfl rfl rfl rfl (by first | rfl | (simp only [List.set_cons_succ, List.set_cons_zero]; exact rfl)) ?_) | refine gl_op (op_storeAgg 2 ty_82 rfl rfl rfl rfl rfl rfl (by first | rfl | (simp only [List.set_cons_succ, List.set_cons_zero]; exact rfl)) ?_) | refine gl_op (op_storeAgg 3 ty_82 rfl rfl rfl rfl rfl rfl (by first | rfl | (simp only [List.set_cons_succ, List.set_cons_zero]; exact rfl)) ?_)
      refine gl_nil ?_
      refine gx_then ?_
      refine gc_seq ?_
      refine gc_seq ?_
      refine gc_region ?_
      refine gl_op (op_rd rfl (rd_assign rfl) ?_)
      refine gl_nil ?_
      refine gx_then ?_
      refine gc_block ?_
      refine gc_loopF (ι := Nat) [(1, _), (2, _), (18, _)] [_, _, _, _] (fun j => j ≤ 2) (fun j Fr0 => ((19, natV j) :: Fr0)) (fun j Fr0 => Fr0) (fun j => 2 - j) 0 (Nat.zero_le _) ⟨rfl, rfl, rfl, rfl, trivial⟩ ⟨[0, 1, 2, 3], by decide, rfl⟩ ?_
      rintro j hj
      refine gc_seq ?_
      refine gc_seq ?_
      refine gc_region ?_
      refine gl_op (op_rd rfl (rd_move rfl) ?_)
      refine gl_op (op_rd rfl (rd_lss rfl rfl) (gk_dec (fun h118 => ?_) (fun h118 => ?_)))
      · skip
        obtain ⟨p, hpv, hpp⟩ := two_at (b := b115) (show j < 2 by omega)
        refine gl_nil ?_
        refine gx_then ?_
        refine gc_cond_t rfl ?_
        refine gc_skip ?_
        refine gx_then ?_
        refine gc_seq ?_
        refine gc_block ?_
        refine gc_seq ?_
        refine gc_region ?_
        refine gl_op (op_rd rfl (rd_move rfl) ?_)
        refine gl_op (op_rd rfl (rd_indexArr Try.underlying82 ty_29 rfl rfl (by omega) (by omega)) ?_)
        rw [show (⟨b18, 0, none⟩ : Addr).add (j : Int).toNat = ⟨b18, j, none⟩ by rw [Addr.add_lit, Int.toNat_natCast, Nat.zero_add]]
        refine gl_op (op_rd rfl (rd_load Try.underlying29 rfl rfl (ld_blk 0 (off := j) rfl hpv)) ?_)
        refine gl_op (op_rd rfl (rd_move rfl) ?_)
        refine gl_op (op_call rfl (vf := []) (vc := []) rfl rfl Try.call12 (fun w1 ho => Get_no p w1 (noP_at ho 1 rfl hpp) a2) ?_)
        rintro _ _ ⟨rfl, rfl⟩
        refine gl_op (op_rd rfl (rd_move rfl) ?_)
        refine gl_op (op_rd rfl (rd_extract rfl rfl) ?_)
        refine gl_op (op_rd rfl (rd_extract rfl rfl) ?_)
        refine gl_op (op_rd rfl (rd_assign rfl) ?_)
        refine gl_op (op_rd rfl (rd_assign rfl) ?_)
        refine gl_nil ?_
        refine gx_then ?_
        refine gc_seq ?_
        refine gc_region ?_
        refine gl_op (op_rd rfl (rd_move rfl) ?_)
        refine gl_op (op_rd rfl (rd_indexArr Try.underlying82 ty_29 rfl rfl (by omega) (by omega)) ?_)
        rw [show (⟨b18, 0, none⟩ : Addr).add (j : Int).toNat = ⟨b18, j, none⟩ by rw [Addr.add_lit, Int.toNat_natCast, Nat.zero_add]]
        refine gl_op (op_rd rfl (rd_load Try.underlying29 rfl rfl (ld_blk 0 (off := j) rfl hpv)) ?_)
        refine gl_op (op_call rfl (vf := []) (vc := []) rfl rfl Try.call24 (fun w1 ho => Keys_no p w1 (noP_at ho 1 rfl hpp)) ?_)
        rintro _ _ ⟨rfl, rfl⟩
        refine gl_op (op_rd rfl (rd_move rfl) ?_)
        refine gl_op (op_rd rfl (rd_extract rfl rfl) ?_)
        refine gl_op (op_rd rfl (rd_extract rfl rfl) ?_)
        refine gl_op (op_rd rfl (rd_assign rfl) ?_)
        refine gl_op (op_rd rfl (rd_assign rfl) ?_)
        refine gl_nil ?_
        refine gx_then ?_
        refine gc_seq ?_
        refine gc_region ?_
        refine gl_op (op_rd rfl (rd_move rfl) ?_)
        refine gl_op (op_rd rfl (rd_indexArr Try.underlying82 ty_29 rfl rfl (by omega) (by omega)) ?_)
        rw [show (⟨b18, 0, none⟩ : Addr).add (j : Int).toNat = ⟨b18, j, none⟩ by rw [Addr.add_lit, Int.toNat_natCast, Nat.zero_add]]
        refine gl_op (op_rd rfl (rd_load Try.underlying29 rfl rfl (ld_blk 0 (off := j) rfl hpv)) ?_)
        refine gl_op (op_call rfl (vf := []) (vc := []) rfl rfl Try.call34 (fun w1 ho => Room_no p w1 (noP_at ho 1 rfl hpp)) ?_)
        rintro _ _ ⟨rfl, rfl⟩
        refine gl_op (op_rd rfl (rd_move rfl) ?_)
        refine gl_op (op_rd rfl (rd_extract rfl rfl) ?_)
        refine gl_op (op_rd rfl (rd_extract rfl rfl) ?_)
        refine gl_op (op_rd rfl (rd_assign rfl) ?_)
        refine gl_op (op_rd rfl (rd_assign rfl) ?_)
        refine gl_nil ?_
        refine gx_then ?_
        refine gc_seq ?_
        refine gc_region ?_
        refine gl_op (op_rd rfl (rd_move rfl) ?_)
        refine gl_op (op_rd rfl (rd_indexArr Try.underlying82 ty_29 rfl rfl (by omega) (by omega)) ?_)
        rw [show (⟨b18, 0, none⟩ : Addr).add (j : Int).toNat = ⟨b18, j, none⟩ by rw [Addr.add_lit, Int.toNat_natCast, Nat.zero_add]]
        refine gl_op (op_rd rfl (rd_load Try.underlying29 rfl rfl (ld_blk 0 (off := j) rfl hpv)) ?_)
        refine gl_op (op_rd rfl (rd_move rfl) ?_)
        refine gl_op (op_rd rfl (rd_move rfl) ?_)
        refine gl_op (op_call rfl (vf := []) (vc := []) rfl rfl Try.call17 (fun w1 ho => Put_no p w1 (noP_at ho 1 rfl hpp) a2 pv vl cv) ?_)
        rintro _ _ ⟨rfl, rfl⟩
        refine gl_op (op_rd rfl (rd_neq rfl rfl) (gk_dec (fun hd10 => ?_) (fun hd10 => ?_)))
        · skip
          exact absurd rfl (by assumption)
        · skip
          refine gl_op (op_rd rfl (rd_move rfl) ?_)
          refine gl_yes rfl rfl (op_rd rfl (rd_move rfl) ?_)
          refine gl_yes rfl rfl (op_rd rfl (rd_lenSlice Try.underlying36 rfl) ?_)
          refine gl_yes rfl rfl (op_rd rfl (rd_move rfl) ?_)
          refine gl_yes rfl rfl (op_rd rfl (rd_lenSlice Try.underlying55 rfl) ?_)
          refine gl_yes rfl rfl (op_rd rfl (by first | exact rd_addN rfl rfl (by omega) | exact rd_add rfl rfl (by omega) (by omega)) ?_)
          refine gl_yes rfl rfl (op_rd rfl (rd_move rfl) ?_)
          refine gl_yes rfl rfl (op_rd rfl (by first | exact rd_addN rfl rfl (by omega) | exact rd_add rfl rfl (by omega) (by omega)) ?_)
          refine gl_yes rfl rfl (op_rd rfl (rd_neq rfl rfl) (gk_dec (fun hd11 => ?_) (fun hd11 => ?_)))
          · skip
            exact absurd rfl (by assumption)
          · skip
            refine gl_op (op_rd rfl (rd_pick_f rfl rfl) ?_)
            refine gl_op (op_rd rfl (rd_move rfl) ?_)
            refine gl_yes rfl rfl (op_rd rfl (rd_move rfl) ?_)
            refine gl_yes rfl rfl (op_rd rfl (rd_neq rfl rfl) (gk_dec (fun hd12 => ?_) (fun hd12 => ?_)))
            · skip
              exact absurd rfl (by assumption)
            · skip
              refine gl_op (op_rd rfl (rd_pick_f rfl rfl) ?_)
              refine gl_op (op_rd rfl (rd_move rfl) ?_)
              refine gl_yes rfl rfl (op_rd rfl (rd_move rfl) ?_)
              refine gl_yes rfl rfl (op_rd rfl (rd_neq rfl rfl) (gk_dec (fun hd13 => ?_) (fun hd13 => ?_)))
              · skip
                exact absurd rfl (by assumption)
              · skip
                refine gl_op (op_rd rfl (rd_pick_f rfl rfl) ?_)
                refine gl_op (op_rd rfl (rd_move rfl) ?_)
                refine gl_yes rfl rfl (op_rd rfl (rd_move rfl) ?_)
                refine gl_yes rfl rfl (op_rd rfl (rd_neq rfl rfl) (gk_dec (fun hd14 => ?_) (fun hd14 => ?_)))
                · skip
                  exact absurd rfl (by assumption)
                · skip
                  refine gl_op (op_rd rfl (rd_pick_f rfl rfl) ?_)
                  refine gl_nil ?_
                  refine gx_then ?_
                  refine gc_cond_f rfl ?_
                  refine gc_skip ?_
                  refine gx_block ?_
                  refine gx_then ?_
                  refine gc_region ?_
                  refine gl_op (op_rd rfl (rd_move rfl) ?_)
                  refine gl_op (op_rd rfl (by first | exact rd_addN (b := 1) rfl rfl (by omega) | exact rd_add rfl rfl (by omega) (by omega)) ?_)
                  refine gl_op (op_rd rfl (rd_assign rfl) ?_)
                  refine gl_nil ?_
                  refine gx_then ?_
                  exact gx_cut (j + 1) ⟨by omega, by omega⟩ ⟨rfl, rfl, rfl, rfl, trivial⟩ ⟨[0, 1, 2, 3], by decide, rfl⟩
      · skip
        refine gl_nil ?_
        refine gx_then ?_
        refine gc_cond_f rfl ?_
        refine gc_exit ?_
        refine gx_then_exit ?_
        refine gx_then_exit ?_
        refine gx_block_exit ?_
        refine gx_then ?_
        refine gc_seq ?_
        refine gc_region ?_
        refine gl_op (op_call rfl (vf := []) (vc := []) rfl rfl Try.call9 (fun w1 ho => shown_ok w1) ?_)
        rintro _ _ ⟨rfl, rfl⟩
        refine gl_op (op_rd rfl (rd_assign rfl) ?_)
        refine gl_nil ?_
        refine gx_then ?_
        refine gc_ret ?_
        refine gx_ret1 (.inl rfl) Try.results7 rfl [] (by decide) ?_
        exact ⟨rfl, rfl⟩

end Go.Proofs.Ythcbcdjkfefnlaa

set_option autoImplicit false
set_option linter.unusedVariables false
namespace Go.Proofs.Ythcbcdjkfefnlaa
open Go.Gv
open Go.RowKit
open Iv
set_option maxRecDepth 100000 in
set_option maxHeartbeats 1000000 in
theorem Down_q (f : Fl) (hf : f.Ok) (bf : Nat) (rb : Option Nat) (cb : Nat) (rp : Option Nat) (cp : Nat) (w0 : World) (hc : Cells w0 ⟨bf, 0, none⟩ (f.cells rb cb rp cp)) : Sp Try.prog 20 [.pointer (some ⟨bf, 0, none⟩)] w0 [] (RV (.bool f.down)) := by
  refine spec_enter Try.func20 rfl Try.ntmps20 rfl (Own.refl _) ?_
  simp only [argEnv]
  refine gc_seq ?_
  refine gc_region ?_
  refine gl_op (op_rd rfl (rd_assign rfl) ?_)
  refine gl_nil ?_
  refine gx_then ?_
  refine gc_seq ?_
  refine gc_region ?_
  refine gl_op (op_rd rfl (rd_move rfl) ?_)
  refine gl_op (op_call rfl (vf := []) (vc := []) rfl rfl Try.call37 (fun w1 ho => none_q f hf bf rb cb rp cp w1 (hc.at ho)) ?_)
  rintro _ _ ⟨rfl, rfl⟩
  refine gl_op (op_rd rfl (rd_not rfl) ?_)
  refine gl_op (op_rd rfl (rd_move rfl) ?_)
  refine gl_yes rfl rfl (op_rd rfl (rd_move rfl) ?_)
  refine gl_yes rfl rfl (op_rd rfl (rd_nilCheck rfl) ?_)
  refine gl_yes rfl rfl (op_rd rfl (rd_fieldAddr rfl (fa_72_4 _)) ?_)
  refine gl_yes rfl rfl (op_rd rfl (rd_load Try.underlying4 rfl rfl (ld_cells (j := 4) hc (by simp) rfl)) ?_)
  refine gl_op (op_rd rfl (rd_pick_t rfl rfl) ?_)
  refine gl_op (op_rd rfl (rd_assign rfl) ?_)
  refine gl_nil ?_
  refine gx_then ?_
  refine gc_ret ?_
  refine gx_ret1 (.inl rfl) Try.results20 rfl [] (by decide) ?_
  exact ⟨rfl, rfl⟩

set_option maxRecDepth 100000 in
set_option maxHeartbeats 1000000 in
theorem same_ok (f : Fl) (hf : f.Ok) (bf : Nat) (rb : Option Nat) (cb : Nat) (rp : Option Nat) (cp : Nat) (br : Nat) (rb2 : Option Nat) (cb2 : Nat) (rp2 : Option Nat) (cp2 : Nat) (S : List Nat) (w0 : World) (hown : Own w0 S w0 (FlH bf rb cb rp cp f ++ RfH br rb2 cb2 rp2 cp2 f)) : Sp Try.prog 30 [.pointer (some ⟨bf, 0, none⟩), .pointer (some ⟨br, 0, none⟩)] w0 S (fun v L => v = .bool true ∧ L = (FlH bf rb cb rp cp f ++ RfH br rb2 cb2 rp2 cp2 f)) := by
  have hbl := hf.hi
  refine spec_enter Try.func30 rfl Try.ntmps30 rfl hown ?_
  simp only [argEnv]
  refine gc_seq ?_
  refine gc_region ?_
  refine gl_op (op_rd rfl (rd_assign rfl) ?_)
  refine gl_nil ?_
  refine gx_then ?_
  refine gc_seq ?_
  refine gc_region ?_
  refine gl_op (op_rd rfl (rd_move rfl) ?_)
  refine gl_op (op_callM [0, 1, 2] [3, 4, 5] rfl (vf := []) (vc := []) rfl rfl Try.call32 (by decide) rfl (fun w how hc => Bytes_ok f hf bf rb cb rp cp _ w hc) ?_)
  rintro _ _ ⟨rx, cx, rfl, rfl⟩
  refine gl_op (op_rd rfl (rd_move rfl) ?_)
  refine gl_op (op_rd rfl (rd_extract rfl rfl) ?_)
  refine gl_op (op_rd rfl (rd_extract rfl rfl) ?_)
  refine gl_op (op_rd rfl (rd_assign rfl) ?_)
  refine gl_op (op_rd rfl (rd_assign rfl) ?_)
  refine gl_nil ?_
  refine gx_then ?_
  refine gc_seq ?_
  refine gc_region ?_
  refine gl_op (op_rd rfl (rd_move rfl) ?_)
  refine gl_op (op_callM [4, 5, 6] [0, 1, 2, 3] rfl (vf := []) (vc := []) rfl rfl Try.call62 (by decide) rfl (fun w how hc => rBytes_ok f hf br rb2 cb2 rp2 cp2 _ w hc) ?_)
  rintro _ _ ⟨ry, cy, rfl, rfl⟩
  refine gl_op (op_rd rfl (rd_move rfl) ?_)
  refine gl_op (op_rd rfl (rd_extract rfl rfl) ?_)
  refine gl_op (op_rd rfl (rd_extract rfl rfl) ?_)
  refine gl_op (op_rd rfl (rd_assign rfl) ?_)
  refine gl_op (op_rd rfl (rd_assign rfl) ?_)
  refine gl_nil ?_
  refine gx_then ?_
  refine gc_seq ?_
  refine gc_region ?_
  refine gl_op (op_rd rfl (rd_move rfl) ?_)
  refine gl_op (op_callM [4, 5, 6] [0, 1, 2, 3, 7] rfl (vf := []) (vc := []) rfl rfl Try.call16 (by decide) rfl (fun w how hc => Counts_ok f hf bf rb cb rp cp _ w hc) ?_)
  rintro _ _ ⟨rfl, rfl⟩
  refine gl_op (op_rd rfl (rd_move rfl) ?_)
  refine gl_op (op_rd rfl (rd_extract rfl rfl) ?_)
  refine gl_op (op_rd rfl (rd_extract rfl rfl) ?_)
  refine gl_op (op_rd rfl (rd_assign rfl) ?_)
  refine gl_op (op_rd rfl (rd_assign rfl) ?_)
  refine gl_nil ?_
  refine gx_then ?_
  refine gc_seq ?_
  refine gc_drawP [0, 1, 2, 3, 4, 5, 6, 7] true 46 rfl ?_
  refine ga_first 0 #[true, false, false, false, false, false, false, false, false, false, false, false, false, false, false, false, false, false, false, false, false, false, false, false, false, false, false, false, false, false, false, false, false, false, false, false, false, false, false, false, false, false, false, false, false, false, false] rfl rfl rfl rfl (by kernel_rfl) rfl ⟨[0, 1, 2, 3, 4, 5, 6, 7], by decide, rfl⟩ (qt_rd (rd_move rfl)) ?_
  refine ga_first 1 #[true, true, false, false, false, false, false, false, false, false, false, false, false, false, false, false, false, false, false, false, false, false, false, false, false, false, false, false, false, false, false, false, false, false, false, false, false, false, false, false, false, false, false, false, false, false, false] rfl rfl rfl rfl (by kernel_rfl) rfl ⟨[0, 1, 2, 3, 4, 5, 6, 7], by decide, rfl⟩ (qt_rd (rd_toStr (zs := (flBytes f).1) Try.underlying36 Try.underlying5 Try.underlying9 rfl (fun w ho => ho.rowSl 7 rfl))) ?_
  refine ga_first 2 #[true, true, true, false, false, false, false, false, false, false, false, false, false, false, false, false, false, false, false, false, false, false, false, false, false, false, false, false, false, false, false, false, false, false, false, false, false, false, false, false, false, false, false, false, false, false, false] rfl rfl rfl rfl (by kernel_rfl) rfl ⟨[0, 1, 2, 3, 4, 5, 6, 7], by decide, rfl⟩ (qt_rd (rd_move rfl)) ?_
  refine ga_first 3 #[true, true, true, true, false, false, false, false, false, false, false, false, false, false, false, false, false, false, false, false, false, false, false, false, false, false, false, false, false, false, false, false, false, false, false, false, false, false, false, false, false, false, false, false, false, false, false] rfl rfl rfl rfl (by kernel_rfl) rfl ⟨[0, 1, 2, 3, 4, 5, 6, 7], by decide, rfl⟩ (qt_rd (rd_toStr (zs := (flBytes f).1) Try.underlying36 Try.underlying5 Try.underlying9 rfl (fun w ho => ho.rowSl 6 rfl))) ?_
  refine ga_first 4 #[true, true, true, true, true, false, false, false, false, false, false, false, false, false, false, false, false, false, false, false, false, false, false, false, false, false, false, false, false, false, false, false, false, false, false, false, false, false, false, false, false, false, false, false, false, false, false] rfl rfl rfl rfl (by kernel_rfl) rfl ⟨[0, 1, 2, 3, 4, 5, 6, 7], by decide, rfl⟩ (qt_rd (rd_eqlStr Try.underlying9 eg_9 rfl rfl)) ?_
  refine gk_bool (fun h30 => ?_) (fun h30 => ?_)
  · skip
    refine ga_first 5 #[true, true, true, true, true, true, false, false, false, false, false, false, false, false, false, false, false, false, false, false, false, false, false, false, false, false, false, false, false, false, false, false, false, false, false, false, false, false, false, false, false, false, false, false, false, false, false] rfl rfl rfl rfl (by kernel_rfl) rfl ⟨[0, 1, 2, 3, 4, 5, 6, 7], by decide, rfl⟩ (qt_rd (rd_move rfl)) ?_
    refine ga_firstY 6 #[true, true, true, true, true, true, true, false, false, false, false, false, false, false, false, false, false, false, false, false, false, false, false, false, false, false, false, false, false, false, false, false, false, false, false, false, false, false, false, false, false, false, false, false, false, false, false] rfl rfl rfl rfl rfl rfl (by kernel_rfl) rfl ⟨[0, 1, 2, 3, 4, 5, 6, 7], by decide, rfl⟩ (qt_rd (rd_move rfl)) ?_
    refine ga_firstY 7 #[true, true, true, true, true, true, true, true, false, false, false, false, false, false, false, false, false, false, false, false, false, false, false, false, false, false, false, false, false, false, false, false, false, false, false, false, false, false, false, false, false, false, false, false, false, false, false] rfl rfl rfl rfl rfl rfl (by kernel_rfl) rfl ⟨[0, 1, 2, 3, 4, 5, 6, 7], by decide, rfl⟩ (qt_rd (rd_move rfl)) ?_
    refine ga_firstY 8 #[true, true, true, true, true, true, true, true, true, false, false, false, false, false, false, false, false, false, false, false, false, false, false, false, false, false, false, false, false, false, false, false, false, false, false, false, false, false, false, false, false, false, false, false, false, false, false] rfl rfl rfl rfl rfl rfl (by kernel_rfl) rfl ⟨[0, 1, 2, 3, 4, 5, 6, 7], by decide, rfl⟩ (qt_rd (rd_eql rfl rfl)) (gk_dec (fun h34 => ?_) (fun h34 => ?_))
    · skip
      refine ga_first 9 #[true, true, true, true, true, true, true, true, true, true, false, false, false, false, false, false, false, false, false, false, false, false, false, false, false, false, false, false, false, false, false, false, false, false, false, false, false, false, false, false, false, false, false, false, false, false, false] rfl rfl rfl rfl (by kernel_rfl) rfl ⟨[0, 1, 2, 3, 4, 5, 6, 7], by decide, rfl⟩ (qt_rd (rd_pick_t rfl rfl)) ?_
      refine ga_first 10 #[true, true, true, true, true, true, true, true, true, true, true, false, false, false, false, false, false, false, false, false, false, false, false, false, false, false, false, false, false, false, false, false, false, false, false, false, false, false, false, false, false, false, false, false, false, false, false] rfl rfl rfl rfl (by kernel_rfl) rfl ⟨[0, 1, 2, 3, 4, 5, 6, 7], by decide, rfl⟩ (qt_rd (rd_move rfl)) ?_
      refine ga_firstY 11 #[true, true, true, true, true, true, true, true, true, true, true, true, false, false, false, false, false, false, false, false, false, false, false, false, false, false, false, false, false, false, false, false, false, false, false, false, false, false, false, false, false, false, false, false, false, false, false] rfl rfl rfl rfl rfl rfl (by kernel_rfl) rfl ⟨[0, 1, 2, 3, 4, 5, 6, 7], by decide, rfl⟩ (qt_rd (rd_move rfl)) ?_
      refine ga_firstY 12 #[true, true, true, true, true, true, true, true, true, true, true, true, true, false, false, false, false, false, false, false, false, false, false, false, false, false, false, false, false, false, false, false, false, false, false, false, false, false, false, false, false, false, false, false, false, false, false] rfl rfl rfl rfl rfl rfl (by kernel_rfl) rfl ⟨[0, 1, 2, 3, 4, 5, 6, 7], by decide, rfl⟩ (qt_call (vf := []) (vc := []) rfl rfl Try.call20 (fun w1 ho => Down_q f hf bf rb cb rp cp w1 (ho.blkCells 0 rfl)) (by rintro _ _ ⟨h, _⟩; exact h)) ?_
      refine ga_firstY 13 #[true, true, true, true, true, true, true, true, true, true, true, true, true, true, false, false, false, false, false, false, false, false, false, false, false, false, false, false, false, false, false, false, false, false, false, false, false, false, false, false, false, false, false, false, false, false, false] rfl rfl rfl rfl rfl rfl (by kernel_rfl) rfl ⟨[0, 1, 2, 3, 4, 5, 6, 7], by decide, rfl⟩ (qt_rd (rd_move rfl)) ?_
      refine ga_firstY 14 #[true, true, true, true, true, true, true, true, true, true, true, true, true, true, true, false, false, false, false, false, false, false, false, false, false, false, false, false, false, false, false, false, false, false, false, false, false, false, false, false, false, false, false, false, false, false, false] rfl rfl rfl rfl rfl rfl (by kernel_rfl) rfl ⟨[0, 1, 2, 3, 4, 5, 6, 7], by decide, rfl⟩ (qt_rd (rd_nilCheck rfl)) ?_
      refine ga_firstY 15 #[true, true, true, true, true, true, true, true, true, true, true, true, true, true, true, true, false, false, false, false, false, false, false, false, false, false, false, false, false, false, false, false, false, false, false, false, false, false, false, false, false, false, false, false, false, false, false] rfl rfl rfl rfl rfl rfl (by kernel_rfl) rfl ⟨[0, 1, 2, 3, 4, 5, 6, 7], by decide, rfl⟩ (qt_rd (rd_fieldAddr rfl (fa_110_3 _))) ?_
      refine ga_firstY 16 #[true, true, true, true, true, true, true, true, true, true, true, true, true, true, true, true, true, false, false, false, false, false, false, false, false, false, false, false, false, false, false, false, false, false, false, false, false, false, false, false, false, false, false, false, false, false, false] rfl rfl rfl rfl rfl rfl (by kernel_rfl) rfl ⟨[0, 1, 2, 3, 4, 5, 6, 7], by decide, rfl⟩ (qt_rd (rd_load Try.underlying4 rfl rfl (by first | exact ld_blk 0 rfl rfl | exact ld_blk 3 rfl rfl | exact ld_rowN 1 rfl (get_bools (by omega)) | exact ld_rowN 2 rfl (get_bools (by omega)) | exact ld_rowN 4 rfl (get_bools (by omega)) | exact ld_rowN 5 rfl (get_bools (by omega)) | exact ld_rowN 6 rfl (get_bools (by omega)) | exact ld_rowN 7 rfl (get_bools (by omega)) | exact ld_slN (by assumption) (get_bools (by omega)) | exact ld_old (by assumption) (by simp) | exact ld_cells (by assumption) (by simp) rfl))) ?_
      refine ga_firstY 17 #[true, true, true, true, true, true, true, true, true, true, true, true, true, true, true, true, true, true, false, false, false, false, false, false, false, false, false, false, false, false, false, false, false, false, false, false, false, false, false, false, false, false, false, false, false, false, false] rfl rfl rfl rfl rfl rfl (by kernel_rfl) rfl ⟨[0, 1, 2, 3, 4, 5, 6, 7], by decide, rfl⟩ (qt_rd (rd_eqlb Try.runUnderlying4 rfl rfl)) ?_
      refine gk_bool (fun h43 => ?_) (fun h43 => ?_)
      · skip
        refine ga_first 18 #[true, true, true, true, true, true, true, true, true, true, true, true, true, true, true, true, true, true, true, false, false, false, false, false, false, false, false, false, false, false, false, false, false, false, false, false, false, false, false, false, false, false, false, false, false, false, false] rfl rfl rfl rfl (by kernel_rfl) rfl ⟨[0, 1, 2, 3, 4, 5, 6, 7], by decide, rfl⟩ (qt_rd (rd_pick_t rfl rfl)) ?_
        refine ga_first 19 #[true, true, true, true, true, true, true, true, true, true, true, true, true, true, true, true, true, true, true, true, false, false, false, false, false, false, false, false, false, false, false, false, false, false, false, false, false, false, false, false, false, false, false, false, false, false, false] rfl rfl rfl rfl (by kernel_rfl) rfl ⟨[0, 1, 2, 3, 4, 5, 6, 7], by decide, rfl⟩ (qt_rd (rd_move rfl)) ?_
        refine ga_firstY 20 #[true, true, true, true, true, true, true, true, true, true, true, true, true, true, true, true, true, true, true, true, true, false, false, false, false, false, false, false, false, false, false, false, false, false, false, false, false, false, false, false, false, false, false, false, false, false, false] rfl rfl rfl rfl rfl rfl (by kernel_rfl) rfl ⟨[0, 1, 2, 3, 4, 5, 6, 7], by decide, rfl⟩ (qt_rd (rd_move rfl)) ?_
        refine ga_firstY 21 #[true, true, true, true, true, true, true, true, true, true, true, true, true, true, true, true, true, true, true, true, true, true, false, false, false, false, false, false, false, false, false, false, false, false, false, false, false, false, false, false, false, false, false, false, false, false, false] rfl rfl rfl rfl rfl rfl (by kernel_rfl) rfl ⟨[0, 1, 2, 3, 4, 5, 6, 7], by decide, rfl⟩ (qt_call (vf := []) (vc := []) rfl rfl Try.call33 (fun w1 ho => Blocks_q f hf bf rb cb rp cp w1 (ho.blkCells 0 rfl)) (by rintro _ _ ⟨h, _⟩; exact h)) ?_
        refine ga_firstY 22 #[true, true, true, true, true, true, true, true, true, true, true, true, true, true, true, true, true, true, true, true, true, true, true, false, false, false, false, false, false, false, false, false, false, false, false, false, false, false, false, false, false, false, false, false, false, false, false] rfl rfl rfl rfl rfl rfl (by kernel_rfl) rfl ⟨[0, 1, 2, 3, 4, 5, 6, 7], by decide, rfl⟩ (qt_rd (rd_move rfl)) ?_
        refine ga_firstY 23 #[true, true, true, true, true, true, true, true, true, true, true, true, true, true, true, true, true, true, true, true, true, true, true, true, false, false, false, false, false, false, false, false, false, false, false, false, false, false, false, false, false, false, false, false, false, false, false] rfl rfl rfl rfl rfl rfl (by kernel_rfl) rfl ⟨[0, 1, 2, 3, 4, 5, 6, 7], by decide, rfl⟩ (qt_rd (rd_nilCheck rfl)) ?_
        refine ga_firstY 24 #[true, true, true, true, true, true, true, true, true, true, true, true, true, true, true, true, true, true, true, true, true, true, true, true, true, false, false, false, false, false, false, false, false, false, false, false, false, false, false, false, false, false, false, false, false, false, false] rfl rfl rfl rfl rfl rfl (by kernel_rfl) rfl ⟨[0, 1, 2, 3, 4, 5, 6, 7], by decide, rfl⟩ (qt_rd (rd_fieldAddr rfl (fa_110_0 _))) ?_
        refine ga_firstY 25 #[true, true, true, true, true, true, true, true, true, true, true, true, true, true, true, true, true, true, true, true, true, true, true, true, true, true, false, false, false, false, false, false, false, false, false, false, false, false, false, false, false, false, false, false, false, false, false] rfl rfl rfl rfl rfl rfl (by kernel_rfl) rfl ⟨[0, 1, 2, 3, 4, 5, 6, 7], by decide, rfl⟩ (qt_rd (rd_load Try.underlying36 rfl rfl (by first | exact ld_blk 0 rfl rfl | exact ld_blk 3 rfl rfl | exact ld_old (by assumption) (by simp) | exact ld_cells (by assumption) (by simp) rfl))) ?_
        refine ga_firstY 26 #[true, true, true, true, true, true, true, true, true, true, true, true, true, true, true, true, true, true, true, true, true, true, true, true, true, true, true, false, false, false, false, false, false, false, false, false, false, false, false, false, false, false, false, false, false, false, false] rfl rfl rfl rfl rfl rfl (by kernel_rfl) rfl ⟨[0, 1, 2, 3, 4, 5, 6, 7], by decide, rfl⟩ (qt_rd (rd_lenSlice Try.underlying36 rfl)) ?_
        refine ga_firstY 27 #[true, true, true, true, true, true, true, true, true, true, true, true, true, true, true, true, true, true, true, true, true, true, true, true, true, true, true, true, false, false, false, false, false, false, false, false, false, false, false, false, false, false, false, false, false, false, false] rfl rfl rfl rfl rfl rfl (by kernel_rfl) rfl ⟨[0, 1, 2, 3, 4, 5, 6, 7], by decide, rfl⟩ (qt_rd (by first | exact rd_quoN (b := 256) rfl rfl (by omega) (by omega) | exact rd_quo rfl rfl (by omega) (by omega) (by omega))) ?_
        refine ga_firstY 28 #[true, true, true, true, true, true, true, true, true, true, true, true, true, true, true, true, true, true, true, true, true, true, true, true, true, true, true, true, true, false, false, false, false, false, false, false, false, false, false, false, false, false, false, false, false, false, false] rfl rfl rfl rfl rfl rfl (by kernel_rfl) rfl ⟨[0, 1, 2, 3, 4, 5, 6, 7], by decide, rfl⟩ (qt_rd (rd_eql rfl rfl)) (gk_dec (fun h54 => ?_) (fun h54 => ?_))
        · skip
          refine ga_first 29 #[true, true, true, true, true, true, true, true, true, true, true, true, true, true, true, true, true, true, true, true, true, true, true, true, true, true, true, true, true, true, false, false, false, false, false, false, false, false, false, false, false, false, false, false, false, false, false] rfl rfl rfl rfl (by kernel_rfl) rfl ⟨[0, 1, 2, 3, 4, 5, 6, 7], by decide, rfl⟩ (qt_rd (rd_pick_t rfl rfl)) ?_
          refine ga_first 30 #[true, true, true, true, true, true, true, true, true, true, true, true, true, true, true, true, true, true, true, true, true, true, true, true, true, true, true, true, true, true, true, false, false, false, false, false, false, false, false, false, false, false, false, false, false, false, false] rfl rfl rfl rfl (by kernel_rfl) rfl ⟨[0, 1, 2, 3, 4, 5, 6, 7], by decide, rfl⟩ (qt_rd (rd_move rfl)) ?_
          refine ga_firstY 31 #[true, true, true, true, true, true, true, true, true, true, true, true, true, true, true, true, true, true, true, true, true, true, true, true, true, true, true, true, true, true, true, true, false, false, false, false, false, false, false, false, false, false, false, false, false, false, false] rfl rfl rfl rfl rfl rfl (by kernel_rfl) rfl ⟨[0, 1, 2, 3, 4, 5, 6, 7], by decide, rfl⟩ (qt_rd (rd_move rfl)) ?_
          refine ga_firstY 32 #[true, true, true, true, true, true, true, true, true, true, true, true, true, true, true, true, true, true, true, true, true, true, true, true, true, true, true, true, true, true, true, true, true, false, false, false, false, false, false, false, false, false, false, false, false, false, false] rfl rfl rfl rfl rfl rfl (by kernel_rfl) rfl ⟨[0, 1, 2, 3, 4, 5, 6, 7], by decide, rfl⟩ (qt_rd (rd_move rfl)) ?_
          refine ga_firstY 33 #[true, true, true, true, true, true, true, true, true, true, true, true, true, true, true, true, true, true, true, true, true, true, true, true, true, true, true, true, true, true, true, true, true, true, false, false, false, false, false, false, false, false, false, false, false, false, false] rfl rfl rfl rfl rfl rfl (by kernel_rfl) rfl ⟨[0, 1, 2, 3, 4, 5, 6, 7], by decide, rfl⟩ (qt_rd (rd_nilCheck rfl)) ?_
          refine ga_firstY 34 #[true, true, true, true, true, true, true, true, true, true, true, true, true, true, true, true, true, true, true, true, true, true, true, true, true, true, true, true, true, true, true, true, true, true, true, false, false, false, false, false, false, false, false, false, false, false, false] rfl rfl rfl rfl rfl rfl (by kernel_rfl) rfl ⟨[0, 1, 2, 3, 4, 5, 6, 7], by decide, rfl⟩ (qt_rd (rd_fieldAddr rfl (fa_110_4 _))) ?_
          refine ga_firstY 35 #[true, true, true, true, true, true, true, true, true, true, true, true, true, true, true, true, true, true, true, true, true, true, true, true, true, true, true, true, true, true, true, true, true, true, true, true, false, false, false, false, false, false, false, false, false, false, false] rfl rfl rfl rfl rfl rfl (by kernel_rfl) rfl ⟨[0, 1, 2, 3, 4, 5, 6, 7], by decide, rfl⟩ (qt_rd (rd_load Try.underlying3 rfl rfl (by first | exact ld_blk 0 rfl rfl | exact ld_blk 3 rfl rfl | exact ld_rowN 1 rfl (get_nats (by omega)) | exact ld_rowN 2 rfl (get_nats (by omega)) | exact ld_rowN 4 rfl (get_nats (by omega)) | exact ld_rowN 5 rfl (get_nats (by omega)) | exact ld_rowN 6 rfl (get_nats (by omega)) | exact ld_rowN 7 rfl (get_nats (by omega)) | exact ld_slN (by assumption) (get_nats (by omega)) | exact ld_rowN 1 rfl (get_ints (by omega)) | exact ld_rowN 2 rfl (get_ints (by omega)) | exact ld_rowN 4 rfl (get_ints (by omega)) | exact ld_rowN 5 rfl (get_ints (by omega)) | exact ld_rowN 6 rfl (get_ints (by omega)) | exact ld_rowN 7 rfl (get_ints (by omega)) | exact ld_slN (by assumption) (get_ints (by omega)) | exact ld_old (by assumption) (by simp) | exact ld_cells (by assumption) (by simp) rfl))) ?_
          refine ga_firstY 36 #[true, true, true, true, true, true, true, true, true, true, true, true, true, true, true, true, true, true, true, true, true, true, true, true, true, true, true, true, true, true, true, true, true, true, true, true, true, false, false, false, false, false, false, false, false, false, false] rfl rfl rfl rfl rfl rfl (by kernel_rfl) rfl ⟨[0, 1, 2, 3, 4, 5, 6, 7], by decide, rfl⟩ (qt_rd (rd_eql rfl rfl)) (gk_dec (fun h62 => ?_) (fun h62 => ?_))
          · skip
            refine ga_first 37 #[true, true, true, true, true, true, true, true, true, true, true, true, true, true, true, true, true, true, true, true, true, true, true, true, true, true, true, true, true, true, true, true, true, true, true, true, true, true, false, false, false, false, false, false, false, false, false] rfl rfl rfl rfl (by kernel_rfl) rfl ⟨[0, 1, 2, 3, 4, 5, 6, 7], by decide, rfl⟩ (qt_rd (rd_pick_t rfl rfl)) ?_
            refine ga_first 38 #[true, true, true, true, true, true, true, true, true, true, true, true, true, true, true, true, true, true, true, true, true, true, true, true, true, true, true, true, true, true, true, true, true, true, true, true, true, true, true, false, false, false, false, false, false, false, false] rfl rfl rfl rfl (by kernel_rfl) rfl ⟨[0, 1, 2, 3, 4, 5, 6, 7], by decide, rfl⟩ (qt_rd (rd_move rfl)) ?_
            refine ga_firstY 39 #[true, true, true, true, true, true, true, true, true, true, true, true, true, true, true, true, true, true, true, true, true, true, true, true, true, true, true, true, true, true, true, true, true, true, true, true, true, true, true, true, false, false, false, false, false, false, false] rfl rfl rfl rfl rfl rfl (by kernel_rfl) rfl ⟨[0, 1, 2, 3, 4, 5, 6, 7], by decide, rfl⟩ (qt_rd (rd_move rfl)) ?_
            refine ga_firstY 40 #[true, true, true, true, true, true, true, true, true, true, true, true, true, true, true, true, true, true, true, true, true, true, true, true, true, true, true, true, true, true, true, true, true, true, true, true, true, true, true, true, true, false, false, false, false, false, false] rfl rfl rfl rfl rfl rfl (by kernel_rfl) rfl ⟨[0, 1, 2, 3, 4, 5, 6, 7], by decide, rfl⟩ (qt_rd (rd_move rfl)) ?_
            refine ga_firstY 41 #[true, true, true, true, true, true, true, true, true, true, true, true, true, true, true, true, true, true, true, true, true, true, true, true, true, true, true, true, true, true, true, true, true, true, true, true, true, true, true, true, true, true, false, false, false, false, false] rfl rfl rfl rfl rfl rfl (by kernel_rfl) rfl ⟨[0, 1, 2, 3, 4, 5, 6, 7], by decide, rfl⟩ (qt_rd (rd_nilCheck rfl)) ?_
            refine ga_firstY 42 #[true, true, true, true, true, true, true, true, true, true, true, true, true, true, true, true, true, true, true, true, true, true, true, true, true, true, true, true, true, true, true, true, true, true, true, true, true, true, true, true, true, true, true, false, false, false, false] rfl rfl rfl rfl rfl rfl (by kernel_rfl) rfl ⟨[0, 1, 2, 3, 4, 5, 6, 7], by decide, rfl⟩ (qt_rd (rd_fieldAddr rfl (fa_110_5 _))) ?_
            refine ga_firstY 43 #[true, true, true, true, true, true, true, true, true, true, true, true, true, true, true, true, true, true, true, true, true, true, true, true, true, true, true, true, true, true, true, true, true, true, true, true, true, true, true, true, true, true, true, true, false, false, false] rfl rfl rfl rfl rfl rfl (by kernel_rfl) rfl ⟨[0, 1, 2, 3, 4, 5, 6, 7], by decide, rfl⟩ (qt_rd (rd_load Try.underlying3 rfl rfl (by first | exact ld_blk 0 rfl rfl | exact ld_blk 3 rfl rfl | exact ld_rowN 1 rfl (get_nats (by omega)) | exact ld_rowN 2 rfl (get_nats (by omega)) | exact ld_rowN 4 rfl (get_nats (by omega)) | exact ld_rowN 5 rfl (get_nats (by omega)) | exact ld_rowN 6 rfl (get_nats (by omega)) | exact ld_rowN 7 rfl (get_nats (by omega)) | exact ld_slN (by assumption) (get_nats (by omega)) | exact ld_rowN 1 rfl (get_ints (by omega)) | exact ld_rowN 2 rfl (get_ints (by omega)) | exact ld_rowN 4 rfl (get_ints (by omega)) | exact ld_rowN 5 rfl (get_ints (by omega)) | exact ld_rowN 6 rfl (get_ints (by omega)) | exact ld_rowN 7 rfl (get_ints (by omega)) | exact ld_slN (by assumption) (get_ints (by omega)) | exact ld_old (by assumption) (by simp) | exact ld_cells (by assumption) (by simp) rfl))) ?_
            refine ga_firstY 44 #[true, true, true, true, true, true, true, true, true, true, true, true, true, true, true, true, true, true, true, true, true, true, true, true, true, true, true, true, true, true, true, true, true, true, true, true, true, true, true, true, true, true, true, true, true, false, false] rfl rfl rfl rfl rfl rfl (by kernel_rfl) rfl ⟨[0, 1, 2, 3, 4, 5, 6, 7], by decide, rfl⟩ (qt_rd (rd_eql rfl rfl)) (gk_dec (fun h70 => ?_) (fun h70 => ?_))
            · skip
              refine ga_first 45 #[true, true, true, true, true, true, true, true, true, true, true, true, true, true, true, true, true, true, true, true, true, true, true, true, true, true, true, true, true, true, true, true, true, true, true, true, true, true, true, true, true, true, true, true, true, true, false] rfl rfl rfl rfl (by kernel_rfl) rfl ⟨[0, 1, 2, 3, 4, 5, 6, 7], by decide, rfl⟩ (qt_rd (rd_pick_t rfl rfl)) ?_
              refine ga_first 46 #[true, true, true, true, true, true, true, true, true, true, true, true, true, true, true, true, true, true, true, true, true, true, true, true, true, true, true, true, true, true, true, true, true, true, true, true, true, true, true, true, true, true, true, true, true, true, true] rfl rfl rfl rfl (by kernel_rfl) rfl ⟨[0, 1, 2, 3, 4, 5, 6, 7], by decide, rfl⟩ (qt_rd (rd_assign rfl)) ?_
              refine ga_end (by kernel_rfl) (.inr ⟨[0, 1, 2, 3, 4, 5, 6, 7], by decide, rfl⟩) ?_
              refine gx_then ?_
              refine gc_ret ?_
              refine gx_ret1 (.inl rfl) Try.results30 rfl [0, 1, 2, 3, 4, 5] (by decide) ?_
              exact ⟨rfl, rfl⟩
            · skip
              exact absurd rfl h70
          · skip
            exact absurd rfl h62
        · skip
          exact absurd rfl h54
      · skip
        simp at h43
    · skip
      exact absurd rfl h34
  · skip
    simp at h30

end Go.Proofs.Ythcbcdjkfefnlaa

set_option autoImplicit false
set_option linter.unusedVariables false
namespace Go.Proofs.Ythcbcdjkfefnlaa
open Go.Gv
open Go.RowKit
open Iv
namespace Iv
structure FAct where
  wh : Nat
  at_ : Int
  u : Nat
  n : Int
  a : Option Addr
  c : Nat
  ps : List Nat
  deriving Inhabited
def FAct.cells (x : FAct) : List Value := [.int .u8 (x.wh : Int), .int .i64 x.at_, .int .u8 (x.u : Int), .int .i64 x.n, .slice x.a x.ps.length x.c]
abbrev FAct.val (x : FAct) : Value := .agg #[.int .u8 (x.wh : Int), .int .i64 x.at_, .int .u8 (x.u : Int), .int .i64 x.n, .slice x.a x.ps.length x.c]
structure FAct.In (x : FAct) (w : World) (S : List Nat) : Prop where
  wh : x.wh < 256
  u : x.u < 256
  n : x.n ≤ 9223372036854775807
  ps : ∀ z ∈ x.ps, z < 256
  sl : OldSl w S x.a x.ps.length 1 (x.ps.map u8V)
  len : x.ps.length ≤ 140737488355328
theorem new_okP {zs : List Nat} (hg : goodLen zs.length) (hz : ∀ z ∈ zs, z < 256) : (flNew zs).Ok := by
  obtain ⟨h1, h2, h3⟩ := hg
  exact ⟨hz, (fun z h => by cases h), h1, h2, h3, Nat.zero_le _, (by decide : (0 : Nat) < 4611686018427387904), (by decide : (0 : Nat) < 4611686018427387904), (by decide : (0 : Nat) < 4611686018427387904), (by decide : (-1 : Int) ≤ -1), (by decide : (-1 : Int) ≤ 9223372036854775807)⟩
/-- what a call leaves: both flashes are the same again -/
def PlayR (bf : Nat) (rb : Option Nat) (cb : Nat) (br : Nat) (rb2 : Option Nat) (cb2 : Nat) (f : Fl) (v : Value) (L : List HL) : Prop :=
  v = .bool true ∧ ∃ (f' : Fl) (rp : Option Nat) (cp : Nat) (rp2 : Option Nat) (cp2 : Nat), f'.Ok ∧ f'.pr ≤ f.pr + 1 ∧ f'.er ≤ f.er + 1 ∧ L = FlH bf rb cb rp cp f' ++ RfH br rb2 cb2 rp2 cp2 f'
theorem prog_er (f : Fl) (at_ : Int) (u : Nat) : (flProg f at_ u).1.er = f.er := by
  unfold flProg
  split
  · rfl
  · obtain ⟨_, _, s3⟩ := flFails_st { f with pr := f.pr + 1 }
    unfold flProg1
    split <;> exact s3
theorem fuse_cnt (f : Fl) (n : Int) (ps : List Nat) : (flFuse f n ps).1.pr = f.pr ∧ (flFuse f n ps).1.er = f.er := by
  unfold flFuse
  split
  · exact ⟨rfl, rfl⟩
  · split <;> exact ⟨rfl, rfl⟩
end Iv

theorem slOut {w0 w : World} {S : List Nat} {l : List HL} (ho : Own w0 S w l) {a : Option Addr} {m : Nat} {cs : List Value} (h : OldSl w0 S a m 1 cs) (ic : List Nat) : OldSl w ((pick ic l).filterMap HL.block) a m 1 cs := by
  refine ⟨h.len, h.isSome, (h.at ho).cells, fun hm hb => ?_⟩
  obtain ⟨y, hy, hyb⟩ := List.mem_filterMap.1 hb
  rcases ho.place y (pick_mem hy) _ hyb with h1 | h1
  · exact h.out hm h1
  · have := h.lt hm (by decide); omega

set_option maxRecDepth 100000 in
set_option maxHeartbeats 4000000 in
theorem play_ok (f : Fl) (hf : f.Ok) (bf : Nat) (rb : Option Nat) (cb : Nat) (rp : Option Nat) (cp : Nat) (br : Nat) (rb2 : Option Nat) (cb2 : Nat) (rp2 : Option Nat) (cp2 : Nat) (S : List Nat) (w0 : World) (hown : Own w0 S w0 (FlH bf rb cb rp cp f ++ RfH br rb2 cb2 rp2 cp2 f)) (x : FAct) (hin : x.In w0 S) (hpr : f.pr + 1 < 4611686018427387904) (her : f.er + 1 < 4611686018427387904) : Sp Try.prog 29 [.pointer (some ⟨bf, 0, none⟩), .pointer (some ⟨br, 0, none⟩), x.val] w0 S (PlayR bf rb cb br rb2 cb2 f) := by
  have hbl := hf.hi
  have hpl := hin.len
  have hwh := hin.wh
  refine spec_enter Try.func29 rfl Try.ntmps29 rfl hown ?_
  simp only [argEnv]
  refine gc_seq ?_
  refine gc_region ?_
  refine gl_op (op_box rfl rfl rfl (fun b5 => ?_))
  refine gl_op (op_rd rfl (rd_assign rfl) ?_)
  refine gl_nil ?_
  refine gx_then ?_
  refine gc_seq ?_
  refine gc_seq ?_
  refine gc_region ?_
  refine gl_op (op_rd rfl (rd_fieldAddr rfl (fa_64_0 _)) ?_)
  refine gl_op (op_rd rfl (rd_load Try.underlying5 rfl rfl (by first | exact ld_blk 0 rfl rfl | exact ld_blk 1 rfl rfl | exact ld_blk 4 rfl rfl | exact ld_rowN 2 rfl (get_u8 (by omega)) | exact ld_rowN 3 rfl (get_u8 (by omega)) | exact ld_rowN 5 rfl (get_u8 (by omega)) | exact ld_rowN 6 rfl (get_u8 (by omega)) | exact ld_slN (by assumption) (get_u8 (by omega)) | exact ld_old (by assumption) (by simp) | exact ld_cells (by assumption) (by simp) rfl)) ?_)
  refine gl_op (op_rd rfl (rd_remN (a := x.wh) (b := 10) rfl rfl (by omega)) ?_)
  refine gl_nil ?_
  refine gx_then ?_
  refine gc_block ?_
  refine gc_seq ?_
  refine gc_region ?_
  refine gl_op (op_rd rfl (rd_eql rfl rfl) (gk_dec (fun h22 => ?_) (fun h22 => ?_)))
  · skip
    refine gl_op (op_rd rfl (rd_assign rfl) ?_)
    refine gl_nil ?_
    refine gx_then ?_
    refine gc_cond_t rfl ?_
    refine gc_seq ?_
    refine gc_drawP [0] true 9 rfl ?_
    refine ga_first 0 #[true, false, false, false, false, false, false, false, false, false] rfl rfl rfl rfl (by kernel_rfl) rfl ⟨[0], by decide, rfl⟩ (qt_rd (rd_move rfl)) ?_
    refine ga_first 1 #[true, true, false, false, false, false, false, false, false, false] rfl rfl rfl rfl (by kernel_rfl) rfl ⟨[0], by decide, rfl⟩ (qt_rd (rd_fieldAddr rfl (fa_64_1 _))) ?_
    refine ga_first 2 #[true, true, true, false, false, false, false, false, false, false] rfl rfl rfl rfl (by kernel_rfl) rfl ⟨[0], by decide, rfl⟩ (qt_rd (rd_load Try.underlying3 rfl rfl (by first | exact ld_blk 0 rfl rfl | exact ld_slN (by assumption) (get_nats (by omega)) | exact ld_slN (by assumption) (get_ints (by omega)) | exact ld_old (by assumption) (by simp) | exact ld_cells (by assumption) (by simp) rfl))) ?_
    refine ga_first 4 #[true, true, true, false, true, false, false, false, false, false] rfl rfl rfl rfl (by kernel_rfl) rfl ⟨[0], by decide, rfl⟩ (qt_rd (rd_move rfl)) ?_
    refine ga_first 5 #[true, true, true, false, true, true, false, false, false, false] rfl rfl rfl rfl (by kernel_rfl) rfl ⟨[0], by decide, rfl⟩ (qt_rd (rd_fieldAddr rfl (fa_64_1 _))) ?_
    refine ga_first 6 #[true, true, true, false, true, true, true, false, false, false] rfl rfl rfl rfl (by kernel_rfl) rfl ⟨[0], by decide, rfl⟩ (qt_rd (rd_load Try.underlying3 rfl rfl (by first | exact ld_blk 0 rfl rfl | exact ld_slN (by assumption) (get_nats (by omega)) | exact ld_slN (by assumption) (get_ints (by omega)) | exact ld_old (by assumption) (by simp) | exact ld_cells (by assumption) (by simp) rfl))) ?_
    refine ga_only 3 #[true, true, true, true, true, true, true, false, false, false] rfl rfl (by kernel_rfl) rfl (.inr ⟨[0], by decide, rfl⟩) (op_callM [1, 2, 3] [0, 4, 5, 6] rfl (vf := []) (vc := []) rfl rfl Try.call27 (by decide) rfl (fun w how hc => Erase_ok f hf bf rb cb rp cp _ w hc x.at_) ?_)
    rintro _ _ ⟨rfl, rfl⟩
    refine ga_only 7 #[true, true, true, true, true, true, true, true, false, false] rfl rfl (by kernel_rfl) rfl (.inr ⟨[3], by decide, rfl⟩) (op_callM [4, 5, 6] [0, 1, 2, 3] rfl (vf := []) (vc := []) rfl rfl Try.call56 (by decide) rfl (fun w how hc => rErase_ok f hf br rb2 cb2 rp2 cp2 _ w hc x.at_) ?_)
    rintro _ _ ⟨rfl, rfl⟩
    refine ga_first 8 #[true, true, true, true, true, true, true, true, true, false] rfl rfl rfl rfl (by kernel_rfl) rfl ⟨[6], by decide, rfl⟩ (qt_rd (rd_eql rfl rfl)) (gk_dec (fun h31 => ?_) (fun h31 => ?_))
    · skip
      refine ga_first 9 #[true, true, true, true, true, true, true, true, true, true] rfl rfl rfl rfl (by kernel_rfl) rfl ⟨[6], by decide, rfl⟩ (qt_rd (rd_assign rfl)) ?_
      refine ga_end (by kernel_rfl) (.inr ⟨[6], by decide, rfl⟩) ?_
      refine gx_then ?_
      refine gc_ret ?_
      refine gx_block_ret ?_
      refine gx_then_ret ?_
      refine gx_ret1 (.inl rfl) Try.results29 rfl [3, 4, 5, 0, 1, 2] (by decide) ?_
      obtain ⟨e1, e2, e3, e4, e5⟩ := erase_okP hf her x.at_
      exact ⟨rfl, (flErase f x.at_).1, rp, cp, rp2, cp2, e1, (by omega), e2, rfl⟩
    · skip
      exact absurd rfl h31
  · skip
    refine gl_op (op_rd rfl (rd_assign rfl) ?_)
    refine gl_nil ?_
    refine gx_then ?_
    refine gc_cond_f rfl ?_
    refine gc_seq ?_
    refine gc_region ?_
    refine gl_op (op_rd rfl (rd_eql rfl rfl) (gk_dec (fun h33 => ?_) (fun h33 => ?_)))
    · skip
      refine gl_op (op_rd rfl (rd_assign rfl) ?_)
      refine gl_nil ?_
      refine gx_then ?_
      refine gc_cond_t rfl ?_
      refine gc_seq ?_
      refine gc_region ?_
      refine gl_op (op_rd rfl (rd_move rfl) ?_)
      refine gl_op (op_rd rfl (rd_fieldAddr rfl (fa_64_1 _)) ?_)
      refine gl_op (op_rd rfl (rd_load Try.underlying3 rfl rfl (by first | exact ld_blk 0 rfl rfl | exact ld_blk 1 rfl rfl | exact ld_blk 4 rfl rfl | exact ld_rowN 2 rfl (get_nats (by omega)) | exact ld_rowN 3 rfl (get_nats (by omega)) | exact ld_rowN 5 rfl (get_nats (by omega)) | exact ld_rowN 6 rfl (get_nats (by omega)) | exact ld_slN (by assumption) (get_nats (by omega)) | exact ld_rowN 2 rfl (get_ints (by omega)) | exact ld_rowN 3 rfl (get_ints (by omega)) | exact ld_rowN 5 rfl (get_ints (by omega)) | exact ld_rowN 6 rfl (get_ints (by omega)) | exact ld_slN (by assumption) (get_ints (by omega)) | exact ld_old (by assumption) (by simp) | exact ld_cells (by assumption) (by simp) rfl)) ?_)
      refine gl_op (op_callM [1, 2, 3] [0, 4, 5, 6] rfl (vf := []) (vc := []) rfl rfl Try.call31 (by decide) rfl (fun w how hc => Read_ok f hf bf rb cb rp cp _ w hc x.at_) ?_)
      rintro _ _ ⟨rfl, rfl⟩
      refine gl_op (op_rd rfl (rd_move rfl) ?_)
      refine gl_op (op_rd rfl (rd_extract rfl rfl) ?_)
      refine gl_op (op_rd rfl (rd_extract rfl rfl) ?_)
      refine gl_op (op_rd rfl (rd_assign rfl) ?_)
      refine gl_op (op_rd rfl (rd_assign rfl) ?_)
      refine gl_nil ?_
      refine gx_then ?_
      refine gc_seq ?_
      refine gc_region ?_
      refine gl_op (op_rd rfl (rd_move rfl) ?_)
      refine gl_op (op_rd rfl (rd_fieldAddr rfl (fa_64_1 _)) ?_)
      refine gl_op (op_rd rfl (rd_load Try.underlying3 rfl rfl (by first | exact ld_blk 0 rfl rfl | exact ld_blk 3 rfl rfl | exact ld_blk 4 rfl rfl | exact ld_rowN 1 rfl (get_nats (by omega)) | exact ld_rowN 2 rfl (get_nats (by omega)) | exact ld_rowN 5 rfl (get_nats (by omega)) | exact ld_rowN 6 rfl (get_nats (by omega)) | exact ld_slN (by assumption) (get_nats (by omega)) | exact ld_rowN 1 rfl (get_ints (by omega)) | exact ld_rowN 2 rfl (get_ints (by omega)) | exact ld_rowN 5 rfl (get_ints (by omega)) | exact ld_rowN 6 rfl (get_ints (by omega)) | exact ld_slN (by assumption) (get_ints (by omega)) | exact ld_old (by assumption) (by simp) | exact ld_cells (by assumption) (by simp) rfl)) ?_)
      refine gl_op (op_callM [4, 5, 6] [0, 1, 2, 3] rfl (vf := []) (vc := []) rfl rfl Try.call57 (by decide) rfl (fun w how hc => rRead_ok f hf br rb2 cb2 rp2 cp2 _ w hc x.at_) ?_)
      rintro _ _ ⟨rfl, rfl⟩
      refine gl_op (op_rd rfl (rd_move rfl) ?_)
      refine gl_op (op_rd rfl (rd_extract rfl rfl) ?_)
      refine gl_op (op_rd rfl (rd_extract rfl rfl) ?_)
      refine gl_op (op_rd rfl (rd_assign rfl) ?_)
      refine gl_op (op_rd rfl (rd_assign rfl) ?_)
      refine gl_nil ?_
      refine gx_then ?_
      refine gc_seq ?_
      refine gc_region ?_
      refine gl_op (op_rd rfl (rd_move rfl) ?_)
      refine gl_op (op_rd rfl (rd_move rfl) ?_)
      refine gl_op (op_rd rfl (rd_eql rfl rfl) (gk_dec (fun h50 => ?_) (fun h50 => ?_)))
      · skip
        refine gl_op (op_rd rfl (rd_move rfl) ?_)
        refine gl_yes rfl rfl (op_rd rfl (rd_move rfl) ?_)
        refine gl_yes rfl rfl (op_rd rfl (rd_move rfl) ?_)
        refine gl_yes rfl rfl (op_rd rfl (rd_eql rfl rfl) (gk_dec (fun h54 => ?_) (fun h54 => ?_)))
        · skip
          refine gl_op (op_rd rfl (rd_pick_t rfl rfl) ?_)
          refine gl_op (op_rd rfl (rd_assign rfl) ?_)
          refine gl_nil ?_
          refine gx_then ?_
          refine gc_ret ?_
          refine gx_block_ret ?_
          refine gx_then_ret ?_
          refine gx_ret1 (.inl rfl) Try.results29 rfl [3, 4, 5, 0, 1, 2] (by decide) ?_
          exact ⟨rfl, f, rp, cp, rp2, cp2, hf, Nat.le_succ _, Nat.le_succ _, rfl⟩
        · skip
          exact absurd rfl h54
      · skip
        exact absurd rfl h50
    · skip
      refine gl_op (op_rd rfl (rd_assign rfl) ?_)
      refine gl_nil ?_
      refine gx_then ?_
      refine gc_cond_f rfl ?_
      refine gc_seq ?_
      refine gc_region ?_
      refine gl_op (op_rd rfl (rd_eql rfl rfl) (gk_dec (fun h57 => ?_) (fun h57 => ?_)))
      · skip
        refine gl_op (op_rd rfl (rd_assign rfl) ?_)
        refine gl_nil ?_
        refine gx_then ?_
        refine gc_cond_t rfl ?_
        refine gc_seq ?_
        refine gc_region ?_
        refine gl_op (op_rd rfl (rd_move rfl) ?_)
        refine gl_op (op_rd rfl (rd_move rfl) ?_)
        refine gl_op (op_callM [1, 2, 3, 4, 5, 6] [0] rfl (vf := []) (vc := []) rfl rfl Try.call30 (by decide) rfl (fun w how hc => same_ok f hf bf rb cb rp cp br rb2 cb2 rp2 cp2 _ w hc) ?_)
        rintro _ _ ⟨rfl, rfl⟩
        refine gl_op (op_rd rfl (rd_assign rfl) ?_)
        refine gl_nil ?_
        refine gx_then ?_
        refine gc_ret ?_
        refine gx_block_ret ?_
        refine gx_then_ret ?_
        refine gx_ret1 (.inl rfl) Try.results29 rfl [0, 1, 2, 3, 4, 5] (by decide) ?_
        exact ⟨rfl, f, rp, cp, rp2, cp2, hf, Nat.le_succ _, Nat.le_succ _, rfl⟩
      · skip
        refine gl_op (op_rd rfl (rd_assign rfl) ?_)
        refine gl_nil ?_
        refine gx_then ?_
        refine gc_cond_f rfl ?_
        refine gc_seq ?_
        refine gc_region ?_
        refine gl_op (op_rd rfl (rd_eql rfl rfl) (gk_dec (fun h62 => ?_) (fun h62 => ?_)))
        · skip
          refine gl_op (op_rd rfl (rd_assign rfl) ?_)
          refine gl_nil ?_
          refine gx_then ?_
          refine gc_cond_t rfl ?_
          refine gc_seq ?_
          refine gc_region ?_
          refine gl_op (op_buildSlice (sz := 1) rfl rfl (fun _ => bs_36_0_) rfl rfl (fun b63 => ?_))
          refine gl_op (op_rd rfl (rd_fieldAddr rfl (fa_64_4 _)) ?_)
          refine gl_op (op_rd rfl (rd_load Try.underlying36 rfl rfl (by first | exact ld_blk 1 rfl rfl | exact ld_blk 2 rfl rfl | exact ld_blk 5 rfl rfl | exact ld_old (by assumption) (by simp) | exact ld_cells (by assumption) (by simp) rfl)) ?_)
          refine gl_op (op_appendSl 0 hin.sl Try.underlying36 ty_5 rfl (by decide) rfl rfl rfl rfl (u8_one x.ps) (by omega) (by omega) (fun _ => (by first | rfl | (simp only [List.set_cons_succ, List.set_cons_zero]; exact rfl))) (fun r66 c66 => ?_))
          refine gl_op (op_rd rfl (rd_assign rfl) ?_)
          refine gl_nil ?_
          refine gx_then ?_
          refine gc_seq ?_
          rw [Nat.zero_add, List.nil_append]
          refine gc_region ?_
          refine gl_op (op_rd rfl (rd_move rfl) ?_)
          refine gl_op (op_rd rfl (rd_fieldAddr rfl (fa_64_3 _)) ?_)
          refine gl_op (op_rd rfl (rd_load Try.underlying3 rfl rfl (by first | exact ld_blk 1 rfl rfl | exact ld_blk 2 rfl rfl | exact ld_blk 5 rfl rfl | exact ld_rowN 0 rfl (get_nats (by omega)) | exact ld_rowN 3 rfl (get_nats (by omega)) | exact ld_rowN 4 rfl (get_nats (by omega)) | exact ld_rowN 6 rfl (get_nats (by omega)) | exact ld_rowN 7 rfl (get_nats (by omega)) | exact ld_slN (by assumption) (get_nats (by omega)) | exact ld_rowN 0 rfl (get_ints (by omega)) | exact ld_rowN 3 rfl (get_ints (by omega)) | exact ld_rowN 4 rfl (get_ints (by omega)) | exact ld_rowN 6 rfl (get_ints (by omega)) | exact ld_rowN 7 rfl (get_ints (by omega)) | exact ld_slN (by assumption) (get_ints (by omega)) | exact ld_old (by assumption) (by simp) | exact ld_cells (by assumption) (by simp) rfl)) ?_)
          refine gl_op (op_rd rfl (rd_move rfl) ?_)
          refine gl_op (op_callM [2, 3, 4] [0, 1, 5, 6, 7] rfl (vf := []) (vc := []) rfl rfl Try.call19 (by decide) rfl (fun w how hc => Fuse_ok f hf bf rb cb rp cp _ w hc x.n x.ps (rowA r66) c66 hin.n (rowOut how 0 [2, 3, 4] rfl (by decide)) hpl) ?_)
          rintro _ _ ⟨rpa, cpa, rfl, rfl⟩
          refine gl_op (op_rd rfl (rd_assign rfl) ?_)
          refine gl_nil ?_
          refine gx_then ?_
          refine gc_seq ?_
          refine gc_seq ?_
          refine gc_region ?_
          refine gl_op (op_rd rfl (rd_assign rfl) ?_)
          refine gl_nil ?_
          refine gx_then ?_
          refine gc_block ?_
          refine gc_loopF (ι := Nat × List Nat) [(1, _), (5, _), (11, _), (12, _)] [_, _, _, _, _, _, _] (fun j => j.1 ≤ x.ps.length ∧ j.2.length = x.ps.length) (fun j Fr0 => ((13, natV j.1) :: Fr0)) (fun j Fr0 => (.row 5 1 r66 x.ps.length c66 (j.2.map u8V) :: Fr0)) (fun j => x.ps.length - j.1) (0, x.ps) (⟨Nat.zero_le _, rfl⟩) ⟨rfl, rfl, rfl, rfl, rfl, trivial⟩ ⟨[3, 0, 1, 2, 4, 5, 6, 7], by decide, rfl⟩ ?_
          rintro ⟨j, ys⟩ ⟨hj, hys⟩
          simp only at hj hys ⊢
          refine gc_seq ?_
          refine gc_seq ?_
          refine gc_region ?_
          refine gl_op (op_rd rfl (rd_move rfl) ?_)
          refine gl_op (op_rd rfl (rd_move rfl) ?_)
          refine gl_op (op_rd rfl (rd_lenSlice Try.underlying36 rfl) ?_)
          refine gl_op (op_rd rfl (rd_lss rfl rfl) (gk_dec (fun h75 => ?_) (fun h75 => ?_)))
          · skip
            refine gl_nil ?_
            refine gx_then ?_
            refine gc_cond_t rfl ?_
            refine gc_skip ?_
            refine gx_then ?_
            refine gc_seq ?_
            refine gc_block ?_
            refine gc_region ?_
            refine gl_op (op_rd rfl (rd_move rfl) ?_)
            refine gl_op (op_rd rfl (rd_move rfl) ?_)
            refine gl_op (op_rd rfl (rd_indexRow1 0 rfl Try.underlying36 ty_5 rfl rfl (by omega) (by omega)) ?_)
            refine gl_op (op_storeRowE 0 ty_5 rfl rfl rfl rfl (by simp; omega) (setU8 ys j 1) (by first | rfl | (simp only [List.set_cons_succ, List.set_cons_zero]; exact rfl)) ?_)
            refine gl_nil ?_
            refine gx_block ?_
            refine gx_then ?_
            refine gc_region ?_
            refine gl_op (op_rd rfl (rd_move rfl) ?_)
            refine gl_op (op_rd rfl (by first | exact rd_addN (b := 1) rfl rfl (by omega) | exact rd_add rfl rfl (by omega) (by omega)) ?_)
            refine gl_op (op_rd rfl (rd_assign rfl) ?_)
            refine gl_nil ?_
            refine gx_then ?_
            exact gx_cut ((j + 1, ys.set j 1)) ⟨⟨by simp only; omega, by simp [hys]⟩, by simp only; omega⟩ ⟨rfl, rfl, rfl, rfl, rfl, trivial⟩ ⟨[0, 1, 2, 3, 4, 5, 6, 7], by decide, rfl⟩
          · skip
            refine gl_nil ?_
            refine gx_then ?_
            refine gc_cond_f rfl ?_
            refine gc_exit ?_
            refine gx_then_exit ?_
            refine gx_then_exit ?_
            refine gx_block_exit ?_
            refine gx_then ?_
            refine gc_seq ?_
            refine gc_region ?_
            refine gl_op (op_rd rfl (rd_move rfl) ?_)
            refine gl_op (op_rd rfl (rd_move rfl) ?_)
            refine gl_op (op_rd rfl (rd_fieldAddr rfl (fa_64_3 _)) ?_)
            refine gl_op (op_rd rfl (rd_load Try.underlying3 rfl rfl (by first | exact ld_blk 1 rfl rfl | exact ld_blk 4 rfl rfl | exact ld_blk 5 rfl rfl | exact ld_rowN 0 rfl (get_nats (by omega)) | exact ld_rowN 2 rfl (get_nats (by omega)) | exact ld_rowN 3 rfl (get_nats (by omega)) | exact ld_rowN 6 rfl (get_nats (by omega)) | exact ld_rowN 7 rfl (get_nats (by omega)) | exact ld_slN (by assumption) (get_nats (by omega)) | exact ld_rowN 0 rfl (get_ints (by omega)) | exact ld_rowN 2 rfl (get_ints (by omega)) | exact ld_rowN 3 rfl (get_ints (by omega)) | exact ld_rowN 6 rfl (get_ints (by omega)) | exact ld_rowN 7 rfl (get_ints (by omega)) | exact ld_slN (by assumption) (get_ints (by omega)) | exact ld_old (by assumption) (by simp) | exact ld_cells (by assumption) (by simp) rfl)) ?_)
            refine gl_op (op_rd rfl (rd_fieldAddr rfl (fa_64_4 _)) ?_)
            refine gl_op (op_rd rfl (rd_load Try.underlying36 rfl rfl (by first | exact ld_blk 1 rfl rfl | exact ld_blk 4 rfl rfl | exact ld_blk 5 rfl rfl | exact ld_old (by assumption) (by simp) | exact ld_cells (by assumption) (by simp) rfl)) ?_)
            refine gl_op (op_callM [5, 6, 7] [0, 1, 2, 3, 4] rfl (vf := []) (vc := []) rfl rfl Try.call58 (by decide) rfl (fun w how hc => rFuse_ok f hf br rb2 cb2 rp2 cp2 _ w hc x.n x.ps x.a x.c (slOut how hin.sl [5, 6, 7]) hpl) ?_)
            rintro _ _ ⟨rpb, cpb, rfl, rfl⟩
            refine gl_op (op_rd rfl (rd_eql rfl rfl) (gk_dec (fun h88 => ?_) (fun h88 => ?_)))
            · skip
              refine gl_op (op_rd rfl (rd_assign rfl) ?_)
              refine gl_nil ?_
              refine gx_then ?_
              refine gc_ret ?_
              refine gx_block_ret ?_
              refine gx_then_ret ?_
              refine gx_ret1 (.inl rfl) Try.results29 rfl [4, 5, 6, 0, 1, 2] (by decide) ?_
              obtain ⟨c1, c2⟩ := fuse_cnt f x.n x.ps
              exact ⟨rfl, (flFuse f x.n x.ps).1, rpa, cpa, rpb, cpb, (fuse_okP hf hin.n hin.ps), (by omega), (by omega), rfl⟩
            · skip
              exact absurd rfl h88
        · skip
          refine gl_op (op_rd rfl (rd_assign rfl) ?_)
          refine gl_nil ?_
          refine gx_then ?_
          refine gc_cond_f rfl ?_
          refine gc_seq ?_
          refine gc_region ?_
          refine gl_op (op_rd rfl (rd_eql rfl rfl) (gk_dec (fun h90 => ?_) (fun h90 => ?_)))
          · skip
            refine gl_op (op_rd rfl (rd_assign rfl) ?_)
            refine gl_nil ?_
            refine gx_then ?_
            refine gc_cond_t rfl ?_
            refine gc_seq ?_
            refine gc_region ?_
            refine gl_op (op_rd rfl (rd_move rfl) ?_)
            refine gl_op (op_callM [4, 5, 6] [0, 1, 2, 3] rfl (vf := []) (vc := []) rfl rfl Try.call59 (by decide) rfl (fun w how hc => rRestart_ok f hf br rb2 cb2 rp2 cp2 _ w hc) ?_)
            rintro _ _ ⟨rfl, rfl⟩
            refine gl_nil ?_
            refine gx_then ?_
            refine gc_seq ?_
            refine gc_region ?_
            refine gl_op (op_rd rfl (rd_move rfl) ?_)
            refine gl_op (op_callM [4, 5, 6] [0, 1, 2, 3] rfl (vf := []) (vc := []) rfl rfl Try.call21 (by decide) rfl (fun w how hc => Restart_ok f hf bf rb cb rp cp _ w hc) ?_)
            rintro _ _ ⟨rfl, rfl⟩
            refine gl_op (op_rd rfl (rd_eql rfl rfl) (gk_dec (fun h95 => ?_) (fun h95 => ?_)))
            · skip
              refine gl_op (op_rd rfl (rd_assign rfl) ?_)
              refine gl_nil ?_
              refine gx_then ?_
              refine gc_ret ?_
              refine gx_block_ret ?_
              refine gx_then_ret ?_
              refine gx_ret1 (.inl rfl) Try.results29 rfl [0, 1, 2, 3, 4, 5] (by decide) ?_
              exact ⟨rfl, (flRestart f), none, 0, none, 0, (restart_okP hf), (Nat.le_succ _), (Nat.le_succ _), rfl⟩
            · skip
              exact absurd rfl h95
          · skip
            refine gl_op (op_rd rfl (rd_assign rfl) ?_)
            refine gl_nil ?_
            refine gx_then ?_
            refine gc_cond_f rfl ?_
            refine gc_seq ?_
            refine gc_region ?_
            refine gl_op (op_rd rfl (rd_eql rfl rfl) (gk_dec (fun h97 => ?_) (fun h97 => ?_)))
            · skip
              by_cases hg : goodLen x.ps.length
              · skip
                refine gl_op (op_rd rfl (rd_assign rfl) ?_)
                refine gl_nil ?_
                refine gx_then ?_
                refine gc_cond_t rfl ?_
                refine gc_seq ?_
                refine gc_region ?_
                refine gl_op (op_rd rfl (rd_fieldAddr rfl (fa_64_4 _)) ?_)
                refine gl_op (op_rd rfl (rd_load Try.underlying36 rfl rfl (by first | exact ld_blk 0 rfl rfl | exact ld_blk 1 rfl rfl | exact ld_blk 4 rfl rfl | exact ld_old (by assumption) (by simp) | exact ld_cells (by assumption) (by simp) rfl)) ?_)
                refine gl_op (op_call rfl (vf := []) (vc := []) rfl rfl Try.call35 (fun w1 ho => Load_ok x.ps x.a x.c w1 (hin.sl.at ho) hpl hg) ?_)
                rintro _ _ ⟨b9, r9, c9, rfl, rfl⟩
                refine gl_op (op_rd rfl (rd_move rfl) ?_)
                refine gl_op (op_rd rfl (rd_extract rfl rfl) ?_)
                refine gl_op (op_rd rfl (rd_extract rfl rfl) ?_)
                refine gl_op (op_rd rfl (rd_assign rfl) ?_)
                refine gl_op (op_rd rfl (rd_assign rfl) ?_)
                refine gl_nil ?_
                refine gx_then ?_
                refine gc_seq ?_
                refine gc_region ?_
                refine gl_op (op_rd rfl (rd_fieldAddr rfl (fa_64_4 _)) ?_)
                refine gl_op (op_rd rfl (rd_load Try.underlying36 rfl rfl (by first | exact ld_blk 0 rfl rfl | exact ld_blk 3 rfl rfl | exact ld_blk 4 rfl rfl | exact ld_blk 7 rfl rfl | exact ld_old (by assumption) (by simp) | exact ld_cells (by assumption) (by simp) rfl)) ?_)
                refine gl_op (op_call rfl (vf := []) (vc := []) rfl rfl Try.call60 (fun w1 ho => rLoad_ok x.ps x.a x.c w1 (hin.sl.at ho) hpl hg) ?_)
                rintro _ _ ⟨b8, r8, c8, rfl, rfl⟩
                refine gl_op (op_rd rfl (rd_move rfl) ?_)
                refine gl_op (op_rd rfl (rd_extract rfl rfl) ?_)
                refine gl_op (op_rd rfl (rd_extract rfl rfl) ?_)
                refine gl_op (op_rd rfl (rd_assign rfl) ?_)
                refine gl_op (op_rd rfl (rd_assign rfl) ?_)
                refine gl_nil ?_
                refine gx_then ?_
                refine gc_seq ?_
                refine gc_region ?_
                refine gl_op (op_rd rfl (rd_move rfl) ?_)
                refine gl_op (op_rd rfl (rd_move rfl) ?_)
                refine gl_op (op_rd rfl (rd_eql rfl rfl) (gk_dec (fun h112 => ?_) (fun h112 => ?_)))
                · skip
                  refine gl_op (op_rd rfl (rd_move rfl) ?_)
                  refine gl_yes rfl rfl (op_rd rfl (rd_move rfl) ?_)
                  refine gl_yes rfl rfl (op_rd rfl (rd_neqNilPt eg_25 Try.underlying25 rfl rfl) ?_)
                  refine gl_yes rfl rfl (op_rd rfl (rd_move rfl) ?_)
                  refine gl_yes rfl rfl (op_rd rfl (rd_eql rfl rfl) ?_)
                  refine gl_yes rfl rfl (op_rd rfl (rd_eqlb Try.runUnderlying4 rfl rfl) ?_)
                  refine gk_bool (fun h118 => ?_) (fun h118 => ?_)
                  · skip
                    refine gl_op (op_rd rfl (rd_pick_t rfl rfl) ?_)
                    refine gl_op (op_rd rfl (rd_move rfl) ?_)
                    refine gl_yes rfl rfl (op_rd rfl (rd_move rfl) ?_)
                    refine gl_yes rfl rfl (op_rd rfl (rd_eqlNilPt eg_25 Try.underlying25 rfl rfl) ?_)
                    refine gl_yes rfl rfl (op_rd rfl (rd_move rfl) ?_)
                    refine gl_yes rfl rfl (op_rd rfl (rd_move rfl) ?_)
                    refine gl_yes rfl rfl (op_rd rfl (rd_move rfl) ?_)
                    refine gl_yes rfl rfl (op_callM [3, 4, 5, 0, 1, 2] [6, 7, 8, 9, 10, 11, 12] rfl (vf := []) (vc := []) rfl rfl Try.call30 (by decide) rfl (fun w how hc => same_ok (flNew x.ps) (new_okP hg hin.ps) b9 r9 c9 none 0 b8 r8 c8 none 0 _ w hc) ?_)
                    rintro _ _ ⟨rfl, rfl⟩
                    refine gl_yes rfl rfl (op_rd rfl (rd_pick_f rfl rfl) ?_)
                    refine gl_op (op_rd rfl (rd_pick_t rfl rfl) ?_)
                    refine gl_op (op_rd rfl (rd_assign rfl) ?_)
                    refine gl_nil ?_
                    refine gx_then ?_
                    refine gc_ret ?_
                    refine gx_block_ret ?_
                    refine gx_then_ret ?_
                    refine gx_ret1 (.inl rfl) Try.results29 rfl [7, 8, 9, 10, 11, 12] (by decide) ?_
                    exact ⟨rfl, f, rp, cp, rp2, cp2, hf, Nat.le_succ _, Nat.le_succ _, rfl⟩
                  · skip
                    exact absurd h118 (by simp)
                · skip
                  exact absurd rfl h112
              · skip
                refine gl_op (op_rd rfl (rd_assign rfl) ?_)
                refine gl_nil ?_
                refine gx_then ?_
                refine gc_cond_t rfl ?_
                refine gc_seq ?_
                refine gc_region ?_
                refine gl_op (op_rd rfl (rd_fieldAddr rfl (fa_64_4 _)) ?_)
                refine gl_op (op_rd rfl (rd_load Try.underlying36 rfl rfl (by first | exact ld_blk 0 rfl rfl | exact ld_blk 1 rfl rfl | exact ld_blk 4 rfl rfl | exact ld_old (by assumption) (by simp) | exact ld_cells (by assumption) (by simp) rfl)) ?_)
                refine gl_op (op_call rfl (vf := []) (vc := []) rfl rfl Try.call35 (fun w1 ho => Load_bad x.ps x.a x.c w1 (hin.sl.at ho) hpl hg) ?_)
                rintro _ _ ⟨rfl, rfl⟩
                refine gl_op (op_rd rfl (rd_move rfl) ?_)
                refine gl_op (op_rd rfl (rd_extract rfl rfl) ?_)
                refine gl_op (op_rd rfl (rd_extract rfl rfl) ?_)
                refine gl_op (op_rd rfl (rd_assign rfl) ?_)
                refine gl_op (op_rd rfl (rd_assign rfl) ?_)
                refine gl_nil ?_
                refine gx_then ?_
                refine gc_seq ?_
                refine gc_region ?_
                refine gl_op (op_rd rfl (rd_fieldAddr rfl (fa_64_4 _)) ?_)
                refine gl_op (op_rd rfl (rd_load Try.underlying36 rfl rfl (by first | exact ld_blk 0 rfl rfl | exact ld_blk 1 rfl rfl | exact ld_blk 4 rfl rfl | exact ld_old (by assumption) (by simp) | exact ld_cells (by assumption) (by simp) rfl)) ?_)
                refine gl_op (op_call rfl (vf := []) (vc := []) rfl rfl Try.call60 (fun w1 ho => rLoad_bad x.ps x.a x.c w1 (hin.sl.at ho) hpl hg) ?_)
                rintro _ _ ⟨rfl, rfl⟩
                refine gl_op (op_rd rfl (rd_move rfl) ?_)
                refine gl_op (op_rd rfl (rd_extract rfl rfl) ?_)
                refine gl_op (op_rd rfl (rd_extract rfl rfl) ?_)
                refine gl_op (op_rd rfl (rd_assign rfl) ?_)
                refine gl_op (op_rd rfl (rd_assign rfl) ?_)
                refine gl_nil ?_
                refine gx_then ?_
                refine gc_seq ?_
                refine gc_region ?_
                refine gl_op (op_rd rfl (rd_move rfl) ?_)
                refine gl_op (op_rd rfl (rd_move rfl) ?_)
                refine gl_op (op_rd rfl (rd_eql rfl rfl) (gk_dec (fun h112 => ?_) (fun h112 => ?_)))
                · skip
                  refine gl_op (op_rd rfl (rd_move rfl) ?_)
                  refine gl_yes rfl rfl (op_rd rfl (rd_move rfl) ?_)
                  refine gl_yes rfl rfl (op_rd rfl (rd_neqNilPt eg_25 Try.underlying25 rfl rfl) ?_)
                  refine gl_yes rfl rfl (op_rd rfl (rd_move rfl) ?_)
                  refine gl_yes rfl rfl (op_rd rfl (rd_eql rfl rfl) ?_)
                  refine gl_yes rfl rfl (op_rd rfl (rd_eqlb Try.runUnderlying4 rfl rfl) ?_)
                  refine gk_bool (fun h118 => ?_) (fun h118 => ?_)
                  · skip
                    refine gl_op (op_rd rfl (rd_pick_t rfl rfl) ?_)
                    refine gl_op (op_rd rfl (rd_move rfl) ?_)
                    refine gl_yes rfl rfl (op_rd rfl (rd_move rfl) ?_)
                    refine gl_yes rfl rfl (op_rd rfl (rd_eqlNilPt eg_25 Try.underlying25 rfl rfl) ?_)
                    refine gl_yes rfl rfl (op_rd rfl (rd_move rfl) ?_)
                    refine gl_no rfl rfl rfl ?_
                    refine gl_no rfl rfl rfl ?_
                    refine gl_no rfl rfl rfl ?_
                    refine gl_yes rfl rfl (op_rd rfl (rd_pick_t rfl rfl) ?_)
                    refine gl_op (op_rd rfl (rd_pick_t rfl rfl) ?_)
                    refine gl_op (op_rd rfl (rd_assign rfl) ?_)
                    refine gl_nil ?_
                    refine gx_then ?_
                    refine gc_ret ?_
                    refine gx_block_ret ?_
                    refine gx_then_ret ?_
                    refine gx_ret1 (.inl rfl) Try.results29 rfl [1, 2, 3, 4, 5, 6] (by decide) ?_
                    exact ⟨rfl, f, rp, cp, rp2, cp2, hf, Nat.le_succ _, Nat.le_succ _, rfl⟩
                  · skip
                    exact absurd h118 (by simp)
                · skip
                  exact absurd rfl h112
            · skip
              refine gl_op (op_rd rfl (rd_assign rfl) ?_)
              refine gl_nil ?_
              refine gx_then ?_
              refine gc_cond_f rfl ?_
              refine gc_skip ?_
              refine gx_block ?_
              refine gx_then ?_
              refine gc_seq ?_
              refine gc_drawP [0] true 13 rfl ?_
              refine ga_first 0 #[true, false, false, false, false, false, false, false, false, false, false, false, false, false] rfl rfl rfl rfl (by kernel_rfl) rfl ⟨[0], by decide, rfl⟩ (qt_rd (rd_move rfl)) ?_
              refine ga_first 1 #[true, true, false, false, false, false, false, false, false, false, false, false, false, false] rfl rfl rfl rfl (by kernel_rfl) rfl ⟨[0], by decide, rfl⟩ (qt_rd (rd_fieldAddr rfl (fa_64_1 _))) ?_
              refine ga_first 2 #[true, true, true, false, false, false, false, false, false, false, false, false, false, false] rfl rfl rfl rfl (by kernel_rfl) rfl ⟨[0], by decide, rfl⟩ (qt_rd (rd_load Try.underlying3 rfl rfl (by first | exact ld_blk 0 rfl rfl | exact ld_slN (by assumption) (get_nats (by omega)) | exact ld_slN (by assumption) (get_ints (by omega)) | exact ld_old (by assumption) (by simp) | exact ld_cells (by assumption) (by simp) rfl))) ?_
              refine ga_first 3 #[true, true, true, true, false, false, false, false, false, false, false, false, false, false] rfl rfl rfl rfl (by kernel_rfl) rfl ⟨[0], by decide, rfl⟩ (qt_rd (rd_fieldAddr rfl (fa_64_2 _))) ?_
              refine ga_first 4 #[true, true, true, true, true, false, false, false, false, false, false, false, false, false] rfl rfl rfl rfl (by kernel_rfl) rfl ⟨[0], by decide, rfl⟩ (qt_rd (rd_load Try.underlying5 rfl rfl (by first | exact ld_blk 0 rfl rfl | exact ld_slN (by assumption) (get_u8 (by omega)) | exact ld_old (by assumption) (by simp) | exact ld_cells (by assumption) (by simp) rfl))) ?_
              refine ga_first 6 #[true, true, true, true, true, false, true, false, false, false, false, false, false, false] rfl rfl rfl rfl (by kernel_rfl) rfl ⟨[0], by decide, rfl⟩ (qt_rd (rd_move rfl)) ?_
              refine ga_first 7 #[true, true, true, true, true, false, true, true, false, false, false, false, false, false] rfl rfl rfl rfl (by kernel_rfl) rfl ⟨[0], by decide, rfl⟩ (qt_rd (rd_fieldAddr rfl (fa_64_1 _))) ?_
              refine ga_first 8 #[true, true, true, true, true, false, true, true, true, false, false, false, false, false] rfl rfl rfl rfl (by kernel_rfl) rfl ⟨[0], by decide, rfl⟩ (qt_rd (rd_load Try.underlying3 rfl rfl (by first | exact ld_blk 0 rfl rfl | exact ld_slN (by assumption) (get_nats (by omega)) | exact ld_slN (by assumption) (get_ints (by omega)) | exact ld_old (by assumption) (by simp) | exact ld_cells (by assumption) (by simp) rfl))) ?_
              refine ga_first 9 #[true, true, true, true, true, false, true, true, true, true, false, false, false, false] rfl rfl rfl rfl (by kernel_rfl) rfl ⟨[0], by decide, rfl⟩ (qt_rd (rd_fieldAddr rfl (fa_64_2 _))) ?_
              refine ga_first 10 #[true, true, true, true, true, false, true, true, true, true, true, false, false, false] rfl rfl rfl rfl (by kernel_rfl) rfl ⟨[0], by decide, rfl⟩ (qt_rd (rd_load Try.underlying5 rfl rfl (by first | exact ld_blk 0 rfl rfl | exact ld_slN (by assumption) (get_u8 (by omega)) | exact ld_old (by assumption) (by simp) | exact ld_cells (by assumption) (by simp) rfl))) ?_
              refine ga_only 5 #[true, true, true, true, true, true, true, true, true, true, true, false, false, false] rfl rfl (by kernel_rfl) rfl (.inr ⟨[0], by decide, rfl⟩) (op_callM [1, 2, 3] [0, 4, 5, 6] rfl (vf := []) (vc := []) rfl rfl Try.call25 (by decide) rfl (fun w how hc => Program_ok f hf bf rb cb rp cp _ w hc x.at_ x.u hin.u) ?_)
              rintro _ _ ⟨rfl, rfl⟩
              refine ga_only 11 #[true, true, true, true, true, true, true, true, true, true, true, true, false, false] rfl rfl (by kernel_rfl) rfl (.inr ⟨[3], by decide, rfl⟩) (op_callM [4, 5, 6] [0, 1, 2, 3] rfl (vf := []) (vc := []) rfl rfl Try.call61 (by decide) rfl (fun w how hc => rProgram_ok f hf br rb2 cb2 rp2 cp2 _ w hc x.at_ x.u hin.u) ?_)
              rintro _ _ ⟨rfl, rfl⟩
              refine ga_first 12 #[true, true, true, true, true, true, true, true, true, true, true, true, true, false] rfl rfl rfl rfl (by kernel_rfl) rfl ⟨[6], by decide, rfl⟩ (qt_rd (rd_eql rfl rfl)) (gk_dec (fun h141 => ?_) (fun h141 => ?_))
              · skip
                refine ga_first 13 #[true, true, true, true, true, true, true, true, true, true, true, true, true, true] rfl rfl rfl rfl (by kernel_rfl) rfl ⟨[6], by decide, rfl⟩ (qt_rd (rd_assign rfl)) ?_
                refine ga_end (by kernel_rfl) (.inr ⟨[6], by decide, rfl⟩) ?_
                refine gx_then ?_
                refine gc_ret ?_
                refine gx_ret1 (.inl rfl) Try.results29 rfl [3, 4, 5, 0, 1, 2] (by decide) ?_
                obtain ⟨p1, p2, p3, p4, p5⟩ := prog_ok hf hpr hin.u x.at_
                have p6 := prog_er f x.at_ x.u
                exact ⟨rfl, (flProg f x.at_ x.u).1, rp, cp, rp2, cp2, p1, p2, (by omega), rfl⟩
              · skip
                exact absurd rfl h141

end Go.Proofs.Ythcbcdjkfefnlaa

set_option autoImplicit false
set_option linter.unusedVariables false
namespace Go.Proofs.Ythcbcdjkfefnlaa
open Go.Gv
open Go.RowKit
open Iv
set_option maxRecDepth 100000 in
set_option maxHeartbeats 4000000 in
theorem StoreFlash_ok (n : Int) (gs : List FAct) (a : Option Addr) (ca : Nat) (w0 : World) (hsl : OldSl w0 [] a gs.length 5 (gs.flatMap FAct.cells)) (hlen : gs.length ≤ 140737488355328) (hin : ∀ g ∈ gs, g.In w0 []) : Sp Try.prog 6 [.int .i64 n, .slice a gs.length ca] w0 [] (RV (.bool true)) := by
  refine spec_enter Try.func6 rfl Try.ntmps6 rfl (Own.refl _) ?_
  simp only [argEnv]
  refine gc_seq ?_
  refine gc_region ?_
  refine gl_op (op_rd rfl (rd_assign rfl) ?_)
  refine gl_nil ?_
  refine gx_then ?_
  refine gc_seq ?_
  refine gc_region ?_
  refine gl_op (op_rd rfl (rd_assign rfl) ?_)
  refine gl_nil ?_
  refine gx_then ?_
  refine gc_seq ?_
  refine gc_seq ?_
  refine gc_region ?_
  refine gl_op (op_rd rfl (rd_assign rfl) ?_)
  refine gl_nil ?_
  refine gx_then ?_
  refine gc_block ?_
  refine gc_loopF (ι := Nat × Nat) [(0, _), (1, _)] [] (fun j => j.1 ≤ gs.length ∧ j.1 ≤ 61 ∧ j.2 ≤ j.1 * 20001) (fun j Fr0 => ((5, natV j.2) :: (6, natV j.1) :: Fr0)) (fun j Fr0 => Fr0) (fun j => 61 - j.1) (0, 0) (⟨Nat.zero_le _, Nat.zero_le _, Nat.zero_le _⟩) ⟨rfl, rfl, rfl, rfl, trivial⟩ ⟨[], by decide, rfl⟩ ?_
  rintro ⟨j, s⟩ ⟨hj, hj2, hs⟩
  simp only at hj hj2 hs ⊢
  refine gc_seq ?_
  refine gc_seq ?_
  refine gc_region ?_
  refine gl_op (op_rd rfl (rd_move rfl) ?_)
  refine gl_op (op_rd rfl (rd_move rfl) ?_)
  refine gl_op (op_rd rfl (rd_lenSlice Try.underlying62 rfl) ?_)
  refine gl_op (op_rd rfl (rd_lss rfl rfl) (gk_dec (fun h15 => ?_) (fun h15 => ?_)))
  · skip
    obtain ⟨x, hx⟩ := get_some (show j < gs.length by omega)
    have hxin := hin x (List.mem_of_getElem? hx)
    have hxl := hxin.len
    refine gl_op (op_rd rfl (rd_move rfl) ?_)
    refine gl_yes rfl rfl (op_rd rfl (rd_move rfl) ?_)
    refine gl_yes rfl rfl (op_rd rfl (rd_lss rfl rfl) (gk_dec (fun h18 => ?_) (fun h18 => ?_)))
    · skip
      refine gl_op (op_rd rfl (rd_pick_t rfl rfl) ?_)
      refine gl_nil ?_
      refine gx_then ?_
      refine gc_cond_t rfl ?_
      refine gc_skip ?_
      refine gx_then ?_
      refine gc_seq ?_
      refine gc_block ?_
      refine gc_region ?_
      refine gl_op (op_rd rfl (rd_move rfl) ?_)
      refine gl_op (op_rd rfl (rd_move rfl) ?_)
      refine gl_op (op_rd rfl (rd_move rfl) ?_)
      refine gl_op (op_rd rfl (rd_indexOld hsl Try.underlying62 ty_64 rfl rfl (by omega) (by omega)) ?_)
      refine gl_op (op_rd rfl (rd_fieldAddr rfl (fa_64_4 _)) ?_)
      refine gl_op (op_rd rfl (rd_load Try.underlying36 rfl rfl (ld_slf hsl (get_flat FAct.cells 5 (fun _ => rfl) hx (j := 4) (by decide) rfl))) ?_)
      refine gl_op (op_rd rfl (rd_lenSlice Try.underlying36 rfl) ?_)
      refine gl_op (op_rd rfl (rd_min2N rfl rfl) ?_)
      refine gl_op (op_rd rfl (by first | exact rd_addN rfl rfl (by omega) | exact rd_add rfl rfl (by omega) (by omega)) ?_)
      refine gl_op (op_rd rfl (rd_assign rfl) ?_)
      refine gl_nil ?_
      refine gx_block ?_
      refine gx_then ?_
      refine gc_region ?_
      refine gl_op (op_rd rfl (rd_move rfl) ?_)
      refine gl_op (op_rd rfl (by first | exact rd_addN (b := 1) rfl rfl (by omega) | exact rd_add rfl rfl (by omega) (by omega)) ?_)
      refine gl_op (op_rd rfl (rd_assign rfl) ?_)
      refine gl_nil ?_
      refine gx_then ?_
      exact gx_cut ((j + 1, s + min x.ps.length 20001)) ⟨⟨by simp only; omega, by simp only; omega, by simp only; omega⟩, by simp only; omega⟩ ⟨rfl, rfl, rfl, rfl, trivial⟩ ⟨[], by decide, rfl⟩
    · skip
      refine gl_op (op_rd rfl (rd_pick_t rfl rfl) ?_)
      refine gl_nil ?_
      refine gx_then ?_
      refine gc_cond_f rfl ?_
      refine gc_exit ?_
      refine gx_then_exit ?_
      refine gx_then_exit ?_
      refine gx_block_exit ?_
      refine gx_then ?_
      refine gc_seq ?_
      refine gc_seq ?_
      refine gc_region ?_
      refine gl_op (op_rd rfl (rd_move rfl) ?_)
      refine gl_op (op_rd rfl (rd_lenSlice Try.underlying62 rfl) ?_)
      refine gl_op (op_rd rfl (rd_gtr rfl rfl) (gk_dec (fun h33 => ?_) (fun h33 => ?_)))
      · skip
        refine gl_op (op_rd rfl (rd_move rfl) ?_)
        refine gl_no rfl rfl rfl ?_
        refine gl_no rfl rfl rfl ?_
        refine gl_op (op_rd rfl (rd_pick_t rfl rfl) ?_)
        refine gl_nil ?_
        refine gx_then ?_
        refine gc_cond_t rfl ?_
        refine gc_seq ?_
        refine gc_region ?_
        refine gl_op (op_call rfl (vf := []) (vc := []) rfl rfl Try.call9 (fun w1 ho => shown_ok w1) ?_)
        rintro _ _ ⟨rfl, rfl⟩
        refine gl_op (op_rd rfl (rd_assign rfl) ?_)
        refine gl_nil ?_
        refine gx_then ?_
        refine gc_ret ?_
        refine gx_then_ret ?_
        refine gx_ret1 (.inl rfl) Try.results6 rfl [] (by decide) ?_
        exact ⟨rfl, rfl⟩
      · skip
        refine gl_op (op_rd rfl (rd_move rfl) ?_)
        refine gl_yes rfl rfl (op_rd rfl (rd_move rfl) ?_)
        refine gl_yes rfl rfl (op_rd rfl (rd_gtr rfl rfl) (gk_dec (fun h36 => ?_) (fun h36 => ?_)))
        · skip
          refine gl_op (op_rd rfl (rd_pick_f rfl rfl) ?_)
          refine gl_nil ?_
          refine gx_then ?_
          refine gc_cond_t rfl ?_
          refine gc_seq ?_
          refine gc_region ?_
          refine gl_op (op_call rfl (vf := []) (vc := []) rfl rfl Try.call9 (fun w1 ho => shown_ok w1) ?_)
          rintro _ _ ⟨rfl, rfl⟩
          refine gl_op (op_rd rfl (rd_assign rfl) ?_)
          refine gl_nil ?_
          refine gx_then ?_
          refine gc_ret ?_
          refine gx_then_ret ?_
          refine gx_ret1 (.inl rfl) Try.results6 rfl [] (by decide) ?_
          exact ⟨rfl, rfl⟩
        · skip
          by_cases hn : 4 ≤ n ∧ n ≤ 64
          · skip
            refine gl_op (op_rd rfl (rd_pick_f rfl rfl) ?_)
            refine gl_nil ?_
            refine gx_then ?_
            refine gc_cond_f rfl ?_
            refine gc_skip ?_
            refine gx_then ?_
            refine gc_seq ?_
            obtain ⟨n, rfl⟩ : ∃ m : Nat, n = m := ⟨n.toNat, by omega⟩
            refine gc_region ?_
            refine gl_op (op_rd rfl (rd_move rfl) ?_)
            refine gl_op (op_call rfl (vf := []) (vc := []) rfl rfl Try.call10 (fun w1 ho => New_ok n (by omega) (by omega) w1) ?_)
            rintro _ _ ⟨bf, rb, cb, rfl, rfl⟩
            refine gl_op (op_rd rfl (rd_move rfl) ?_)
            refine gl_op (op_rd rfl (rd_extract rfl rfl) ?_)
            refine gl_op (op_rd rfl (rd_extract rfl rfl) ?_)
            refine gl_op (op_rd rfl (rd_assign rfl) ?_)
            refine gl_op (op_rd rfl (rd_assign rfl) ?_)
            refine gl_nil ?_
            refine gx_then ?_
            refine gc_seq ?_
            refine gc_region ?_
            refine gl_op (op_rd rfl (rd_move rfl) ?_)
            refine gl_op (op_call rfl (vf := []) (vc := []) rfl rfl Try.call28 (fun w1 ho => rNew_ok n (by omega) (by omega) w1) ?_)
            rintro _ _ ⟨br, rb2, cb2, rfl, rfl⟩
            refine gl_op (op_rd rfl (rd_move rfl) ?_)
            refine gl_op (op_rd rfl (rd_extract rfl rfl) ?_)
            refine gl_op (op_rd rfl (rd_extract rfl rfl) ?_)
            refine gl_op (op_rd rfl (rd_assign rfl) ?_)
            refine gl_op (op_rd rfl (rd_assign rfl) ?_)
            refine gl_nil ?_
            refine gx_then ?_
            refine gc_seq ?_
            refine gc_seq ?_
            refine gc_region ?_
            refine gl_op (op_rd rfl (rd_move rfl) ?_)
            refine gl_op (op_rd rfl (rd_move rfl) ?_)
            refine gl_op (op_rd rfl (rd_neq rfl rfl) (gk_dec (fun h51 => ?_) (fun h51 => ?_)))
            · skip
              exact absurd rfl h51
            · skip
              refine gl_op (op_rd rfl (rd_move rfl) ?_)
              refine gl_yes rfl rfl (op_rd rfl (rd_move rfl) ?_)
              refine gl_yes rfl rfl (op_rd rfl (rd_neqNilPt eg_25 Try.underlying25 rfl rfl) ?_)
              refine gl_yes rfl rfl (op_rd rfl (rd_move rfl) ?_)
              refine gl_yes rfl rfl (op_rd rfl (rd_eql rfl rfl) ?_)
              refine gl_yes rfl rfl (op_rd rfl (rd_neqb Try.runUnderlying4 rfl rfl) ?_)
              refine gk_bool (fun h57 => ?_) (fun h57 => ?_)
              · skip
                simp at h57
              · skip
                refine gl_op (op_rd rfl (rd_pick_f rfl rfl) ?_)
                refine gl_nil ?_
                refine gx_then ?_
                refine gc_cond_f rfl ?_
                refine gc_skip ?_
                refine gx_then ?_
                refine gc_seq ?_
                refine gc_seq ?_
                refine gc_region ?_
                refine gl_op (op_rd rfl (rd_assign rfl) ?_)
                refine gl_nil ?_
                refine gx_then ?_
                refine gc_block ?_
                refine gc_loopF (ι := Nat × Fl × Option Nat × Nat × Option Nat × Nat) [(1, _), (7, _), (8, _), (9, _)] [] (fun j => j.1 ≤ gs.length ∧ j.2.1.Ok ∧ j.2.1.pr ≤ j.1 ∧ j.2.1.er ≤ j.1) (fun j Fr0 => ((11, natV j.1) :: Fr0)) (fun j Fr0 => (.blk bf (j.2.1.cells rb cb j.2.2.1 j.2.2.2.1) 72 :: .row 5 1 rb j.2.1.b.length cb (j.2.1.b.map u8V) :: .row 5 1 j.2.2.1 j.2.1.picks.length j.2.2.2.1 (j.2.1.picks.map u8V) :: .blk br (j.2.1.rcells rb2 cb2 j.2.2.2.2.1 j.2.2.2.2.2) 110 :: .row 5 1 rb2 j.2.1.b.length cb2 (j.2.1.b.map u8V) :: .row 5 1 j.2.2.2.2.1 j.2.1.picks.length j.2.2.2.2.2 (j.2.1.picks.map u8V) :: Fr0)) (fun j => gs.length - j.1) (0, flNew (List.replicate (256 * n) 255), none, 0, none, 0) (⟨Nat.zero_le _, (new_fresh (by omega) (by omega)).1, Nat.zero_le _, Nat.zero_le _⟩) ⟨rfl, rfl, rfl, rfl, rfl, trivial⟩ ⟨[3, 4, 5, 0, 1, 2], by decide, rfl⟩ ?_
                rintro ⟨j, f, rp, cp, rp2, cp2⟩ ⟨hj, hf, hpr, her⟩
                simp only at hj hf hpr her ⊢
                refine gc_seq ?_
                refine gc_seq ?_
                refine gc_region ?_
                refine gl_op (op_rd rfl (rd_move rfl) ?_)
                refine gl_op (op_rd rfl (rd_move rfl) ?_)
                refine gl_op (op_rd rfl (rd_lenSlice Try.underlying62 rfl) ?_)
                refine gl_op (op_rd rfl (rd_lss rfl rfl) (gk_dec (fun h62 => ?_) (fun h62 => ?_)))
                · skip
                  obtain ⟨x, hx⟩ := get_some (show j < gs.length by omega)
                  have hxin := hin x (List.mem_of_getElem? hx)
                  refine gl_op (op_rd rfl (rd_move rfl) ?_)
                  refine gl_yes rfl rfl (op_rd rfl (rd_move rfl) ?_)
                  refine gl_yes rfl rfl (op_rd rfl (rd_eql rfl rfl) ?_)
                  refine gl_op (op_rd rfl (rd_pick_t rfl rfl) ?_)
                  refine gl_nil ?_
                  refine gx_then ?_
                  refine gc_cond_t rfl ?_
                  refine gc_skip ?_
                  refine gx_then ?_
                  refine gc_seq ?_
                  refine gc_block ?_
                  refine gc_seq ?_
                  refine gc_region ?_
                  refine gl_op (op_rd rfl (rd_move rfl) ?_)
                  refine gl_op (op_rd rfl (rd_move rfl) ?_)
                  refine gl_op (op_rd rfl (rd_move rfl) ?_)
                  refine gl_op (op_rd rfl (rd_move rfl) ?_)
                  refine gl_op (op_rd rfl (rd_indexOld hsl Try.underlying62 ty_64 rfl rfl (by omega) (by omega)) ?_)
                  refine gl_op (op_rd rfl (rd_loadAgg Try.underlying64 rfl ty_64 rfl (cs_slN hsl (flat_drop_get FAct.cells 5 (fun _ => rfl) hx)) rfl) ?_)
                  refine gl_op (op_callM [0, 1, 2, 3, 4, 5] [] rfl (vf := []) (vc := []) rfl rfl Try.call29 (by decide) rfl (fun w how hc => play_ok f hf bf rb cb rp cp br rb2 cb2 rp2 cp2 _ w hc x ⟨hxin.wh, hxin.u, hxin.n, hxin.ps, slOut how hxin.sl [0, 1, 2, 3, 4, 5], hxin.len⟩ (by omega) (by omega)) ?_)
                  rintro _ _ ⟨rfl, f2, rpa, cpa, rpb, cpb, hf2, hpr2, her2, rfl⟩
                  refine gl_op (op_rd rfl (rd_not rfl) ?_)
                  refine gl_nil ?_
                  refine gx_then ?_
                  refine gc_cond_f rfl ?_
                  refine gc_skip ?_
                  refine gx_block ?_
                  refine gx_then ?_
                  refine gc_region ?_
                  refine gl_op (op_rd rfl (rd_move rfl) ?_)
                  refine gl_op (op_rd rfl (by first | exact rd_addN (b := 1) rfl rfl (by omega) | exact rd_add rfl rfl (by omega) (by omega)) ?_)
                  refine gl_op (op_rd rfl (rd_assign rfl) ?_)
                  refine gl_nil ?_
                  refine gx_then ?_
                  exact gx_cut ((j + 1, f2, rpa, cpa, rpb, cpb)) ⟨⟨by simp only; omega, hf2, by simp only; omega, by simp only; omega⟩, by simp only; omega⟩ ⟨rfl, rfl, rfl, rfl, rfl, trivial⟩ ⟨[0, 1, 2, 3, 4, 5], by decide, rfl⟩
                · skip
                  refine gl_op (op_rd rfl (rd_move rfl) ?_)
                  refine gl_no rfl rfl rfl ?_
                  refine gl_no rfl rfl rfl ?_
                  refine gl_op (op_rd rfl (rd_pick_f rfl rfl) ?_)
                  refine gl_nil ?_
                  refine gx_then ?_
                  refine gc_cond_f rfl ?_
                  refine gc_exit ?_
                  refine gx_then_exit ?_
                  refine gx_then_exit ?_
                  refine gx_block_exit ?_
                  refine gx_then ?_
                  refine gc_seq ?_
                  refine gc_region ?_
                  refine gl_op (op_rd rfl (rd_move rfl) ?_)
                  refine gl_op (op_rd rfl (rd_neq rfl rfl) ?_)
                  refine gl_op (op_rd rfl (rd_move rfl) ?_)
                  refine gl_yes rfl rfl (op_rd rfl (rd_move rfl) ?_)
                  refine gl_yes rfl rfl (op_rd rfl (rd_move rfl) ?_)
                  refine gl_yes rfl rfl (op_callM [0, 1, 2, 3, 4, 5] [] rfl (vf := []) (vc := []) rfl rfl Try.call30 (by decide) rfl (fun w how hc => same_ok f hf bf rb cb rp cp br rb2 cb2 rp2 cp2 _ w hc) ?_)
                  rintro _ _ ⟨rfl, rfl⟩
                  refine gl_op (op_rd rfl (rd_pick_f rfl rfl) ?_)
                  refine gl_op (op_rd rfl (rd_move rfl) ?_)
                  refine gl_yes rfl rfl (op_call rfl (vf := []) (vc := []) rfl rfl Try.call9 (fun w1 ho => shown_ok w1) ?_)
                  rintro _ _ ⟨rfl, rfl⟩
                  refine gl_op (op_rd rfl (rd_pick_t rfl rfl) ?_)
                  refine gl_op (op_rd rfl (rd_assign rfl) ?_)
                  refine gl_nil ?_
                  refine gx_then ?_
                  refine gc_ret ?_
                  refine gx_ret1 (.inl rfl) Try.results6 rfl [] (by decide) ?_
                  exact ⟨rfl, rfl⟩
          · skip
            refine gl_op (op_rd rfl (rd_pick_f rfl rfl) ?_)
            refine gl_nil ?_
            refine gx_then ?_
            refine gc_cond_f rfl ?_
            refine gc_skip ?_
            refine gx_then ?_
            refine gc_seq ?_
            refine gc_region ?_
            refine gl_op (op_rd rfl (rd_move rfl) ?_)
            refine gl_op (op_call rfl (vf := []) (vc := []) rfl rfl Try.call10 (fun w1 ho => New_bad n (by omega) w1) ?_)
            rintro _ _ ⟨rfl, rfl⟩
            refine gl_op (op_rd rfl (rd_move rfl) ?_)
            refine gl_op (op_rd rfl (rd_extract rfl rfl) ?_)
            refine gl_op (op_rd rfl (rd_extract rfl rfl) ?_)
            refine gl_op (op_rd rfl (rd_assign rfl) ?_)
            refine gl_op (op_rd rfl (rd_assign rfl) ?_)
            refine gl_nil ?_
            refine gx_then ?_
            refine gc_seq ?_
            refine gc_region ?_
            refine gl_op (op_rd rfl (rd_move rfl) ?_)
            refine gl_op (op_call rfl (vf := []) (vc := []) rfl rfl Try.call28 (fun w1 ho => rNew_bad n (by omega) w1) ?_)
            rintro _ _ ⟨rfl, rfl⟩
            refine gl_op (op_rd rfl (rd_move rfl) ?_)
            refine gl_op (op_rd rfl (rd_extract rfl rfl) ?_)
            refine gl_op (op_rd rfl (rd_extract rfl rfl) ?_)
            refine gl_op (op_rd rfl (rd_assign rfl) ?_)
            refine gl_op (op_rd rfl (rd_assign rfl) ?_)
            refine gl_nil ?_
            refine gx_then ?_
            refine gc_seq ?_
            refine gc_seq ?_
            refine gc_region ?_
            refine gl_op (op_rd rfl (rd_move rfl) ?_)
            refine gl_op (op_rd rfl (rd_move rfl) ?_)
            refine gl_op (op_rd rfl (rd_neq rfl rfl) (gk_dec (fun h51 => ?_) (fun h51 => ?_)))
            · skip
              exact absurd rfl h51
            · skip
              refine gl_op (op_rd rfl (rd_move rfl) ?_)
              refine gl_yes rfl rfl (op_rd rfl (rd_move rfl) ?_)
              refine gl_yes rfl rfl (op_rd rfl (rd_neqNilPt eg_25 Try.underlying25 rfl rfl) ?_)
              refine gl_yes rfl rfl (op_rd rfl (rd_move rfl) ?_)
              refine gl_yes rfl rfl (op_rd rfl (rd_eql rfl rfl) ?_)
              refine gl_yes rfl rfl (op_rd rfl (rd_neqb Try.runUnderlying4 rfl rfl) ?_)
              refine gk_bool (fun h57 => ?_) (fun h57 => ?_)
              · skip
                simp at h57
              · skip
                refine gl_op (op_rd rfl (rd_pick_f rfl rfl) ?_)
                refine gl_nil ?_
                refine gx_then ?_
                refine gc_cond_f rfl ?_
                refine gc_skip ?_
                refine gx_then ?_
                refine gc_seq ?_
                refine gc_seq ?_
                refine gc_region ?_
                refine gl_op (op_rd rfl (rd_assign rfl) ?_)
                refine gl_nil ?_
                refine gx_then ?_
                refine gc_block ?_
                refine gc_loopF (ι := Unit) [(1, _), (7, _), (8, _), (9, _)] [] (fun _ => True) (fun _ Fr0 => ((11, natV 0) :: Fr0)) (fun _ Fr0 => Fr0) (fun _ => 0) () (trivial) ⟨rfl, rfl, rfl, rfl, rfl, trivial⟩ ⟨[], by decide, rfl⟩ ?_
                rintro _ _
                refine gc_seq ?_
                refine gc_seq ?_
                refine gc_region ?_
                refine gl_op (op_rd rfl (rd_move rfl) ?_)
                refine gl_op (op_rd rfl (rd_move rfl) ?_)
                refine gl_op (op_rd rfl (rd_lenSlice Try.underlying62 rfl) ?_)
                refine gl_op (op_rd rfl (rd_lss rfl rfl) (gk_dec (fun h62 => ?_) (fun h62 => ?_)))
                · skip
                  refine gl_op (op_rd rfl (rd_move rfl) ?_)
                  refine gl_yes rfl rfl (op_rd rfl (rd_move rfl) ?_)
                  refine gl_yes rfl rfl (op_rd rfl (rd_eql rfl rfl) ?_)
                  refine gl_op (op_rd rfl (rd_pick_t rfl rfl) ?_)
                  refine gl_nil ?_
                  refine gx_then ?_
                  refine gc_cond_f rfl ?_
                  refine gc_exit ?_
                  refine gx_then_exit ?_
                  refine gx_then_exit ?_
                  refine gx_block_exit ?_
                  refine gx_then ?_
                  refine gc_seq ?_
                  refine gc_region ?_
                  refine gl_op (op_rd rfl (rd_move rfl) ?_)
                  refine gl_op (op_rd rfl (rd_neq rfl rfl) ?_)
                  refine gl_op (op_rd rfl (rd_move rfl) ?_)
                  refine gl_no rfl rfl rfl ?_
                  refine gl_no rfl rfl rfl ?_
                  refine gl_no rfl rfl rfl ?_
                  refine gl_op (op_rd rfl (rd_pick_t rfl rfl) ?_)
                  refine gl_op (op_rd rfl (rd_move rfl) ?_)
                  refine gl_yes rfl rfl (op_call rfl (vf := []) (vc := []) rfl rfl Try.call9 (fun w1 ho => shown_ok w1) ?_)
                  rintro _ _ ⟨rfl, rfl⟩
                  refine gl_op (op_rd rfl (rd_pick_t rfl rfl) ?_)
                  refine gl_op (op_rd rfl (rd_assign rfl) ?_)
                  refine gl_nil ?_
                  refine gx_then ?_
                  refine gc_ret ?_
                  refine gx_ret1 (.inl rfl) Try.results6 rfl [] (by decide) ?_
                  exact ⟨rfl, rfl⟩
                · skip
                  refine gl_op (op_rd rfl (rd_move rfl) ?_)
                  refine gl_no rfl rfl rfl ?_
                  refine gl_no rfl rfl rfl ?_
                  refine gl_op (op_rd rfl (rd_pick_f rfl rfl) ?_)
                  refine gl_nil ?_
                  refine gx_then ?_
                  refine gc_cond_f rfl ?_
                  refine gc_exit ?_
                  refine gx_then_exit ?_
                  refine gx_then_exit ?_
                  refine gx_block_exit ?_
                  refine gx_then ?_
                  refine gc_seq ?_
                  refine gc_region ?_
                  refine gl_op (op_rd rfl (rd_move rfl) ?_)
                  refine gl_op (op_rd rfl (rd_neq rfl rfl) ?_)
                  refine gl_op (op_rd rfl (rd_move rfl) ?_)
                  refine gl_no rfl rfl rfl ?_
                  refine gl_no rfl rfl rfl ?_
                  refine gl_no rfl rfl rfl ?_
                  refine gl_op (op_rd rfl (rd_pick_t rfl rfl) ?_)
                  refine gl_op (op_rd rfl (rd_move rfl) ?_)
                  refine gl_yes rfl rfl (op_call rfl (vf := []) (vc := []) rfl rfl Try.call9 (fun w1 ho => shown_ok w1) ?_)
                  rintro _ _ ⟨rfl, rfl⟩
                  refine gl_op (op_rd rfl (rd_pick_t rfl rfl) ?_)
                  refine gl_op (op_rd rfl (rd_assign rfl) ?_)
                  refine gl_nil ?_
                  refine gx_then ?_
                  refine gc_ret ?_
                  refine gx_ret1 (.inl rfl) Try.results6 rfl [] (by decide) ?_
                  exact ⟨rfl, rfl⟩
  · skip
    refine gl_op (op_rd rfl (rd_move rfl) ?_)
    refine gl_no rfl rfl rfl ?_
    refine gl_no rfl rfl rfl ?_
    refine gl_op (op_rd rfl (rd_pick_f rfl rfl) ?_)
    refine gl_nil ?_
    refine gx_then ?_
    refine gc_cond_f rfl ?_
    refine gc_exit ?_
    refine gx_then_exit ?_
    refine gx_then_exit ?_
    refine gx_block_exit ?_
    refine gx_then ?_
    refine gc_seq ?_
    refine gc_seq ?_
    refine gc_region ?_
    refine gl_op (op_rd rfl (rd_move rfl) ?_)
    refine gl_op (op_rd rfl (rd_lenSlice Try.underlying62 rfl) ?_)
    refine gl_op (op_rd rfl (rd_gtr rfl rfl) (gk_dec (fun h33 => ?_) (fun h33 => ?_)))
    · skip
      refine gl_op (op_rd rfl (rd_move rfl) ?_)
      refine gl_no rfl rfl rfl ?_
      refine gl_no rfl rfl rfl ?_
      refine gl_op (op_rd rfl (rd_pick_t rfl rfl) ?_)
      refine gl_nil ?_
      refine gx_then ?_
      refine gc_cond_t rfl ?_
      refine gc_seq ?_
      refine gc_region ?_
      refine gl_op (op_call rfl (vf := []) (vc := []) rfl rfl Try.call9 (fun w1 ho => shown_ok w1) ?_)
      rintro _ _ ⟨rfl, rfl⟩
      refine gl_op (op_rd rfl (rd_assign rfl) ?_)
      refine gl_nil ?_
      refine gx_then ?_
      refine gc_ret ?_
      refine gx_then_ret ?_
      refine gx_ret1 (.inl rfl) Try.results6 rfl [] (by decide) ?_
      exact ⟨rfl, rfl⟩
    · skip
      refine gl_op (op_rd rfl (rd_move rfl) ?_)
      refine gl_yes rfl rfl (op_rd rfl (rd_move rfl) ?_)
      refine gl_yes rfl rfl (op_rd rfl (rd_gtr rfl rfl) (gk_dec (fun h36 => ?_) (fun h36 => ?_)))
      · skip
        refine gl_op (op_rd rfl (rd_pick_f rfl rfl) ?_)
        refine gl_nil ?_
        refine gx_then ?_
        refine gc_cond_t rfl ?_
        refine gc_seq ?_
        refine gc_region ?_
        refine gl_op (op_call rfl (vf := []) (vc := []) rfl rfl Try.call9 (fun w1 ho => shown_ok w1) ?_)
        rintro _ _ ⟨rfl, rfl⟩
        refine gl_op (op_rd rfl (rd_assign rfl) ?_)
        refine gl_nil ?_
        refine gx_then ?_
        refine gc_ret ?_
        refine gx_then_ret ?_
        refine gx_ret1 (.inl rfl) Try.results6 rfl [] (by decide) ?_
        exact ⟨rfl, rfl⟩
      · skip
        by_cases hn : 4 ≤ n ∧ n ≤ 64
        · skip
          refine gl_op (op_rd rfl (rd_pick_f rfl rfl) ?_)
          refine gl_nil ?_
          refine gx_then ?_
          refine gc_cond_f rfl ?_
          refine gc_skip ?_
          refine gx_then ?_
          refine gc_seq ?_
          obtain ⟨n, rfl⟩ : ∃ m : Nat, n = m := ⟨n.toNat, by omega⟩
          refine gc_region ?_
          refine gl_op (op_rd rfl (rd_move rfl) ?_)
          refine gl_op (op_call rfl (vf := []) (vc := []) rfl rfl Try.call10 (fun w1 ho => New_ok n (by omega) (by omega) w1) ?_)
          rintro _ _ ⟨bf, rb, cb, rfl, rfl⟩
          refine gl_op (op_rd rfl (rd_move rfl) ?_)
          refine gl_op (op_rd rfl (rd_extract rfl rfl) ?_)
          refine gl_op (op_rd rfl (rd_extract rfl rfl) ?_)
          refine gl_op (op_rd rfl (rd_assign rfl) ?_)
          refine gl_op (op_rd rfl (rd_assign rfl) ?_)
          refine gl_nil ?_
          refine gx_then ?_
          refine gc_seq ?_
          refine gc_region ?_
          refine gl_op (op_rd rfl (rd_move rfl) ?_)
          refine gl_op (op_call rfl (vf := []) (vc := []) rfl rfl Try.call28 (fun w1 ho => rNew_ok n (by omega) (by omega) w1) ?_)
          rintro _ _ ⟨br, rb2, cb2, rfl, rfl⟩
          refine gl_op (op_rd rfl (rd_move rfl) ?_)
          refine gl_op (op_rd rfl (rd_extract rfl rfl) ?_)
          refine gl_op (op_rd rfl (rd_extract rfl rfl) ?_)
          refine gl_op (op_rd rfl (rd_assign rfl) ?_)
          refine gl_op (op_rd rfl (rd_assign rfl) ?_)
          refine gl_nil ?_
          refine gx_then ?_
          refine gc_seq ?_
          refine gc_seq ?_
          refine gc_region ?_
          refine gl_op (op_rd rfl (rd_move rfl) ?_)
          refine gl_op (op_rd rfl (rd_move rfl) ?_)
          refine gl_op (op_rd rfl (rd_neq rfl rfl) (gk_dec (fun h51 => ?_) (fun h51 => ?_)))
          · skip
            exact absurd rfl h51
          · skip
            refine gl_op (op_rd rfl (rd_move rfl) ?_)
            refine gl_yes rfl rfl (op_rd rfl (rd_move rfl) ?_)
            refine gl_yes rfl rfl (op_rd rfl (rd_neqNilPt eg_25 Try.underlying25 rfl rfl) ?_)
            refine gl_yes rfl rfl (op_rd rfl (rd_move rfl) ?_)
            refine gl_yes rfl rfl (op_rd rfl (rd_eql rfl rfl) ?_)
            refine gl_yes rfl rfl (op_rd rfl (rd_neqb Try.runUnderlying4 rfl rfl) ?_)
            refine gk_bool (fun h57 => ?_) (fun h57 => ?_)
            · skip
              simp at h57
            · skip
              refine gl_op (op_rd rfl (rd_pick_f rfl rfl) ?_)
              refine gl_nil ?_
              refine gx_then ?_
              refine gc_cond_f rfl ?_
              refine gc_skip ?_
              refine gx_then ?_
              refine gc_seq ?_
              refine gc_seq ?_
              refine gc_region ?_
              refine gl_op (op_rd rfl (rd_assign rfl) ?_)
              refine gl_nil ?_
              refine gx_then ?_
              refine gc_block ?_
              refine gc_loopF (ι := Nat × Fl × Option Nat × Nat × Option Nat × Nat) [(1, _), (7, _), (8, _), (9, _)] [] (fun j => j.1 ≤ gs.length ∧ j.2.1.Ok ∧ j.2.1.pr ≤ j.1 ∧ j.2.1.er ≤ j.1) (fun j Fr0 => ((11, natV j.1) :: Fr0)) (fun j Fr0 => (.blk bf (j.2.1.cells rb cb j.2.2.1 j.2.2.2.1) 72 :: .row 5 1 rb j.2.1.b.length cb (j.2.1.b.map u8V) :: .row 5 1 j.2.2.1 j.2.1.picks.length j.2.2.2.1 (j.2.1.picks.map u8V) :: .blk br (j.2.1.rcells rb2 cb2 j.2.2.2.2.1 j.2.2.2.2.2) 110 :: .row 5 1 rb2 j.2.1.b.length cb2 (j.2.1.b.map u8V) :: .row 5 1 j.2.2.2.2.1 j.2.1.picks.length j.2.2.2.2.2 (j.2.1.picks.map u8V) :: Fr0)) (fun j => gs.length - j.1) (0, flNew (List.replicate (256 * n) 255), none, 0, none, 0) (⟨Nat.zero_le _, (new_fresh (by omega) (by omega)).1, Nat.zero_le _, Nat.zero_le _⟩) ⟨rfl, rfl, rfl, rfl, rfl, trivial⟩ ⟨[3, 4, 5, 0, 1, 2], by decide, rfl⟩ ?_
              rintro ⟨j, f, rp, cp, rp2, cp2⟩ ⟨hj, hf, hpr, her⟩
              simp only at hj hf hpr her ⊢
              refine gc_seq ?_
              refine gc_seq ?_
              refine gc_region ?_
              refine gl_op (op_rd rfl (rd_move rfl) ?_)
              refine gl_op (op_rd rfl (rd_move rfl) ?_)
              refine gl_op (op_rd rfl (rd_lenSlice Try.underlying62 rfl) ?_)
              refine gl_op (op_rd rfl (rd_lss rfl rfl) (gk_dec (fun h62 => ?_) (fun h62 => ?_)))
              · skip
                obtain ⟨x, hx⟩ := get_some (show j < gs.length by omega)
                have hxin := hin x (List.mem_of_getElem? hx)
                refine gl_op (op_rd rfl (rd_move rfl) ?_)
                refine gl_yes rfl rfl (op_rd rfl (rd_move rfl) ?_)
                refine gl_yes rfl rfl (op_rd rfl (rd_eql rfl rfl) ?_)
                refine gl_op (op_rd rfl (rd_pick_t rfl rfl) ?_)
                refine gl_nil ?_
                refine gx_then ?_
                refine gc_cond_t rfl ?_
                refine gc_skip ?_
                refine gx_then ?_
                refine gc_seq ?_
                refine gc_block ?_
                refine gc_seq ?_
                refine gc_region ?_
                refine gl_op (op_rd rfl (rd_move rfl) ?_)
                refine gl_op (op_rd rfl (rd_move rfl) ?_)
                refine gl_op (op_rd rfl (rd_move rfl) ?_)
                refine gl_op (op_rd rfl (rd_move rfl) ?_)
                refine gl_op (op_rd rfl (rd_indexOld hsl Try.underlying62 ty_64 rfl rfl (by omega) (by omega)) ?_)
                refine gl_op (op_rd rfl (rd_loadAgg Try.underlying64 rfl ty_64 rfl (cs_slN hsl (flat_drop_get FAct.cells 5 (fun _ => rfl) hx)) rfl) ?_)
                refine gl_op (op_callM [0, 1, 2, 3, 4, 5] [] rfl (vf := []) (vc := []) rfl rfl Try.call29 (by decide) rfl (fun w how hc => play_ok f hf bf rb cb rp cp br rb2 cb2 rp2 cp2 _ w hc x ⟨hxin.wh, hxin.u, hxin.n, hxin.ps, slOut how hxin.sl [0, 1, 2, 3, 4, 5], hxin.len⟩ (by omega) (by omega)) ?_)
                rintro _ _ ⟨rfl, f2, rpa, cpa, rpb, cpb, hf2, hpr2, her2, rfl⟩
                refine gl_op (op_rd rfl (rd_not rfl) ?_)
                refine gl_nil ?_
                refine gx_then ?_
                refine gc_cond_f rfl ?_
                refine gc_skip ?_
                refine gx_block ?_
                refine gx_then ?_
                refine gc_region ?_
                refine gl_op (op_rd rfl (rd_move rfl) ?_)
                refine gl_op (op_rd rfl (by first | exact rd_addN (b := 1) rfl rfl (by omega) | exact rd_add rfl rfl (by omega) (by omega)) ?_)
                refine gl_op (op_rd rfl (rd_assign rfl) ?_)
                refine gl_nil ?_
                refine gx_then ?_
                exact gx_cut ((j + 1, f2, rpa, cpa, rpb, cpb)) ⟨⟨by simp only; omega, hf2, by simp only; omega, by simp only; omega⟩, by simp only; omega⟩ ⟨rfl, rfl, rfl, rfl, rfl, trivial⟩ ⟨[0, 1, 2, 3, 4, 5], by decide, rfl⟩
              · skip
                refine gl_op (op_rd rfl (rd_move rfl) ?_)
                refine gl_no rfl rfl rfl ?_
                refine gl_no rfl rfl rfl ?_
                refine gl_op (op_rd rfl (rd_pick_f rfl rfl) ?_)
                refine gl_nil ?_
                refine gx_then ?_
                refine gc_cond_f rfl ?_
                refine gc_exit ?_
                refine gx_then_exit ?_
                refine gx_then_exit ?_
                refine gx_block_exit ?_
                refine gx_then ?_
                refine gc_seq ?_
                refine gc_region ?_
                refine gl_op (op_rd rfl (rd_move rfl) ?_)
                refine gl_op (op_rd rfl (rd_neq rfl rfl) ?_)
                refine gl_op (op_rd rfl (rd_move rfl) ?_)
                refine gl_yes rfl rfl (op_rd rfl (rd_move rfl) ?_)
                refine gl_yes rfl rfl (op_rd rfl (rd_move rfl) ?_)
                refine gl_yes rfl rfl (op_callM [0, 1, 2, 3, 4, 5] [] rfl (vf := []) (vc := []) rfl rfl Try.call30 (by decide) rfl (fun w how hc => same_ok f hf bf rb cb rp cp br rb2 cb2 rp2 cp2 _ w hc) ?_)
                rintro _ _ ⟨rfl, rfl⟩
                refine gl_op (op_rd rfl (rd_pick_f rfl rfl) ?_)
                refine gl_op (op_rd rfl (rd_move rfl) ?_)
                refine gl_yes rfl rfl (op_call rfl (vf := []) (vc := []) rfl rfl Try.call9 (fun w1 ho => shown_ok w1) ?_)
                rintro _ _ ⟨rfl, rfl⟩
                refine gl_op (op_rd rfl (rd_pick_t rfl rfl) ?_)
                refine gl_op (op_rd rfl (rd_assign rfl) ?_)
                refine gl_nil ?_
                refine gx_then ?_
                refine gc_ret ?_
                refine gx_ret1 (.inl rfl) Try.results6 rfl [] (by decide) ?_
                exact ⟨rfl, rfl⟩
        · skip
          refine gl_op (op_rd rfl (rd_pick_f rfl rfl) ?_)
          refine gl_nil ?_
          refine gx_then ?_
          refine gc_cond_f rfl ?_
          refine gc_skip ?_
          refine gx_then ?_
          refine gc_seq ?_
          refine gc_region ?_
          refine gl_op (op_rd rfl (rd_move rfl) ?_)
          refine gl_op (op_call rfl (vf := []) (vc := []) rfl rfl Try.call10 (fun w1 ho => New_bad n (by omega) w1) ?_)
          rintro _ _ ⟨rfl, rfl⟩
          refine gl_op (op_rd rfl (rd_move rfl) ?_)
          refine gl_op (op_rd rfl (rd_extract rfl rfl) ?_)
          refine gl_op (op_rd rfl (rd_extract rfl rfl) ?_)
          refine gl_op (op_rd rfl (rd_assign rfl) ?_)
          refine gl_op (op_rd rfl (rd_assign rfl) ?_)
          refine gl_nil ?_
          refine gx_then ?_
          refine gc_seq ?_
          refine gc_region ?_
          refine gl_op (op_rd rfl (rd_move rfl) ?_)
          refine gl_op (op_call rfl (vf := []) (vc := []) rfl rfl Try.call28 (fun w1 ho => rNew_bad n (by omega) w1) ?_)
          rintro _ _ ⟨rfl, rfl⟩
          refine gl_op (op_rd rfl (rd_move rfl) ?_)
          refine gl_op (op_rd rfl (rd_extract rfl rfl) ?_)
          refine gl_op (op_rd rfl (rd_extract rfl rfl) ?_)
          refine gl_op (op_rd rfl (rd_assign rfl) ?_)
          refine gl_op (op_rd rfl (rd_assign rfl) ?_)
          refine gl_nil ?_
          refine gx_then ?_
          refine gc_seq ?_
          refine gc_seq ?_
          refine gc_region ?_
          refine gl_op (op_rd rfl (rd_move rfl) ?_)
          refine gl_op (op_rd rfl (rd_move rfl) ?_)
          refine gl_op (op_rd rfl (rd_neq rfl rfl) (gk_dec (fun h51 => ?_) (fun h51 => ?_)))
          · skip
            exact absurd rfl h51
          · skip
            refine gl_op (op_rd rfl (rd_move rfl) ?_)
            refine gl_yes rfl rfl (op_rd rfl (rd_move rfl) ?_)
            refine gl_yes rfl rfl (op_rd rfl (rd_neqNilPt eg_25 Try.underlying25 rfl rfl) ?_)
            refine gl_yes rfl rfl (op_rd rfl (rd_move rfl) ?_)
            refine gl_yes rfl rfl (op_rd rfl (rd_eql rfl rfl) ?_)
            refine gl_yes rfl rfl (op_rd rfl (rd_neqb Try.runUnderlying4 rfl rfl) ?_)
            refine gk_bool (fun h57 => ?_) (fun h57 => ?_)
            · skip
              simp at h57
            · skip
              refine gl_op (op_rd rfl (rd_pick_f rfl rfl) ?_)
              refine gl_nil ?_
              refine gx_then ?_
              refine gc_cond_f rfl ?_
              refine gc_skip ?_
              refine gx_then ?_
              refine gc_seq ?_
              refine gc_seq ?_
              refine gc_region ?_
              refine gl_op (op_rd rfl (rd_assign rfl) ?_)
              refine gl_nil ?_
              refine gx_then ?_
              refine gc_block ?_
              refine gc_loopF (ι := Unit) [(1, _), (7, _), (8, _), (9, _)] [] (fun _ => True) (fun _ Fr0 => ((11, natV 0) :: Fr0)) (fun _ Fr0 => Fr0) (fun _ => 0) () (trivial) ⟨rfl, rfl, rfl, rfl, rfl, trivial⟩ ⟨[], by decide, rfl⟩ ?_
              rintro _ _
              refine gc_seq ?_
              refine gc_seq ?_
              refine gc_region ?_
              refine gl_op (op_rd rfl (rd_move rfl) ?_)
              refine gl_op (op_rd rfl (rd_move rfl) ?_)
              refine gl_op (op_rd rfl (rd_lenSlice Try.underlying62 rfl) ?_)
              refine gl_op (op_rd rfl (rd_lss rfl rfl) (gk_dec (fun h62 => ?_) (fun h62 => ?_)))
              · skip
                refine gl_op (op_rd rfl (rd_move rfl) ?_)
                refine gl_yes rfl rfl (op_rd rfl (rd_move rfl) ?_)
                refine gl_yes rfl rfl (op_rd rfl (rd_eql rfl rfl) ?_)
                refine gl_op (op_rd rfl (rd_pick_t rfl rfl) ?_)
                refine gl_nil ?_
                refine gx_then ?_
                refine gc_cond_f rfl ?_
                refine gc_exit ?_
                refine gx_then_exit ?_
                refine gx_then_exit ?_
                refine gx_block_exit ?_
                refine gx_then ?_
                refine gc_seq ?_
                refine gc_region ?_
                refine gl_op (op_rd rfl (rd_move rfl) ?_)
                refine gl_op (op_rd rfl (rd_neq rfl rfl) ?_)
                refine gl_op (op_rd rfl (rd_move rfl) ?_)
                refine gl_no rfl rfl rfl ?_
                refine gl_no rfl rfl rfl ?_
                refine gl_no rfl rfl rfl ?_
                refine gl_op (op_rd rfl (rd_pick_t rfl rfl) ?_)
                refine gl_op (op_rd rfl (rd_move rfl) ?_)
                refine gl_yes rfl rfl (op_call rfl (vf := []) (vc := []) rfl rfl Try.call9 (fun w1 ho => shown_ok w1) ?_)
                rintro _ _ ⟨rfl, rfl⟩
                refine gl_op (op_rd rfl (rd_pick_t rfl rfl) ?_)
                refine gl_op (op_rd rfl (rd_assign rfl) ?_)
                refine gl_nil ?_
                refine gx_then ?_
                refine gc_ret ?_
                refine gx_ret1 (.inl rfl) Try.results6 rfl [] (by decide) ?_
                exact ⟨rfl, rfl⟩
              · skip
                refine gl_op (op_rd rfl (rd_move rfl) ?_)
                refine gl_no rfl rfl rfl ?_
                refine gl_no rfl rfl rfl ?_
                refine gl_op (op_rd rfl (rd_pick_f rfl rfl) ?_)
                refine gl_nil ?_
                refine gx_then ?_
                refine gc_cond_f rfl ?_
                refine gc_exit ?_
                refine gx_then_exit ?_
                refine gx_then_exit ?_
                refine gx_block_exit ?_
                refine gx_then ?_
                refine gc_seq ?_
                refine gc_region ?_
                refine gl_op (op_rd rfl (rd_move rfl) ?_)
                refine gl_op (op_rd rfl (rd_neq rfl rfl) ?_)
                refine gl_op (op_rd rfl (rd_move rfl) ?_)
                refine gl_no rfl rfl rfl ?_
                refine gl_no rfl rfl rfl ?_
                refine gl_no rfl rfl rfl ?_
                refine gl_op (op_rd rfl (rd_pick_t rfl rfl) ?_)
                refine gl_op (op_rd rfl (rd_move rfl) ?_)
                refine gl_yes rfl rfl (op_call rfl (vf := []) (vc := []) rfl rfl Try.call9 (fun w1 ho => shown_ok w1) ?_)
                rintro _ _ ⟨rfl, rfl⟩
                refine gl_op (op_rd rfl (rd_pick_t rfl rfl) ?_)
                refine gl_op (op_rd rfl (rd_assign rfl) ?_)
                refine gl_nil ?_
                refine gx_then ?_
                refine gc_ret ?_
                refine gx_ret1 (.inl rfl) Try.results6 rfl [] (by decide) ?_
                exact ⟨rfl, rfl⟩

end Go.Proofs.Ythcbcdjkfefnlaa

set_option autoImplicit false
set_option linter.unusedVariables false
namespace Go.Proofs.Ythcbcdjkfefnlaa
open Go.Gv
open Go.RowKit Go.Deep Go.ChangeShapes Go.WideShapes
namespace Iv
section
variable {H : Type} {enc : TypeId × Value → H} {W : World} {base : Nat} {sp : Nat → Bool} {held : Bool}
theorem cells_at {a : Addr} {n : Nat} {cs : List Value} (h : W.cells? base a n = some cs) : cs.length = n ∧ ∀ i v, cs[i]? = some v → W.cell? (a.add i) = some v := by
  obtain ⟨_, h1, h2⟩ := World.cells?_some h
  refine ⟨h1, fun i v hv => ?_⟩
  have hi := (List.getElem?_eq_some_iff.1 hv).1
  rw [h2 i (by omega)]; exact hv
theorem len5 {cs : List Value} (h : cs.length = 5) : ∃ u v q r s, cs = [u, v, q, r, s] := by
  match cs, h with
  | [u, v, q, r, s], _ => exact ⟨u, v, q, r, s, rfl⟩
theorem weightsAll_mem {P : Program} {e : TypeId} : ∀ {l : List (DataW H)} {d : DataW H}, d ∈ l → ∀ b ∈ d.weights P e, b ∈ DataW.weightsAll P e l
  | y :: l, d, hd, b, hb => by
    rw [DataW.weightsAll]
    rcases List.mem_cons.1 hd with rfl | hd
    · exact List.mem_append_left _ hb
    · exact List.mem_append_right _ (weightsAll_mem hd b hb)
  | [], d, hd, _, _ => by cases hd
/-- a slice of structs, each with what it points to -/
theorem openSlW {α : Type} [Inhabited α] (f : α → List Value) (G : α → Prop) (sz T E bb : Nat) (hf : ∀ x, (f x).length = sz) (hsz : 0 < sz) (hu : Try.prog.underlying T = some (.slice E)) (hc : Try.prog.cellsOf E = sz) (hB : Try.prog.bytesOf E = bb) (hbb : 8 ≤ bb) (hel : ∀ (n : Nat) (cs : List Value) (x : DataW H × List MemPlace), DataW.trod enc Try.prog W base sp held n E cs = some x → (∀ b ∈ x.1.weights Try.prog E, b ≤ reachBytes) → ∃ g : α, cs = f g ∧ G g) {n : Nat} {cs : List Value} {x : DataW H × List MemPlace} (h : DataW.trod enc Try.prog W base sp held n T cs = some x) (hw : ∀ b ∈ x.1.weights Try.prog T, b ≤ reachBytes) :
    ∃ (a : Option Addr) (gs : List α) (cp : Nat), cs = [.slice a gs.length cp] ∧ OldSl W [] a gs.length sz (gs.flatMap f) ∧ gs.length ≤ 140737488355328 ∧ ∀ g ∈ gs, G g := by
  rcases open_slice hu h with ⟨rfl, rfl⟩ | ⟨a, len, cap, m, k, D, Pl, rfl, hb, hl, hm, hmm, rfl, hx⟩
  · exact ⟨none, [], 0, rfl, ⟨by simp, fun h => absurd h (Nat.lt_irrefl 0), fun j v hv => by simp at hv, fun h => absurd h (Nat.lt_irrefl 0)⟩, Nat.zero_le _, by simp⟩
  · have hml : len ≤ m := by rw [hmm]; split <;> omega
    rw [hc] at hx
    have hwt : ∀ b ∈ DataW.weights Try.prog T (.slice ((List.range len).map D) ((List.range (m - len)).map fun j => D (len + j))), b ≤ reachBytes := hw
    rw [DataW.weights] at hwt
    simp only [hu] at hwt
    have hwD : ∀ i, i < len → ∀ b ∈ (D i).weights Try.prog E, b ≤ reachBytes := fun i hi b hb =>
      hwt b (List.mem_cons_of_mem _ (List.mem_append_left _ (weightsAll_mem (List.mem_map.2 ⟨i, List.mem_range.2 hi, rfl⟩) b hb)))
    have hone : ∀ i, i < len → ∃ g : α, (∀ j v, (f g)[j]? = some v → W.cell? ((a.add (i * sz)).add j) = some v) ∧ G g := fun i hi => by
      obtain ⟨cs', h1, h2⟩ := hx i (by omega)
      obtain ⟨g, rfl, h3⟩ := hel _ _ _ h2 (hwD i hi)
      exact ⟨g, (cells_at h1).2, h3⟩
    obtain ⟨g, hg⟩ := choose_lt (α := α) (p := fun i g => (∀ j v, (f g)[j]? = some v → W.cell? ((a.add (i * sz)).add j) = some v) ∧ G g) hone
    refine ⟨some a, (List.range len).map g, cap, by simp, ⟨by rw [flat_len f sz hf], fun _ => rfl, fun j v hv => ?_, fun _ => by simp⟩, ?_, fun q hq => ?_⟩
    · have hj : j < ((List.range len).map g).length * sz := by
        have := (List.getElem?_eq_some_iff.1 hv).1
        rwa [flat_len f sz hf] at this
      simp only [List.length_map, List.length_range] at hj
      have hi : j / sz < len := Nat.div_lt_of_lt_mul (by rw [Nat.mul_comm]; exact hj)
      have e : j = j / sz * sz + j % sz := (Nat.div_add_mod' j sz).symm
      have hget : ((List.range len).map g)[j / sz]? = some (g (j / sz)) := by simp [hi]
      have hv2 : (f (g (j / sz)))[j % sz]? = some v := by
        have hlt : j % sz < (f (g (j / sz))).length := by rw [hf]; exact Nat.mod_lt _ hsz
        have h5 := get_flat f sz hf hget (j := j % sz) (Nat.mod_lt _ hsz) (List.getElem?_eq_getElem hlt)
        rw [← e, hv] at h5
        rw [List.getElem?_eq_getElem hlt]
        exact h5.symm
      have := (hg (j / sz) hi).1 (j % sz) v hv2
      rw [Gv.add_add, ← e] at this
      exact this
    · have := hwt _ List.mem_cons_self
      simp only [List.length_map, List.length_range] at this ⊢
      rw [hB] at this
      have := reachBytes_lt
      have h9 : (len + (m - len)) * 8 ≤ (len + (m - len)) * bb := Nat.mul_le_mul_left _ hbb
      omega
    · obtain ⟨i, hi, rfl⟩ := List.mem_map.1 hq
      exact (hg i (List.mem_range.1 hi)).2
theorem bounds_u8' {k : Int} (h : (Lit.int .u8 k).wf = true) : 0 ≤ k ∧ k < 256 := by
  simp only [Lit.wf, Bool.and_eq_true, decide_eq_true_eq] at h
  have e1 : IntKind.u8.min = 0 := rfl
  have e2 : IntKind.u8.max = 255 := rfl
  omega
theorem trod_struct5 {t : TypeId} {P : Program} {w : World} {spare : Nat → Bool} {f0 f1 f2 f3 f4 : Field} {fuel : Nat} {cs : List Value} {x : DataW H × List MemPlace} (ht : P.underlying t = some (.struct #[f0, f1, f2, f3, f4])) (h : DataW.trod enc P w base spare held fuel t cs = some x) :
    ∃ y0 y1 y2 y3 y4 n, x = (.agg [y0.1, y1.1, y2.1, y3.1, y4.1], y0.2 ++ (y1.2 ++ (y2.2 ++ (y3.2 ++ y4.2)))) ∧ cs.length = P.cellsOf t ∧ DataW.trod enc P w base spare held n f0.type ((cs.drop f0.offset).take (P.cellsOf f0.type)) = some y0 ∧
      DataW.trod enc P w base spare held n f1.type ((cs.drop f1.offset).take (P.cellsOf f1.type)) = some y1 ∧ DataW.trod enc P w base spare held n f2.type ((cs.drop f2.offset).take (P.cellsOf f2.type)) = some y2 ∧
      DataW.trod enc P w base spare held n f3.type ((cs.drop f3.offset).take (P.cellsOf f3.type)) = some y3 ∧ DataW.trod enc P w base spare held n f4.type ((cs.drop f4.offset).take (P.cellsOf f4.type)) = some y4 := by
  obtain ⟨xs, n, _, rfl, hl, hlen, hf⟩ := DataW.trod_struct ht h
  match xs, hlen with
  | [y0, y1, y2, y3, y4], _ => exact ⟨y0, y1, y2, y3, y4, n, by simp, hl, by simpa using hf 0 f0 rfl, by simpa using hf 1 f1 rfl, by simpa using hf 2 f2 rfl, by simpa using hf 3 f3 rfl, by simpa using hf 4 f4 rfl⟩
theorem openAct {n : Nat} {cs : List Value} {x : DataW H × List MemPlace} (h : DataW.trod enc Try.prog W base sp held n 64 cs = some x) (hw : ∀ b ∈ x.1.weights Try.prog 64, b ≤ reachBytes) : ∃ c : FAct, cs = c.cells ∧ c.In W [] := by
  obtain ⟨y0, y1, y2, y3, y4, k, rfl, hl, h0, h1, h2, h3, h4⟩ := trod_struct5 Try.underlying64 h
  have e64 : Try.prog.cellsOf 64 = 5 := by kernel_rfl
  have e3 : Try.prog.cellsOf 3 = 1 := by kernel_rfl
  have e5 : Try.prog.cellsOf 5 = 1 := by kernel_rfl
  have e36 : Try.prog.cellsOf 36 = 1 := by kernel_rfl
  rw [e64] at hl
  have hw' : ∀ b ∈ DataW.weightsEach Try.prog [5, 3, 5, 3, 36] [y0.1, y1.1, y2.1, y3.1, y4.1], b ≤ reachBytes := fun b hb => hw b (by
    rw [DataW.weights]
    simp only [Try.underlying64]
    exact hb)
  simp only [DataW.weightsEach, List.append_nil] at hw'
  obtain ⟨u, v, q, r, s, rfl⟩ := len5 hl
  simp only [e3, e5, e36, List.drop_zero, List.take_succ_cons, List.take_zero, List.drop_succ_cons] at h0 h1 h2 h3 h4
  obtain ⟨z0, t0, _, w0⟩ := DataW.trod_int Try.underlying5 h0
  obtain ⟨z1, t1, _, w1⟩ := DataW.trod_int Try.underlying3 h1
  obtain ⟨z2, t2, _, w2⟩ := DataW.trod_int Try.underlying5 h2
  obtain ⟨z3, t3, _, w3⟩ := DataW.trod_int Try.underlying3 h3
  obtain ⟨a, zs, cp, e4, o1, o2, o3⟩ := openU8 h4 (fun b hb => hw' b (by simp only [List.mem_append]; exact .inr (.inr (.inr (.inr hb)))))
  simp only [List.cons.injEq, and_true] at t0 t1 t2 t3 e4
  have b0 := bounds_u8' w0
  have b2 := bounds_u8' w2
  have b3 := bounds_i64 w3
  refine ⟨⟨z0.toNat, z1, z2.toNat, z3, a, cp, zs⟩, ?_, ⟨by simp only; omega, by simp only; omega, by simp only; omega, o3, o1, o2⟩⟩
  rw [t0, t1, t2, t3, e4]
  simp only [FAct.cells, Int.toNat_of_nonneg b0.1, Int.toNat_of_nonneg b2.1]
theorem openActs {n : Nat} {cs : List Value} {x : DataW H × List MemPlace} (h : DataW.trod enc Try.prog W base sp held n 62 cs = some x) (hw : ∀ b ∈ x.1.weights Try.prog 62, b ≤ reachBytes) :
    ∃ (a : Option Addr) (gs : List FAct) (cp : Nat), cs = [.slice a gs.length cp] ∧ OldSl W [] a gs.length 5 (gs.flatMap FAct.cells) ∧ gs.length ≤ 140737488355328 ∧ ∀ g ∈ gs, g.In W [] :=
  openSlW FAct.cells (fun g => g.In W []) 5 62 64 56 (fun _ => rfl) (by decide) Try.underlying62 (by kernel_rfl) (by kernel_rfl) (by decide) (fun n cs x h hw => openAct h hw) h hw
end
end Iv
end Go.Proofs.Ythcbcdjkfefnlaa

set_option autoImplicit false
set_option linter.unusedVariables false
namespace Go.Proofs.Ythcbcdjkfefnlaa
open Go.Gv
open Go.RowKit Go.ChangeShapes Go.WideShapes
open Iv
set_option maxHeartbeats 1000000 in
set_option maxRecDepth 100000 in
theorem storeFlash_lifted (os : Os) (started : os.Started) (H : Type) (enc : TypeId × Value → H) :
    ReturnsInHanded {} Try.checked os 6 .any (Rows.storeFlashSpec.pre6 enc Try.prog Try.f6 Rows.storeFlashRow.domain false) (Rows.storeFlashSpec.post enc Try.prog Try.f6 false true false false) := by
  refine returnsInHanded_of_change_sized (C := Try.checked) tryOwn started (by kernel_rfl) Try.func6
    (ChangeSpec.witness6 (enc := enc) (C := Try.checked) false ⟨#[], #[.int .i64 0, .slice none 0 0], []⟩ 8 (by kernel_rfl) (by kernel_rfl) (by kernel_rfl) (by kernel_rfl)) ?_
  intro W base args ds gs before hval0 hW _ hwt _
  have hval : ∀ (j : Nat) t v, Try.f6.params[j]? = some t → args[j]? = some v → Value.okWide Try.prog W .any base t v := hval0
  have hW' := hW
  obtain ⟨p, q, hA0, hV, rfl, hfz, hnd⟩ := hW
  have hA : DataW.TrodAll enc Try.prog W 0 (fun _ => true) true Try.f6.params.toList args.toList ds p := hA0
  rw [Try.params6] at hA hval
  obtain ⟨v0, vs0, d0, ds0, p0, q0, hargs, rfl, rfl, h0, r0⟩ := trodAll_cons hA
  obtain ⟨v1, vs1, d1, ds1, p1, q1, rfl, rfl, rfl, h1, r1⟩ := trodAll_cons r0
  obtain ⟨rfl, rfl, rfl⟩ := trodAll_nil r1
  obtain rfl : args = #[v0, v1] := Array.toList_inj.1 hargs
  obtain ⟨rfl, rfl⟩ := trodVars_none hV
  obtain ⟨a0, rfl, rfl, rfl, w0⟩ := open_int Try.underlying3 (hval 0 3 v0 rfl rfl) h0
  have b0 := bounds_i64 w0
  obtain ⟨sa1, sn1, sc1, rfl⟩ := okWide_slice Try.underlying62 (hval 1 62 v1 rfl rfl)
  obtain ⟨fuel1, hf1⟩ := h1
  obtain ⟨pa1, zs1, cp1, hz1, hsl1, hlen1, hin1⟩ := openActs hf1 (fun b hb => by
    have := List.all_eq_true.1 hwt b (DataW.weights_mem_each (j := 1) (t := 62) rfl rfl b hb)
    simpa using this)
  have e1 : Value.slice sa1 sn1 sc1 = .slice pa1 zs1.length cp1 := by
    simpa [Value.cells] using hz1
  have hcall := StoreFlash_ok a0 zs1 pa1 cp1 W hsl1 hlen1 hin1
  rw [e1]
  rw [e1] at hW'
  unfold Sp at hcall
  refine Calls.mono hcall fun e W' ⟨v, l, he, hR, ho⟩ => ⟨v, he, ?_⟩
  obtain ⟨rfl, rfl⟩ := hR
  exact law_post hW' rfl ho.below rfl rfl rfl rfl (by rw [Try.params6]; intro t ht; simp at ht; rcases ht with rfl | rfl <;> exact ⟨by kernel_rfl, of_decide_eq_true (by kernel_rfl)⟩)
theorem storeFlash_over : Rows.storeFlashRow.holds Try.pinned (OpenSpec.ofChange Rows.storeFlashSpec) :=
  OpenClaim.holds_of_wide 6 Try.f6 rfl rfl rfl rfl rfl rfl rfl ⟨rfl, rfl, rfl, rfl, rfl⟩ rfl rfl rfl rfl rfl (by kernel_rfl) Try.func6 (by kernel_rfl)
    (of_decide_eq_true (by kernel_rfl)) (by unfold Func.isWrapper; first | (rw [if_pos (by decide +kernel)]; kernel_rfl) | (rw [if_neg (by decide +kernel)]; exact ⟨rfl, rfl⟩))
    (fun os started H enc _ => storeFlash_lifted os started H enc)
theorem storeFlash_proved : Rows.StoreFlashSaid := storeFlash_over
end Go.Proofs.Ythcbcdjkfefnlaa
