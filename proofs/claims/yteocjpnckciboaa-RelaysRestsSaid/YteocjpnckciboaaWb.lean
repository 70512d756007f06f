import Derived.Test.YteocjpnckciboaaWa
import Derived.Test.YteocjpnckciboaaMd
/- The walks of Race, Settle, Glitches and awake. -/
set_option linter.unusedSimpArgs false
set_option linter.unusedVariables false
set_option linter.unnecessarySimpa false
set_option autoImplicit false
set_option linter.unusedVariables false
namespace Go.Proofs.Yteocjpnckciboaa
open Go.Gv
open Go.RowKit
open Ry
set_option maxRecDepth 100000 in
set_option maxHeartbeats 1000000 in
theorem add_ok (c : Circ) (pb pc : Addr) (inn : Nat) (wb w0 : World) (lw : List HL) (hwb : Own wb [] w0 lw) (hbd : BoardIn c pb pc inn wb) (hgd : c.Good) (hin : inn < 2 ^ c.inputs.toNat) (ns : List Nd) (s g : Nat) (f : Int) (bg bb G m : Nat) (r : Option Nat) (cp : Nat) (S : List Nat) (hSw : ∀ b ∈ S, wb.heap.size ≤ b) (hown : Own w0 S w0 [.blk bg [.pointer (some ⟨G, 0, none⟩)] 61, .blk bb [.pointer (some pb)] 60, .blk G [.slice (rowA r) (ns).length cp, .map (some m)] 70, .row 72 4 r (ns).length cp ((ns).flatMap (Nd.cells c inn)), .obj m (mapObj (plc (ns) 0))]) (hst : s < 2 ^ c.gates.length) (hlen : ns.length ≤ 100000) : Sp Try.prog 73 [natV s, .int .i64 f, natV g, .pointer (some ⟨bg, 0, none⟩), .pointer (some ⟨bb, 0, none⟩)] w0 S (fun v l => ∃ r2 cp2, l = [.blk bg [.pointer (some ⟨G, 0, none⟩)] 61, .blk bb [.pointer (some pb)] 60, .blk G [.slice (rowA r2) ((addN ns s f g)).length cp2, .map (some m)] 70, .row 72 4 r2 ((addN ns s f g)).length cp2 (((addN ns s f g)).flatMap (Nd.cells c inn)), .obj m (mapObj (plc ((addN ns s f g)) 0))]) := by
  refine spec_enter Try.func73 rfl Try.ntmps73 rfl hown ?_
  simp only [argEnv]
  refine gc_seq ?_
  refine gc_region ?_
  refine gl_op (op_rd rfl (rd_load Try.underlying61 rfl rfl (by first | exact ld_blk 0 rfl rfl | exact ld_blk 1 rfl rfl | exact ld_blk 2 rfl rfl | exact ld_old (by assumption) (by simp))) ?_)
  refine gl_op (op_rd rfl (rd_nilCheck rfl) ?_)
  refine gl_op (op_rd rfl (rd_fieldAddr rfl (fa_70_1 _)) ?_)
  refine gl_op (op_rd rfl (rd_load Try.underlying68 rfl rfl (by first | exact ld_blk 0 rfl rfl | exact ld_blk 1 rfl rfl | exact ld_blk 2 rfl rfl | exact ld_old (by assumption) (by simp))) ?_)
  refine gl_op (op_rd rfl (rd_move rfl) ?_)
  refine gl_op (op_rd rfl (rd_lookupOk 4 rfl Try.underlying68 Try.underlying3 ty_3 rfl rfl) ?_)
  refine gl_op (op_rd rfl (rd_move rfl) ?_)
  refine gl_op (op_rd rfl (rd_extract rfl rfl) ?_)
  refine gl_op (op_rd rfl (rd_extract rfl rfl) ?_)
  refine gk_bool (fun hhas => ?_) (fun hhas => ?_)
  · skip
    refine gl_op (op_rd rfl (rd_assign rfl) ?_)
    refine gl_op (op_rd rfl (rd_assign rfl) ?_)
    refine gl_nil ?_
    refine gx_then ?_
    refine gc_seq ?_
    refine gc_region ?_
    refine gl_op (op_rd rfl (rd_move rfl) ?_)
    refine gl_op (op_rd rfl (rd_not rfl) ?_)
    refine gl_nil ?_
    refine gx_then ?_
    refine gc_cond_f rfl ?_
    refine gc_skip ?_
    refine gx_ret0 (.inr rfl) Try.results73 [0, 1, 2, 3, 4] (by decide) ?_
    have hh : hasS ns s = true := (lk_isSome ns s 0).symm.trans hhas
    rw [addN_t hh]; exact ⟨r, cp, rfl⟩
  · skip
    refine gl_op (op_rd rfl (rd_assign rfl) ?_)
    refine gl_op (op_rd rfl (rd_assign rfl) ?_)
    refine gl_nil ?_
    refine gx_then ?_
    refine gc_seq ?_
    refine gc_region ?_
    refine gl_op (op_rd rfl (rd_move rfl) ?_)
    refine gl_op (op_rd rfl (rd_not rfl) ?_)
    refine gl_nil ?_
    refine gx_then ?_
    refine gc_cond_t rfl ?_
    refine gc_seq ?_
    refine gc_drawP [0, 1, 2, 3, 4] false 10 rfl ?_
    refine ga_first 0 #[true, false, false, false, false, false, false, false, false, false, false] rfl rfl rfl rfl (by kernel_rfl) rfl ⟨[0, 1, 2, 3, 4], by decide, rfl⟩ (qt_rd (rd_load Try.underlying61 rfl rfl (by first | exact ld_blk 0 rfl rfl | exact ld_blk 1 rfl rfl | exact ld_blk 2 rfl rfl | exact ld_old (by assumption) (by simp)))) ?_
    refine ga_first 1 #[true, true, false, false, false, false, false, false, false, false, false] rfl rfl rfl rfl (by kernel_rfl) rfl ⟨[0, 1, 2, 3, 4], by decide, rfl⟩ (qt_rd (rd_nilCheck rfl)) ?_
    refine ga_first 2 #[true, true, true, false, false, false, false, false, false, false, false] rfl rfl rfl rfl (by kernel_rfl) rfl ⟨[0, 1, 2, 3, 4], by decide, rfl⟩ (qt_rd (rd_fieldAddr rfl (fa_70_1 _))) ?_
    refine ga_first 3 #[true, true, true, true, false, false, false, false, false, false, false] rfl rfl rfl rfl (by kernel_rfl) rfl ⟨[0, 1, 2, 3, 4], by decide, rfl⟩ (qt_rd (rd_load Try.underlying68 rfl rfl (by first | exact ld_blk 0 rfl rfl | exact ld_blk 1 rfl rfl | exact ld_blk 2 rfl rfl | exact ld_old (by assumption) (by simp)))) ?_
    refine ga_first 4 #[true, true, true, true, true, false, false, false, false, false, false] rfl rfl rfl rfl (by kernel_rfl) rfl ⟨[0, 1, 2, 3, 4], by decide, rfl⟩ (qt_rd (rd_move rfl)) ?_
    refine ga_first 5 #[true, true, true, true, true, true, false, false, false, false, false] rfl rfl rfl rfl (by kernel_rfl) rfl ⟨[0, 1, 2, 3, 4], by decide, rfl⟩ (qt_rd (rd_load Try.underlying61 rfl rfl (by first | exact ld_blk 0 rfl rfl | exact ld_blk 1 rfl rfl | exact ld_blk 2 rfl rfl | exact ld_old (by assumption) (by simp)))) ?_
    refine ga_first 6 #[true, true, true, true, true, true, true, false, false, false, false] rfl rfl rfl rfl (by kernel_rfl) rfl ⟨[0, 1, 2, 3, 4], by decide, rfl⟩ (qt_rd (rd_nilCheck rfl)) ?_
    refine ga_first 7 #[true, true, true, true, true, true, true, true, false, false, false] rfl rfl rfl rfl (by kernel_rfl) rfl ⟨[0, 1, 2, 3, 4], by decide, rfl⟩ (qt_rd (rd_fieldAddr rfl (fa_70_0 _))) ?_
    refine ga_first 8 #[true, true, true, true, true, true, true, true, true, false, false] rfl rfl rfl rfl (by kernel_rfl) rfl ⟨[0, 1, 2, 3, 4], by decide, rfl⟩ (qt_rd (rd_load Try.underlying67 rfl rfl (by first | exact ld_blk 0 rfl rfl | exact ld_blk 1 rfl rfl | exact ld_blk 2 rfl rfl | exact ld_old (by assumption) (by simp)))) ?_
    refine ga_first 9 #[true, true, true, true, true, true, true, true, true, true, false] rfl rfl rfl rfl (by kernel_rfl) rfl ⟨[0, 1, 2, 3, 4], by decide, rfl⟩ (qt_rd (rd_lenSlice Try.underlying67 rfl)) ?_
    refine ga_only 10 #[true, true, true, true, true, true, true, true, true, true, true] rfl rfl (by kernel_rfl) rfl (.inr ⟨[0, 1, 2, 3, 4], by decide, rfl⟩) (op_mapInsert 4 Try.underlying68 Try.underlying3 rfl rfl rfl rfl (lk_none ((lk_isSome ns s 0).symm.trans hhas)) (by first | rfl | (simp only [List.set_cons_succ, List.set_cons_zero]; exact rfl)) ?_)
    refine ga_end (by kernel_rfl) (.inl (by kernel_rfl)) ?_
    refine gx_then ?_
    refine gc_drawP [0, 1, 2, 4] false 16 rfl ?_
    refine ga_first 0 #[true, false, false, false, false, false, false, false, false, false, false, false, false, false, false, false, false] rfl rfl rfl rfl (by kernel_rfl) rfl ⟨[0, 1, 2, 4], by decide, rfl⟩ (qt_rd (rd_load Try.underlying61 rfl rfl (by first | exact ld_blk 0 rfl rfl | exact ld_blk 1 rfl rfl | exact ld_blk 2 rfl rfl | exact ld_old (by assumption) (by simp)))) ?_
    refine ga_first 1 #[true, true, false, false, false, false, false, false, false, false, false, false, false, false, false, false, false] rfl rfl rfl rfl (by kernel_rfl) rfl ⟨[0, 1, 2, 4], by decide, rfl⟩ (qt_rd (rd_load Try.underlying61 rfl rfl (by first | exact ld_blk 0 rfl rfl | exact ld_blk 1 rfl rfl | exact ld_blk 2 rfl rfl | exact ld_old (by assumption) (by simp)))) ?_
    refine ga_first 2 #[true, true, true, false, false, false, false, false, false, false, false, false, false, false, false, false, false] rfl rfl rfl rfl (by kernel_rfl) rfl ⟨[0, 1, 2, 4], by decide, rfl⟩ (qt_rd (rd_nilCheck rfl)) ?_
    refine ga_first 3 #[true, true, true, true, false, false, false, false, false, false, false, false, false, false, false, false, false] rfl rfl rfl rfl (by kernel_rfl) rfl ⟨[0, 1, 2, 4], by decide, rfl⟩ (qt_rd (rd_fieldAddr rfl (fa_70_0 _))) ?_
    refine ga_first 4 #[true, true, true, true, true, false, false, false, false, false, false, false, false, false, false, false, false] rfl rfl rfl rfl (by kernel_rfl) rfl ⟨[0, 1, 2, 4], by decide, rfl⟩ (qt_rd (rd_load Try.underlying67 rfl rfl (by first | exact ld_blk 0 rfl rfl | exact ld_blk 1 rfl rfl | exact ld_blk 2 rfl rfl | exact ld_old (by assumption) (by simp)))) ?_
    refine ga_first 5 #[true, true, true, true, true, true, false, false, false, false, false, false, false, false, false, false, false] rfl rfl rfl rfl (by kernel_rfl) rfl ⟨[0, 1, 2, 4], by decide, rfl⟩ (qt_rd (rd_move rfl)) ?_
    refine ga_first 6 #[true, true, true, true, true, true, true, false, false, false, false, false, false, false, false, false, false] rfl rfl rfl rfl (by kernel_rfl) rfl ⟨[0, 1, 2, 4], by decide, rfl⟩ (qt_rd (rd_load Try.underlying60 rfl rfl (by first | exact ld_blk 0 rfl rfl | exact ld_blk 1 rfl rfl | exact ld_blk 2 rfl rfl | exact ld_old (by assumption) (by simp)))) ?_
    refine ga_first 7 #[true, true, true, true, true, true, true, true, false, false, false, false, false, false, false, false, false] rfl rfl rfl rfl (by kernel_rfl) rfl ⟨[0, 1, 2, 4], by decide, rfl⟩ (qt_rd (rd_move rfl)) ?_
    refine ga_first 8 #[true, true, true, true, true, true, true, true, true, false, false, false, false, false, false, false, false] rfl rfl rfl rfl (by kernel_rfl) rfl ⟨[0, 1, 2, 4], by decide, rfl⟩ (qt_call (vf := []) (vc := []) rfl rfl Try.call47 (fun w ho => next_ok c pb pc inn s w (hbd.atS hwb hSw ho) hgd hst hin) (by rintro _ _ ⟨h, _⟩; exact h)) ?_
    refine ga_first 9 #[true, true, true, true, true, true, true, true, true, true, false, false, false, false, false, false, false] rfl rfl rfl rfl (by kernel_rfl) rfl ⟨[0, 1, 2, 4], by decide, rfl⟩ (qt_rd (rd_move rfl)) ?_
    refine ga_first 10 #[true, true, true, true, true, true, true, true, true, true, true, false, false, false, false, false, false] rfl rfl rfl rfl (by kernel_rfl) rfl ⟨[0, 1, 2, 4], by decide, rfl⟩ (qt_rd (rd_move rfl)) ?_
    refine ga_first 11 #[true, true, true, true, true, true, true, true, true, true, true, true, false, false, false, false, false] rfl rfl rfl rfl (by kernel_rfl) rfl ⟨[0, 1, 2, 4], by decide, rfl⟩ (qt_rd (rd_build rfl (fun _ => bd_72_0_1_2_3 _ _ _ _))) ?_
    refine ga_only 12 #[true, true, true, true, true, true, true, true, true, true, true, true, true, false, false, false, false] rfl rfl (by kernel_rfl) rfl (.inr ⟨[0, 1, 2, 4], by decide, rfl⟩) (op_buildSlice (sz := 4) rfl rfl (fun _ => bs_67_1_0 _ _ _ _) rfl rfl (fun b43 => ?_))
    refine ga_only 13 #[true, true, true, true, true, true, true, true, true, true, true, true, true, true, false, false, false] rfl rfl (by kernel_rfl) rfl (.inr ⟨[1, 2, 3, 5], by decide, rfl⟩) (op_appendRow 4 0 Try.underlying67 ty_72 rfl (by decide) rfl rfl rfl rfl rfl (by simp [Value.oneCell']) (by omega) (by omega) (fun _ => (by first | rfl | (simp only [List.set_cons_succ, List.set_cons_zero]; exact rfl))) (fun r44 c44 => ?_))
    refine ga_only 14 #[true, true, true, true, true, true, true, true, true, true, true, true, true, true, true, false, false] rfl rfl (by kernel_rfl) rfl (.inr ⟨[1, 2, 3, 5], by decide, rfl⟩) (op_rd rfl (rd_nilCheck rfl) ?_)
    refine ga_first 15 #[true, true, true, true, true, true, true, true, true, true, true, true, true, true, true, true, false] rfl rfl rfl rfl (by kernel_rfl) rfl ⟨[1, 2, 3, 5], by decide, rfl⟩ (qt_rd (rd_fieldAddr rfl (fa_70_0 _))) ?_
    first | refine ga_only 16 #[true, true, true, true, true, true, true, true, true, true, true, true, true, true, true, true, true] rfl rfl (by kernel_rfl) rfl (.inr ⟨[1, 2, 3, 5], by decide, rfl⟩) (op_store 1 ty_67 rfl rfl rfl rfl rfl (by first | rfl | (simp only [List.set_cons_succ, List.set_cons_zero]; exact rfl)) (by first | rfl | (simp only [List.set_cons_succ, List.set_cons_zero]; exact rfl)) ?_) | refine ga_only 16 #[true, true, true, true, true, true, true, true, true, true, true, true, true, true, true, true, true] rfl rfl (by kernel_rfl) rfl (.inr ⟨[1, 2, 3, 5], by decide, rfl⟩) (op_store 2 ty_67 rfl rfl rfl rfl rfl (by first | rfl | (simp only [List.set_cons_succ, List.set_cons_zero]; exact rfl)) (by first | rfl | (simp only [List.set_cons_succ, List.set_cons_zero]; exact rfl)) ?_) | refine ga_only 16 #[true, true, true, true, true, true, true, true, true, true, true, true, true, true, true, true, true] rfl rfl (by kernel_rfl) rfl (.inr ⟨[1, 2, 3, 5], by decide, rfl⟩) (op_store 3 ty_67 rfl rfl rfl rfl rfl (by first | rfl | (simp only [List.set_cons_succ, List.set_cons_zero]; exact rfl)) (by first | rfl | (simp only [List.set_cons_succ, List.set_cons_zero]; exact rfl)) ?_) | refine ga_only 16 #[true, true, true, true, true, true, true, true, true, true, true, true, true, true, true, true, true] rfl rfl (by kernel_rfl) rfl (.inr ⟨[1, 2, 3, 5], by decide, rfl⟩) (op_storeRow 0 ty_67 rfl rfl rfl rfl (by simp; omega) (by first | rfl | (simp only [List.set_cons_succ, List.set_cons_zero]; exact rfl)) ?_) | refine ga_only 16 #[true, true, true, true, true, true, true, true, true, true, true, true, true, true, true, true, true] rfl rfl (by kernel_rfl) rfl (.inr ⟨[1, 2, 3, 5], by decide, rfl⟩) (op_storeRow 4 ty_67 rfl rfl rfl rfl (by simp; omega) (by first | rfl | (simp only [List.set_cons_succ, List.set_cons_zero]; exact rfl)) ?_)
    refine ga_end (by kernel_rfl) (.inl (by kernel_rfl)) ?_
    refine gx_ret0 (.inr rfl) Try.results73 [1, 2, 3, 4, 5] (by decide) ?_
    have hh : hasS ns s = false := (lk_isSome ns s 0).symm.trans hhas
    rw [addN_f hh, plc_append]; exact ⟨r44, c44, by simp [pick, Nd.cells]⟩

set_option maxRecDepth 100000 in
set_option maxHeartbeats 1000000 in
theorem reverse_ok (xs : List Nat) (r : Option Nat) (cp : Nat) (S : List Nat) (w0 : World) (hown : Own w0 S w0 [.row 3 1 r (xs).length cp ((xs).map natV)]) (hlen : xs.length ≤ 100000) : Sp Try.prog 85 [.slice (rowA r) xs.length cp] w0 S (fun v l => l = [.row 3 1 r xs.length cp (xs.reverse.map natV)]) := by
  refine spec_enter Try.func85 rfl Try.ntmps85 rfl hown ?_
  simp only [argEnv]
  refine gc_seq ?_
  refine gc_region ?_
  refine gl_op (op_rd rfl (rd_move rfl) ?_)
  refine gl_op (op_rd rfl (rd_lenSlice Try.underlying23 rfl) ?_)
  refine gl_op (op_rd rfl (rd_sub rfl rfl (by omega) (by omega)) ?_)
  refine gl_op (op_rd rfl (rd_assign rfl) ?_)
  refine gl_op (op_rd rfl (rd_assign rfl) ?_)
  refine gl_nil ?_
  refine gx_then ?_
  refine gc_block ?_
  refine gc_loopF (ι := Nat × Int × List Nat × List Value) [] [] (fun j => j.1 ≤ xs.length ∧ j.2.1 = (xs.length : Int) - 1 - j.1 ∧ revAt xs j.1 j.2.2.1 ∧ j.2.2.2 = j.2.2.1.map natV) (fun j G => ((0, .slice (rowA r) xs.length cp) :: (2, natV j.1) :: (3, .int .i64 j.2.1) :: G)) (fun j G => (.row 3 1 r xs.length cp j.2.2.2 :: G)) (fun j => xs.length - j.1) (0, (xs.length : Int) - 1, xs, xs.map natV) (⟨Nat.zero_le _, by simp, revAt_0 xs, rfl⟩) ⟨rfl, rfl, rfl, trivial⟩ ⟨[0], by decide, rfl⟩ ?_
  rintro ⟨i, q, ys, cs⟩ ⟨hi, hq, hrev, hcs⟩
  simp only at hi hq hrev hcs ⊢
  refine gc_seq ?_
  refine gc_seq ?_
  refine gc_region ?_
  refine gl_op (op_rd rfl (rd_move rfl) ?_)
  refine gl_op (op_rd rfl (rd_move rfl) ?_)
  refine gl_op (op_rd rfl (rd_lss rfl rfl) (gk_dec (fun hlt => ?_) (fun hlt => ?_)))
  · skip
    obtain ⟨jn, hjn⟩ : ∃ n : Nat, q = n := ⟨q.toNat, by omega⟩
    subst hjn
    have hij : i < jn := by omega
    have hjl : jn < xs.length := by omega
    have hyl := hrev.1
    have hcl : cs.length = xs.length := by rw [hcs, List.length_map, hyl]
    refine gl_nil ?_
    refine gx_then ?_
    refine gc_cond_t rfl ?_
    refine gc_skip ?_
    refine gx_then ?_
    refine gc_seq ?_
    refine gc_block ?_
    refine gc_drawP [0] false 13 rfl ?_
    refine ga_first 0 #[true, false, false, false, false, false, false, false, false, false, false, false, false, false, false, false] rfl rfl rfl rfl (by kernel_rfl) rfl ⟨[0], by decide, rfl⟩ (qt_rd (rd_move rfl)) ?_
    refine ga_first 1 #[true, true, false, false, false, false, false, false, false, false, false, false, false, false, false, false] rfl rfl rfl rfl (by kernel_rfl) rfl ⟨[0], by decide, rfl⟩ (qt_rd (rd_move rfl)) ?_
    refine ga_first 4 #[true, true, false, false, true, false, false, false, false, false, false, false, false, false, false, false] rfl rfl rfl rfl (by kernel_rfl) rfl ⟨[0], by decide, rfl⟩ (qt_rd (rd_move rfl)) ?_
    refine ga_first 5 #[true, true, false, false, true, true, false, false, false, false, false, false, false, false, false, false] rfl rfl rfl rfl (by kernel_rfl) rfl ⟨[0], by decide, rfl⟩ (qt_rd (rd_move rfl)) ?_
    refine ga_first 6 #[true, true, false, false, true, true, true, false, false, false, false, false, false, false, false, false] rfl rfl rfl rfl (by kernel_rfl) rfl ⟨[0], by decide, rfl⟩ (qt_rd (by first | exact rd_indexRow1 0 rfl Try.underlying23 ty_3 rfl rfl (by omega) (by omega) | exact rd_index1 Try.underlying23 ty_3 rfl rfl (by omega) (by omega))) ?_
    refine ga_first 7 #[true, true, false, false, true, true, true, true, false, false, false, false, false, false, false, false] rfl rfl rfl rfl (by kernel_rfl) rfl ⟨[0], by decide, rfl⟩ (qt_rd (rd_load Try.underlying3 rfl rfl (ld_row 0 rfl (by rw [hcs]; exact get_nats (show jn < ys.length by omega))))) ?_
    refine ga_firstT 2 #[true, true, true, false, true, true, true, true, false, false, false, false, false, false, false, false] rfl rfl rfl rfl (by kernel_rfl) rfl (fun _ => rd_move rfl) ?_
    refine ga_firstT 3 #[true, true, true, true, true, true, true, true, false, false, false, false, false, false, false, false] rfl rfl rfl rfl (by kernel_rfl) rfl (fun _ => rd_move rfl) ?_
    refine ga_firstT 8 #[true, true, true, true, true, true, true, true, true, false, false, false, false, false, false, false] rfl rfl rfl rfl (by kernel_rfl) rfl (fun _ => rd_move rfl) ?_
    refine ga_only 9 #[true, true, true, true, true, true, true, true, true, true, false, false, false, false, false, false] rfl rfl (by kernel_rfl) rfl (.inr ⟨[0], by decide, rfl⟩) (op_rd rfl (rd_move rfl) ?_)
    refine ga_only 10 #[true, true, true, true, true, true, true, true, true, true, true, false, false, false, false, false] rfl rfl (by kernel_rfl) rfl (.inr ⟨[0], by decide, rfl⟩) (op_rd rfl (by first | exact rd_indexRow1 0 rfl Try.underlying23 ty_3 rfl rfl (by omega) (by omega) | exact rd_index1 Try.underlying23 ty_3 rfl rfl (by omega) (by omega)) ?_)
    refine ga_first 11 #[true, true, true, true, true, true, true, true, true, true, true, true, false, false, false, false] rfl rfl rfl rfl (by kernel_rfl) rfl ⟨[0], by decide, rfl⟩ (qt_rd (rd_load Try.underlying3 rfl rfl (ld_row 0 rfl (by rw [hcs]; exact get_nats (show i < ys.length by omega))))) ?_
    refine ga_first 12 #[true, true, true, true, true, true, true, true, true, true, true, true, true, false, false, false] rfl rfl rfl rfl (by kernel_rfl) rfl ⟨[0], by decide, rfl⟩ (qt_rd (by first | exact rd_indexRow1 0 rfl Try.underlying23 ty_3 rfl rfl (by omega) (by omega) | exact rd_index1 Try.underlying23 ty_3 rfl rfl (by omega) (by omega))) ?_
    refine ga_only 13 #[true, true, true, true, true, true, true, true, true, true, true, true, true, true, false, false] rfl rfl (by kernel_rfl) rfl (.inr ⟨[0], by decide, rfl⟩) (op_storeRow 0 ty_3 rfl rfl rfl rfl (show i < cs.length by omega) (by first | rfl | (simp only [List.set_cons_succ, List.set_cons_zero]; exact rfl)) ?_)
    refine ga_only 14 #[true, true, true, true, true, true, true, true, true, true, true, true, true, true, true, false] rfl rfl (by kernel_rfl) rfl (.inl (by kernel_rfl)) (op_rd rfl (by first | exact rd_indexRow1 0 rfl Try.underlying23 ty_3 rfl rfl (by omega) (by omega) | exact rd_index1 Try.underlying23 ty_3 rfl rfl (by omega) (by omega)) ?_)
    refine ga_only 15 #[true, true, true, true, true, true, true, true, true, true, true, true, true, true, true, true] rfl rfl (by kernel_rfl) rfl (.inl (by kernel_rfl)) (op_storeRow 0 ty_3 rfl rfl rfl rfl (show jn < (cs.set i (natV (ys.getD jn 0))).length by rw [List.length_set]; omega) (by first | rfl | (simp only [List.set_cons_succ, List.set_cons_zero]; exact rfl)) ?_)
    refine ga_end (by kernel_rfl) (.inl (by kernel_rfl)) ?_
    refine gx_block ?_
    refine gx_then ?_
    refine gc_region ?_
    refine gl_op (op_rd rfl (rd_move rfl) ?_)
    refine gl_op (op_rd rfl (rd_add rfl rfl (by omega) (by omega)) ?_)
    refine gl_op (op_rd rfl (rd_move rfl) ?_)
    refine gl_op (op_rd rfl (rd_sub rfl rfl (by omega) (by omega)) ?_)
    refine gl_op (op_rd rfl (rd_assign rfl) ?_)
    refine gl_op (op_rd rfl (rd_assign rfl) ?_)
    refine gl_nil ?_
    refine gx_then ?_
    exact gx_cut ((i + 1, (jn : Int) - 1, (ys.set i (ys.getD jn 0)).set jn (ys.getD i 0), (cs.set i (natV (ys.getD jn 0))).set jn (natV (ys.getD i 0)))) ⟨⟨by simp only; omega, by simp only; omega, revAt_succ hrev hij (by omega), by rw [hcs, List.map_set, List.map_set]⟩, by simp only; omega⟩ ⟨rfl, rfl, rfl, trivial⟩ ⟨[0], by decide, rfl⟩
  · skip
    refine gl_nil ?_
    refine gx_then ?_
    refine gc_cond_f rfl ?_
    refine gc_exit ?_
    refine gx_then_exit ?_
    refine gx_then_exit ?_
    refine gx_block_exit ?_
    refine gx_ret0 (.inr rfl) Try.results85 [0] (by decide) ?_
    rw [hcs, revAt_end hrev (by omega)]; rfl

set_option maxRecDepth 100000 in
set_option maxHeartbeats 1000000 in
theorem way_ok (c : Circ) (inn : Nat) (ns : List Nd) (pg : Addr) (a : Option Addr) (gcp m : Nat) (i : Nat) (w0 : World) (hg : GraphIn c inn ns pg a gcp m w0) (hwf : Wf ns) (hi : i < ns.length) (hlen : ns.length ≤ 100000) : Sp Try.prog 68 [.pointer (some pg), natV i] w0 [] (fun v l => ∃ r cp, v = .slice (rowA r) (wayP ns i).length cp ∧ l = [.row 3 1 r (wayP ns i).length cp ((wayP ns i).map natV)]) := by
  obtain ⟨x0, hx0⟩ : ∃ y, ns[i]? = some y := ⟨ns[i], List.getElem?_eq_getElem hi⟩
  refine spec_enter Try.func68 rfl Try.ntmps68 rfl (Own.refl _) ?_
  simp only [argEnv]
  refine gc_seq ?_
  refine gc_region ?_
  refine gl_op (op_rd rfl (rd_assign rfl) ?_)
  refine gl_nil ?_
  refine gx_then ?_
  refine gc_seq ?_
  refine gc_region ?_
  refine gl_op (op_rd rfl (rd_assign rfl) ?_)
  refine gl_nil ?_
  refine gx_then ?_
  refine gc_seq ?_
  refine gc_seq ?_
  refine gc_region ?_
  refine gl_op (op_rd rfl (rd_move rfl) ?_)
  refine gl_op (op_rd rfl (rd_nilCheck rfl) ?_)
  refine gl_op (op_rd rfl (rd_fieldAddr rfl (fa_70_0 _)) ?_)
  refine gl_op (op_rd rfl (rd_load Try.underlying67 rfl rfl (ld_cells hg.g (by simp) rfl)) ?_)
  refine gl_op (op_rd rfl (rd_move rfl) ?_)
  refine gl_op (op_rd rfl (rd_indexOld hg.row Try.underlying67 ty_72 rfl rfl (by omega) (by omega)) ?_)
  refine gl_op (op_rd rfl (rd_loadAgg Try.underlying72 rfl ty_72 rfl (cs_sl hg.row (flat_drop_get (Nd.cells c inn) 4 (fun _ => rfl) hx0)) rfl) ?_)
  refine gl_op (op_alloc ty_72 rfl rfl (fun b6 => ?_))
  refine gl_op (op_storeAgg 0 ty_72 rfl rfl rfl rfl rfl rfl (by first | rfl | (simp only [List.set_cons_succ, List.set_cons_zero]; exact rfl)) ?_)
  refine gl_nil ?_
  refine gx_then ?_
  refine gc_block ?_
  refine gk_nil 3 1 ?_
  refine gc_loopF (ι := Nat × Nd × Nat × List Nat × Option Nat × Nat × Nat × List Value) [] [] (fun j => ns[j.1]? = some j.2.1 ∧ j.2.2.2.1 ++ wayR ns (j.1 + 1) j.1 = wayR ns (i + 1) i ∧ j.2.2.2.1.length + j.1 ≤ i ∧ j.2.2.2.2.2.1 = j.2.2.2.1.length ∧ j.2.2.2.2.2.2.2 = j.2.2.2.1.map natV) (fun j G => ((0, .pointer (some pg)) :: (5, .slice (rowA j.2.2.2.2.1) j.2.2.2.2.2.1 j.2.2.2.2.2.2.1) :: (6, .pointer (some ⟨j.2.2.1, 0, none⟩)) :: G)) (fun j G => (.row 3 1 j.2.2.2.2.1 j.2.2.2.2.2.1 j.2.2.2.2.2.2.1 j.2.2.2.2.2.2.2 :: .blk j.2.2.1 (Nd.cells c inn j.2.1) 72 :: G)) (fun j => j.1) (i, x0, b6, [], none, 0, 0, []) (⟨hx0, rfl, by simp, rfl, rfl⟩) ⟨rfl, rfl, rfl, trivial⟩ ⟨[0, 1], by decide, rfl⟩ ?_
  rintro ⟨k, x, b6, o, r, nn, cp, cs⟩ ⟨hx, ho, hkl, hn, hcs⟩
  simp only at hx ho hkl hn hcs ⊢
  simp only [Nd.cells]
  refine gc_seq ?_
  refine gc_seq ?_
  refine gc_region ?_
  refine gl_op (op_rd rfl (rd_fieldAddr rfl (fa_72_2 _)) ?_)
  refine gl_op (op_rd rfl (rd_load Try.underlying3 rfl rfl (by first | exact ld_blk 1 rfl rfl | exact ld_old (by assumption) (by simp))) ?_)
  refine gl_op (op_rd rfl (rd_geq rfl rfl) (gk_dec (fun hge => ?_) (fun hge => ?_)))
  · skip
    obtain ⟨f, hf⟩ : ∃ f : Nat, x.frm = f := ⟨x.frm.toNat, by omega⟩
    have hfk := hwf k x hx
    obtain ⟨x2, hx2⟩ : ∃ y, ns[f]? = some y := ⟨ns[f]'(by omega), List.getElem?_eq_getElem (by omega)⟩
    refine gl_nil ?_
    refine gx_then ?_
    refine gc_cond_t rfl ?_
    refine gc_skip ?_
    refine gx_then ?_
    refine gc_seq ?_
    refine gc_block ?_
    refine gc_region ?_
    refine gl_op (op_rd rfl (rd_move rfl) ?_)
    refine gl_op (op_rd rfl (rd_fieldAddr rfl (fa_72_3 _)) ?_)
    refine gl_op (op_rd rfl (rd_load Try.underlying3 rfl rfl (by first | exact ld_blk 1 rfl rfl | exact ld_old (by assumption) (by simp))) ?_)
    refine gl_op (op_buildSlice (sz := 1) rfl rfl (fun _ => bs_23_1_0 _) rfl rfl (fun b28 => ?_))
    refine gl_op (op_appendRow 1 0 Try.underlying23 ty_3 rfl (by decide) rfl rfl rfl rfl rfl (by simp [Value.oneCell']) (by omega) (by omega) (fun _ => (by first | rfl | (simp only [List.set_cons_succ, List.set_cons_zero]; exact rfl))) (fun r29 c29 => ?_))
    refine gl_op (op_rd rfl (rd_assign rfl) ?_)
    refine gl_nil ?_
    refine gx_block ?_
    refine gx_then ?_
    refine gc_seq ?_
    refine gc_seq ?_
    refine gc_region ?_
    refine gl_op (op_rd rfl (rd_loadAgg Try.underlying72 rfl ty_72 rfl (by first | exact cs_blk 2 (off := 0) (k := 4) rfl rfl | exact cs_old (by assumption) (by simp)) rfl) ?_)
    refine gl_nil ?_
    refine gx_then ?_
    refine gc_region ?_
    refine gl_op (op_alloc ty_72 rfl rfl (fun b6 => ?_))
    first | refine gl_op (op_storeAgg 0 ty_72 rfl rfl rfl rfl rfl rfl (by first | rfl | (simp only [List.set_cons_succ, List.set_cons_zero]; exact rfl)) ?_) | refine gl_op (op_storeAgg 3 ty_72 rfl rfl rfl rfl rfl rfl (by first | rfl | (simp only [List.set_cons_succ, List.set_cons_zero]; exact rfl)) ?_)
    refine gl_nil ?_
    refine gx_then ?_
    refine gc_drawP [0, 1, 2, 3] false 8 rfl ?_
    refine ga_first 0 #[true, false, false, false, false, false, false, false, false] rfl rfl rfl rfl (by kernel_rfl) rfl ⟨[0, 1, 2, 3], by decide, rfl⟩ (qt_rd (rd_move rfl)) ?_
    refine ga_first 1 #[true, true, false, false, false, false, false, false, false] rfl rfl rfl rfl (by kernel_rfl) rfl ⟨[0, 1, 2, 3], by decide, rfl⟩ (qt_rd (rd_nilCheck rfl)) ?_
    refine ga_first 2 #[true, true, true, false, false, false, false, false, false] rfl rfl rfl rfl (by kernel_rfl) rfl ⟨[0, 1, 2, 3], by decide, rfl⟩ (qt_rd (rd_fieldAddr rfl (fa_70_0 _))) ?_
    refine ga_first 3 #[true, true, true, true, false, false, false, false, false] rfl rfl rfl rfl (by kernel_rfl) rfl ⟨[0, 1, 2, 3], by decide, rfl⟩ (qt_rd (rd_load Try.underlying67 rfl rfl (ld_cells hg.g (by simp) rfl))) ?_
    refine ga_first 4 #[true, true, true, true, true, false, false, false, false] rfl rfl rfl rfl (by kernel_rfl) rfl ⟨[0, 1, 2, 3], by decide, rfl⟩ (qt_rd (rd_fieldAddr rfl (fa_72_2 _))) ?_
    refine ga_first 5 #[true, true, true, true, true, true, false, false, false] rfl rfl rfl rfl (by kernel_rfl) rfl ⟨[0, 1, 2, 3], by decide, rfl⟩ (qt_rd (rd_load Try.underlying3 rfl rfl (by first | exact ld_blk 0 rfl rfl | exact ld_blk 3 rfl rfl | exact ld_old (by assumption) (by simp)))) ?_
    simp only [hf]
    refine ga_first 6 #[true, true, true, true, true, true, true, false, false] rfl rfl rfl rfl (by kernel_rfl) rfl ⟨[0, 1, 2, 3], by decide, rfl⟩ (qt_rd (rd_indexOld hg.row Try.underlying67 ty_72 rfl rfl (by omega) (by omega))) ?_
    refine ga_first 7 #[true, true, true, true, true, true, true, true, false] rfl rfl rfl rfl (by kernel_rfl) rfl ⟨[0, 1, 2, 3], by decide, rfl⟩ (qt_rd (rd_loadAgg Try.underlying72 rfl ty_72 rfl (cs_sl hg.row (flat_drop_get (Nd.cells c inn) 4 (fun _ => rfl) hx2)) rfl)) ?_
    first | refine ga_only 8 #[true, true, true, true, true, true, true, true, true] rfl rfl (by kernel_rfl) rfl (.inr ⟨[0, 1, 2, 3], by decide, rfl⟩) (op_storeAgg 0 ty_72 rfl rfl rfl rfl rfl rfl (by first | rfl | (simp only [List.set_cons_succ, List.set_cons_zero]; exact rfl)) ?_) | refine ga_only 8 #[true, true, true, true, true, true, true, true, true] rfl rfl (by kernel_rfl) rfl (.inr ⟨[0, 1, 2, 3], by decide, rfl⟩) (op_storeAgg 3 ty_72 rfl rfl rfl rfl rfl rfl (by first | rfl | (simp only [List.set_cons_succ, List.set_cons_zero]; exact rfl)) ?_)
    refine ga_end (by kernel_rfl) (.inl (by kernel_rfl)) ?_
    refine gx_then ?_
    exact gx_cut ((f, x2, b6, o ++ [x.gate], r29, nn + 1, c29, cs ++ [natV x.gate])) ⟨⟨hx2, by rw [← ho, wayR_step hwf hx hf, List.append_assoc]; rfl, by simp only [List.length_append, List.length_singleton]; omega, by rw [List.length_append, hn]; rfl, by rw [List.map_append, hcs]; rfl⟩, by simp only; omega⟩ ⟨rfl, rfl, rfl, trivial⟩ ⟨[2, 0], by decide, rfl⟩
  · skip
    refine gl_nil ?_
    refine gx_then ?_
    refine gc_cond_f rfl ?_
    refine gc_exit ?_
    refine gx_then_exit ?_
    refine gx_then_exit ?_
    refine gx_block_exit ?_
    refine gx_then ?_
    refine gc_seq ?_
    refine gc_region ?_
    refine gl_op (op_rd rfl (rd_move rfl) ?_)
    subst hcs
    subst hn
    refine gl_op (op_callM [0] [1] rfl (vf := []) (vc := []) rfl rfl Try.call85 (by decide) rfl (fun w how hc => reverse_ok o r cp _ w hc (by omega)) ?_)
    rintro _ _ rfl
    refine gl_nil ?_
    refine gx_then ?_
    refine gc_seq ?_
    refine gc_region ?_
    refine gl_op (op_rd rfl (rd_move rfl) ?_)
    refine gl_op (op_rd rfl (rd_assign rfl) ?_)
    refine gl_nil ?_
    refine gx_then ?_
    refine gc_ret ?_
    refine gx_ret1 (.inl rfl) Try.results68 rfl [0] (by decide) ?_
    have he : o = wayR ns (i + 1) i := by rw [← ho, wayR_end hx (by omega), List.append_nil]
    subst he
    exact ⟨r, cp, by simp only [wayP, List.length_reverse], by simp only [wayP, List.length_reverse]; rfl⟩

set_option maxRecDepth 100000 in
set_option maxHeartbeats 1000000 in
theorem reach_ok (c : Circ) (pb pc : Addr) (inn : Nat) (begin : List Nat) (a : Option Addr) (scp : Nat) (w0 : World) (hbd : BoardIn c pb pc inn w0) (hgd : c.Good) (hin : inn < 2 ^ c.inputs.toNat) (hsl : OldSl w0 [] a begin.length 1 (begin.map natV)) (hbs : ∀ s ∈ begin, s < 2 ^ c.gates.length) (hbl : begin.length ≤ 50000) : Sp Try.prog 41 [.pointer (some pb), .slice a begin.length scp] w0 [] (fun v l => (∃ ns G m r cp, reachP c inn begin = some ns ∧ v = .tuple #[.pointer (some ⟨G, 0, none⟩), .bool true] ∧ l = [.blk G [.slice (rowA r) ns.length cp, .map (some m)] 70, .row 72 4 r ns.length cp (ns.flatMap (Nd.cells c inn)), .obj m (mapObj (plc ns 0))]) ∨ (reachP c inn begin = none ∧ ∃ p, v = .tuple #[.pointer p, .bool false] ∧ l = [])) := by
  refine spec_enter Try.func41 rfl Try.ntmps41 rfl (Own.refl _) ?_
  simp only [argEnv]
  refine gc_seq ?_
  refine gc_region ?_
  refine gl_op (op_box rfl rfl rfl (fun b2 => ?_))
  refine gl_op (op_rd rfl (rd_assign rfl) ?_)
  refine gl_op (op_rd rfl (rd_assign rfl) ?_)
  refine gl_nil ?_
  refine gx_then ?_
  refine gc_seq ?_
  refine gc_region ?_
  refine gl_op (op_makeMap rfl (fun b14 => ?_))
  refine gl_op (op_rd rfl (rd_build rfl (fun _ => bd_70_1 _)) ?_)
  refine gl_op (op_box rfl rfl rfl (fun b16 => ?_))
  refine gl_op (op_alloc ty_61 rfl rfl (fun b6 => ?_))
  first | refine gl_op (op_store 0 ty_61 rfl rfl rfl rfl rfl (by first | rfl | (simp only [List.set_cons_succ, List.set_cons_zero]; exact rfl)) (by first | rfl | (simp only [List.set_cons_succ, List.set_cons_zero]; exact rfl)) ?_) | refine gl_op (op_store 1 ty_61 rfl rfl rfl rfl rfl (by first | rfl | (simp only [List.set_cons_succ, List.set_cons_zero]; exact rfl)) (by first | rfl | (simp only [List.set_cons_succ, List.set_cons_zero]; exact rfl)) ?_) | refine gl_op (op_store 3 ty_61 rfl rfl rfl rfl rfl (by first | rfl | (simp only [List.set_cons_succ, List.set_cons_zero]; exact rfl)) (by first | rfl | (simp only [List.set_cons_succ, List.set_cons_zero]; exact rfl)) ?_)
  refine gl_nil ?_
  refine gx_then ?_
  refine gc_seq ?_
  refine gc_region ?_
  refine gl_op (op_rd rfl (rd_makeFunc (fs := []) rfl rfl) ?_)
  refine gl_op (op_rd rfl (rd_assign rfl) ?_)
  refine gl_nil ?_
  refine gx_then ?_
  refine gc_seq ?_
  refine gc_seq ?_
  refine gc_region ?_
  refine gl_op (op_rd rfl (rd_move rfl) ?_)
  refine gl_op (op_rd rfl (rd_lenSlice Try.underlying23 rfl) ?_)
  refine gl_op (op_rd rfl (rd_move rfl) ?_)
  refine gl_nil ?_
  refine gx_then ?_
  refine gc_block ?_
  refine gk_nil 72 4 ?_
  refine gc_loopF (ι := Nat × List Nd × Option Nat × Nat) [] [] (fun j => j.1 ≤ begin.length ∧ j.2.1 = begsP (begin.take j.1) ∧ (∀ x ∈ j.2.1, x.state < 2 ^ c.gates.length) ∧ j.2.1.length ≤ j.1) (fun j G => ((6, .pointer (some ⟨b6, 0, none⟩)) :: (7, .func (.func 73) #[] #[.pointer (some ⟨b6, 0, none⟩), .pointer (some ⟨b2, 0, none⟩)]) :: (18, .slice a begin.length scp) :: (19, natV begin.length) :: (20, natV j.1) :: G)) (fun j G => (.blk b6 [.pointer (some ⟨b16, 0, none⟩)] 61 :: .blk b2 [.pointer (some pb)] 60 :: .blk b16 [.slice (rowA j.2.2.1) j.2.1.length j.2.2.2, .map (some b14)] 70 :: .row 72 4 j.2.2.1 j.2.1.length j.2.2.2 (j.2.1.flatMap (Nd.cells c inn)) :: .obj b14 (mapObj (plc j.2.1 0)) :: G)) (fun j => begin.length - j.1) (0, [], none, 0) (⟨Nat.zero_le _, rfl, by simp, Nat.le_refl _⟩) ⟨rfl, rfl, rfl, rfl, rfl, trivial⟩ ⟨[1, 4, 2, 0, 3], by decide, rfl⟩ ?_
  rintro ⟨j, ns, r, cp⟩ ⟨hj, hns, hsts, hln⟩
  simp only at hj hns hsts hln ⊢
  refine gc_seq ?_
  refine gc_region ?_
  refine gl_op (op_rd rfl (rd_lss rfl rfl) (gk_dec (fun hlt => ?_) (fun hlt => ?_)))
  · skip
    have hjl : j < begin.length := by omega
    have hsj : begin.getD j 0 < 2 ^ c.gates.length := hbs _ (mem_getD (d := 0) hjl)
    have hal := addN_len ns (begin.getD j 0) (-1) 0
    refine gl_nil ?_
    refine gx_then ?_
    refine gc_seq ?_
    refine gc_cond_t rfl ?_
    refine gc_skip ?_
    refine gx_then ?_
    refine gc_seq ?_
    refine gc_block ?_
    refine gc_seq ?_
    refine gc_region ?_
    refine gl_op (op_rd rfl (rd_indexOld1 hsl Try.underlying23 ty_3 rfl rfl (by omega) (by omega)) ?_)
    refine gl_op (op_rd rfl (rd_load Try.underlying3 rfl rfl (ld_sl hsl (get_nats hjl))) ?_)
    refine gl_op (op_rd rfl (rd_assign rfl) ?_)
    refine gl_nil ?_
    refine gx_then ?_
    refine gc_region ?_
    refine gl_op (op_rd rfl (rd_move rfl) ?_)
    refine gl_op (op_rd rfl (rd_move rfl) ?_)
    refine gl_op (op_callM [0, 1, 2, 3, 4] [] rfl (vf := []) (vc := [.pointer (some ⟨b6, 0, none⟩), .pointer (some ⟨b2, 0, none⟩)]) rfl rfl Try.call73 (by decide) rfl (fun w ho hc => add_ok c pb pc inn w0 w _ ho hbd hgd hin ns (begin.getD j 0) 0 (-1) b6 b2 b16 b14 r cp _ (placeS ho _) hc hsj (by omega)) ?_)
    rintro _ _ ⟨r2, cp2, rfl⟩
    refine gl_nil ?_
    refine gx_block ?_
    refine gx_then ?_
    refine gc_region ?_
    refine gl_op (op_rd rfl (rd_add rfl rfl (by omega) (by omega)) ?_)
    refine gl_op (op_rd rfl (rd_move rfl) ?_)
    refine gl_nil ?_
    refine gx_then ?_
    exact gx_cut ((j + 1, addN ns (begin.getD j 0) (-1) 0, r2, cp2)) ⟨⟨by simp only; omega, by simp only; rw [hns, ← begsP_succ hjl], addN_all hsts hsj, by simp only; omega⟩, by simp only; omega⟩ ⟨rfl, rfl, rfl, rfl, rfl, trivial⟩ ⟨[0, 1, 2, 3, 4], by decide, rfl⟩
  · skip
    refine gl_nil ?_
    refine gx_then ?_
    refine gc_seq ?_
    refine gc_cond_f rfl ?_
    refine gc_exit ?_
    refine gx_then_exit ?_
    refine gx_then_exit ?_
    refine gx_block_exit ?_
    refine gx_then ?_
    refine gc_seq ?_
    refine gc_seq ?_
    refine gc_region ?_
    refine gl_op (op_rd rfl (rd_assign rfl) ?_)
    refine gl_nil ?_
    refine gx_then ?_
    refine gc_block ?_
    refine gc_loopF (ι := Nat × List Nd × Option Nat × Nat) [] [] (fun j => j.1 ≤ j.2.1.length ∧ j.1 ≤ 1000 ∧ reachGo c inn (1002 - j.1) j.1 j.2.1 = reachP c inn begin ∧ (∀ x ∈ j.2.1, x.state < 2 ^ c.gates.length) ∧ j.2.1.length ≤ 50000) (fun j G => ((6, .pointer (some ⟨b6, 0, none⟩)) :: (7, .func (.func 73) #[] #[.pointer (some ⟨b6, 0, none⟩), .pointer (some ⟨b2, 0, none⟩)]) :: (10, natV j.1) :: G)) (fun j G => (.blk b6 [.pointer (some ⟨b16, 0, none⟩)] 61 :: .blk b2 [.pointer (some pb)] 60 :: .blk b16 [.slice (rowA j.2.2.1) j.2.1.length j.2.2.2, .map (some b14)] 70 :: .row 72 4 j.2.2.1 j.2.1.length j.2.2.2 (j.2.1.flatMap (Nd.cells c inn)) :: .obj b14 (mapObj (plc j.2.1 0)) :: G)) (fun j => 1001 - j.1) (0, ns, r, cp) (⟨Nat.zero_le _, Nat.zero_le _, by rw [hns, show begin.take j = begin by rw [show j = begin.length by omega]; exact List.take_length]; rfl, hsts, by simp only; omega⟩) ⟨rfl, rfl, rfl, trivial⟩ ⟨[0, 1, 2, 3, 4], by decide, rfl⟩ ?_
    rintro ⟨i, ns, r, cp⟩ ⟨hi, hi1000, hgo, hsts, hln⟩
    simp only at hi hi1000 hgo hsts hln ⊢
    have e1 : 1002 - i = (1001 - i) + 1 := by omega
    rw [e1] at hgo
    refine gc_seq ?_
    refine gc_seq ?_
    refine gc_region ?_
    refine gl_op (op_rd rfl (rd_move rfl) ?_)
    refine gl_op (op_rd rfl (rd_load Try.underlying61 rfl rfl (by first | exact ld_blk 0 rfl rfl | exact ld_blk 1 rfl rfl | exact ld_blk 2 rfl rfl | exact ld_old (by assumption) (by simp))) ?_)
    refine gl_op (op_rd rfl (rd_nilCheck rfl) ?_)
    refine gl_op (op_rd rfl (rd_fieldAddr rfl (fa_70_0 _)) ?_)
    refine gl_op (op_rd rfl (rd_load Try.underlying67 rfl rfl (by first | exact ld_blk 0 rfl rfl | exact ld_blk 1 rfl rfl | exact ld_blk 2 rfl rfl | exact ld_old (by assumption) (by simp))) ?_)
    refine gl_op (op_rd rfl (rd_lenSlice Try.underlying67 rfl) ?_)
    refine gl_op (op_rd rfl (rd_lss rfl rfl) (gk_dec (fun hil => ?_) (fun hil => ?_)))
    · skip
      refine gl_nil ?_
      refine gx_then ?_
      refine gc_cond_t rfl ?_
      refine gc_skip ?_
      refine gx_then ?_
      refine gc_seq ?_
      refine gc_block ?_
      refine gc_seq ?_
      refine gc_seq ?_
      refine gc_region ?_
      refine gl_op (op_rd rfl (rd_load Try.underlying61 rfl rfl (by first | exact ld_blk 0 rfl rfl | exact ld_blk 1 rfl rfl | exact ld_blk 2 rfl rfl | exact ld_old (by assumption) (by simp))) ?_)
      refine gl_op (op_rd rfl (rd_nilCheck rfl) ?_)
      refine gl_op (op_rd rfl (rd_fieldAddr rfl (fa_70_0 _)) ?_)
      refine gl_op (op_rd rfl (rd_load Try.underlying67 rfl rfl (by first | exact ld_blk 0 rfl rfl | exact ld_blk 1 rfl rfl | exact ld_blk 2 rfl rfl | exact ld_old (by assumption) (by simp))) ?_)
      refine gl_op (op_rd rfl (rd_lenSlice Try.underlying67 rfl) ?_)
      refine gl_op (op_rd rfl (rd_gtr rfl rfl) (gk_dec (fun hbig => ?_) (fun hbig => ?_)))
      · skip
        refine gl_nil ?_
        refine gx_then ?_
        refine gc_cond_t rfl ?_
        refine gc_seq ?_
        refine gc_region ?_
        refine gl_op (op_rd rfl (rd_assign rfl) ?_)
        refine gl_op (op_rd rfl (rd_assign rfl) ?_)
        refine gl_nil ?_
        refine gx_then ?_
        refine gc_ret ?_
        refine gx_then_ret ?_
        refine gx_block_ret ?_
        refine gx_then_ret ?_
        refine gx_then_ret ?_
        refine gx_block_ret ?_
        refine gx_then_ret ?_
        refine gx_ret2 (.inl rfl) Try.results41 rfl rfl [] (by decide) ?_
        exact .inr ⟨by rw [← hgo, reachGo_big (by omega) (by omega)], _, rfl, rfl⟩
      · skip
        refine gl_nil ?_
        refine gx_then ?_
        refine gc_cond_f rfl ?_
        refine gc_skip ?_
        refine gx_then ?_
        refine gc_seq ?_
        refine gc_region ?_
        refine gl_op (op_rd rfl (rd_load Try.underlying61 rfl rfl (by first | exact ld_blk 0 rfl rfl | exact ld_blk 1 rfl rfl | exact ld_blk 2 rfl rfl | exact ld_old (by assumption) (by simp))) ?_)
        refine gl_op (op_rd rfl (rd_nilCheck rfl) ?_)
        refine gl_op (op_rd rfl (rd_fieldAddr rfl (fa_70_0 _)) ?_)
        refine gl_op (op_rd rfl (rd_load Try.underlying67 rfl rfl (by first | exact ld_blk 0 rfl rfl | exact ld_blk 1 rfl rfl | exact ld_blk 2 rfl rfl | exact ld_old (by assumption) (by simp))) ?_)
        refine gl_op (op_rd rfl (rd_move rfl) ?_)
        obtain ⟨x, hx⟩ : ∃ y, ns[i]? = some y := ⟨ns[i]'(by omega), List.getElem?_eq_getElem (by omega)⟩
        refine gl_op (op_rd rfl (by first | exact rd_indexRow 3 rfl Try.underlying67 ty_72 rfl rfl (by omega) (by omega) | exact rd_index Try.underlying67 ty_72 rfl rfl (by omega) (by omega)) ?_)
        refine gl_op (op_rd rfl (rd_loadAgg Try.underlying72 rfl ty_72 rfl (by first | exact cs_row 0 rfl (flat_drop_get (Nd.cells c inn) 4 (fun _ => rfl) hx) | exact cs_row 1 rfl (flat_drop_get (Nd.cells c inn) 4 (fun _ => rfl) hx) | exact cs_row 2 rfl (flat_drop_get (Nd.cells c inn) 4 (fun _ => rfl) hx) | exact cs_row 3 rfl (flat_drop_get (Nd.cells c inn) 4 (fun _ => rfl) hx)) rfl) ?_)
        refine gl_op (op_alloc ty_72 rfl rfl (fun b11 => ?_))
        first | refine gl_op (op_storeAgg 0 ty_72 rfl rfl rfl rfl rfl rfl (by first | rfl | (simp only [List.set_cons_succ, List.set_cons_zero]; exact rfl)) ?_) | refine gl_op (op_storeAgg 1 ty_72 rfl rfl rfl rfl rfl rfl (by first | rfl | (simp only [List.set_cons_succ, List.set_cons_zero]; exact rfl)) ?_) | refine gl_op (op_storeAgg 2 ty_72 rfl rfl rfl rfl rfl rfl (by first | rfl | (simp only [List.set_cons_succ, List.set_cons_zero]; exact rfl)) ?_) | refine gl_op (op_storeAgg 3 ty_72 rfl rfl rfl rfl rfl rfl (by first | rfl | (simp only [List.set_cons_succ, List.set_cons_zero]; exact rfl)) ?_)
        refine gl_nil ?_
        refine gx_then ?_
        refine gc_seq ?_
        refine gc_region ?_
        refine gl_op (op_rd rfl (rd_fieldAddr rfl (fa_72_1 _)) ?_)
        refine gl_op (op_rd rfl (rd_load Try.underlying3 rfl rfl (by first | exact ld_blk 0 rfl rfl | exact ld_blk 1 rfl rfl | exact ld_blk 2 rfl rfl | exact ld_blk 3 rfl rfl | exact ld_old (by assumption) (by simp))) ?_)
        have hxs : x.state < 2 ^ c.gates.length := hsts x (List.mem_of_getElem? hx)
        refine gl_op (op_call rfl (vf := []) (vc := []) rfl rfl Try.call46 (fun w ho => bits_ok (nextM c x.state inn) (nextM_lt hgd) w) ?_)
        rintro _ _ ⟨rk, ck, rfl, rfl⟩
        rw [upTo_next c hgd]
        have hkl := nextL_len c x.state inn
        have hg12 := hgd.g12
        obtain ⟨ks, hks⟩ : ∃ ks, nextL c x.state inn = ks := ⟨_, rfl⟩
        rw [hks] at hkl ⊢
        refine gl_op (op_rd rfl (rd_lenSlice Try.underlying23 rfl) ?_)
        refine gl_op (op_rd rfl (rd_move rfl) ?_)
        refine gl_nil ?_
        refine gx_then ?_
        refine gc_block ?_
        refine gc_loopF (ι := Nat × List Nd × Option Nat × Nat) [] [] (fun j => j.1 ≤ ks.length ∧ j.2.1 = expandP i x (ks.take j.1) ns ∧ (∀ x ∈ j.2.1, x.state < 2 ^ c.gates.length) ∧ j.2.1.length ≤ ns.length + j.1 ∧ ns.length ≤ j.2.1.length) (fun j G => ((6, .pointer (some ⟨b6, 0, none⟩)) :: (7, .func (.func 73) #[] #[.pointer (some ⟨b6, 0, none⟩), .pointer (some ⟨b2, 0, none⟩)]) :: (10, natV i) :: (11, .pointer (some ⟨b11, 0, none⟩)) :: (52, .slice (rowA rk) ks.length ck) :: (53, natV ks.length) :: (54, natV j.1) :: G)) (fun j G => (.row 3 1 rk ks.length ck (ks.map natV) :: .blk b11 (Nd.cells c inn x) 72 :: .blk b6 [.pointer (some ⟨b16, 0, none⟩)] 61 :: .blk b2 [.pointer (some pb)] 60 :: .blk b16 [.slice (rowA j.2.2.1) j.2.1.length j.2.2.2, .map (some b14)] 70 :: .row 72 4 j.2.2.1 j.2.1.length j.2.2.2 (j.2.1.flatMap (Nd.cells c inn)) :: .obj b14 (mapObj (plc j.2.1 0)) :: G)) (fun j => ks.length - j.1) (0, ns, r, cp) (⟨Nat.zero_le _, rfl, hsts, by simp only; omega, Nat.le_refl _⟩) ⟨rfl, rfl, rfl, rfl, rfl, rfl, rfl, trivial⟩ ⟨[0, 1, 2, 3, 4, 5, 6], by decide, rfl⟩ ?_
        rintro ⟨jk, ms, r, cp⟩ ⟨hjk0, hme, hsts2, hml, hml2⟩
        simp only at hjk0 hme hsts2 hml hml2 ⊢
        simp only [Nd.cells]
        refine gc_seq ?_
        refine gc_region ?_
        refine gl_op (op_rd rfl (rd_lss rfl rfl) (gk_dec (fun hlt => ?_) (fun hlt => ?_)))
        · skip
          have hjl : jk < ks.length := by omega
          have hkm : ks.getD jk 0 ∈ nextL c x.state inn := by rw [hks]; exact mem_getD (d := 0) hjl
          have hkk := nextL_lt hkm
          have hfl := flip_lt (k := ks.getD jk 0) hxs hkk
          have hal := addN_len ms (flip x.state (ks.getD jk 0)) (i : Int) (ks.getD jk 0)
          have hxs2 := st_lt hgd hxs
          have hpk := Nat.pow_le_pow_right (n := 2) (by decide) (show ks.getD jk 0 ≤ 12 by omega)
          have hshl : 1 <<< (ks.getD jk 0) ≤ 4096 := by rw [Nat.one_shiftLeft]; omega
          refine gl_nil ?_
          refine gx_then ?_
          refine gc_seq ?_
          refine gc_cond_t rfl ?_
          refine gc_skip ?_
          refine gx_then ?_
          refine gc_seq ?_
          refine gc_block ?_
          refine gc_seq ?_
          refine gc_region ?_
          refine gl_op (op_rd rfl (by first | exact rd_indexRow1 0 rfl Try.underlying23 ty_3 rfl rfl (by omega) (by omega) | exact rd_indexRow1 5 rfl Try.underlying23 ty_3 rfl rfl (by omega) (by omega) | exact rd_index1 Try.underlying23 ty_3 rfl rfl (by omega) (by omega)) ?_)
          refine gl_op (op_rd rfl (rd_load Try.underlying3 rfl rfl (ld_row 0 rfl (get_nats hjl))) ?_)
          refine gl_op (op_rd rfl (rd_assign rfl) ?_)
          refine gl_nil ?_
          refine gx_then ?_
          try simp only [Int.toNat_natCast]
          refine gc_drawP [0, 1] true 8 rfl ?_
          refine ga_first 0 #[true, false, false, false, false, false, false, false, false] rfl rfl rfl rfl (by kernel_rfl) rfl ⟨[0, 1], by decide, rfl⟩ (qt_rd (rd_move rfl)) ?_
          refine ga_first 1 #[true, true, false, false, false, false, false, false, false] rfl rfl rfl rfl (by kernel_rfl) rfl ⟨[0, 1], by decide, rfl⟩ (qt_rd (rd_fieldAddr rfl (fa_72_0 _))) ?_
          refine ga_first 2 #[true, true, true, false, false, false, false, false, false] rfl rfl rfl rfl (by kernel_rfl) rfl ⟨[0, 1], by decide, rfl⟩ (qt_rd (rd_load Try.underlying3 rfl rfl (by first | exact ld_blk 1 rfl rfl | exact ld_old (by assumption) (by simp)))) ?_
          refine ga_first 3 #[true, true, true, true, false, false, false, false, false] rfl rfl rfl rfl (by kernel_rfl) rfl ⟨[0, 1], by decide, rfl⟩ (qt_rd (rd_move rfl)) ?_
          refine ga_first 4 #[true, true, true, true, true, false, false, false, false] rfl rfl rfl rfl (by kernel_rfl) rfl ⟨[0, 1], by decide, rfl⟩ (qt_rd (rd_shl (a := 1) rfl rfl (by omega) (by omega))) ?_
          refine ga_first 5 #[true, true, true, true, true, true, false, false, false] rfl rfl rfl rfl (by kernel_rfl) rfl ⟨[0, 1], by decide, rfl⟩ (qt_rd (rd_xor rfl rfl (by omega) (by omega))) ?_
          refine ga_first 6 #[true, true, true, true, true, true, true, false, false] rfl rfl rfl rfl (by kernel_rfl) rfl ⟨[0, 1], by decide, rfl⟩ (qt_rd (rd_move rfl)) ?_
          refine ga_first 7 #[true, true, true, true, true, true, true, true, false] rfl rfl rfl rfl (by kernel_rfl) rfl ⟨[0, 1], by decide, rfl⟩ (qt_rd (rd_move rfl)) ?_
          refine ga_only 8 #[true, true, true, true, true, true, true, true, true] rfl rfl (by kernel_rfl) rfl (.inr ⟨[0, 1], by decide, rfl⟩) (op_callM [2, 3, 4, 5, 6] [0, 1] rfl (vf := []) (vc := [.pointer (some ⟨b6, 0, none⟩), .pointer (some ⟨b2, 0, none⟩)]) rfl rfl Try.call73 (by decide) rfl (fun w ho hc => add_ok c pb pc inn w0 w _ ho hbd hgd hin ms (flip x.state (ks.getD jk 0)) (ks.getD jk 0) (i : Int) b6 b2 b16 b14 r cp _ (placeS ho _) hc hfl (by omega)) ?_)
          rintro _ _ ⟨r2, cp2, rfl⟩
          refine ga_end (by kernel_rfl) (.inr ⟨[5, 6], by decide, rfl⟩) ?_
          refine gx_block ?_
          refine gx_then ?_
          refine gc_region ?_
          refine gl_op (op_rd rfl (rd_add rfl rfl (by omega) (by omega)) ?_)
          refine gl_op (op_rd rfl (rd_move rfl) ?_)
          refine gl_nil ?_
          refine gx_then ?_
          exact gx_cut ((jk + 1, addN ms (flip x.state (ks.getD jk 0)) (i : Int) (ks.getD jk 0), r2, cp2)) ⟨⟨by simp only; omega, by simp only; rw [hme, ← expandP_succ hjl], addN_all hsts2 hfl, by simp only; omega, by simp only; omega⟩, by simp only; omega⟩ ⟨rfl, rfl, rfl, rfl, rfl, rfl, rfl, trivial⟩ ⟨[5, 6, 0, 1, 2, 3, 4], by decide, rfl⟩
        · skip
          have hjk : jk = ks.length := by omega
          refine gl_nil ?_
          refine gx_then ?_
          refine gc_seq ?_
          refine gc_cond_f rfl ?_
          refine gc_exit ?_
          refine gx_then_exit ?_
          refine gx_then_exit ?_
          refine gx_block_exit ?_
          refine gx_block ?_
          refine gx_then ?_
          refine gc_region ?_
          refine gl_op (op_rd rfl (rd_move rfl) ?_)
          refine gl_op (op_rd rfl (rd_add rfl rfl (by omega) (by omega)) ?_)
          refine gl_op (op_rd rfl (rd_assign rfl) ?_)
          refine gl_nil ?_
          refine gx_then ?_
          exact gx_cut ((i + 1, ms, r, cp)) ⟨⟨by simp only; omega, by simp only; omega, by simp only; rw [show 1002 - (i + 1) = 1001 - i by omega, ← hgo, reachGo_step hx (by omega), hme, hjk, List.take_length, hks], hsts2, by simp only; omega⟩, by simp only; omega⟩ ⟨rfl, rfl, rfl, trivial⟩ ⟨[2, 3, 4, 5, 6], by decide, rfl⟩
    · skip
      refine gl_nil ?_
      refine gx_then ?_
      refine gc_cond_f rfl ?_
      refine gc_exit ?_
      refine gx_then_exit ?_
      refine gx_then_exit ?_
      refine gx_block_exit ?_
      refine gx_then ?_
      refine gc_seq ?_
      refine gc_drawP [0, 1, 2, 3, 4] true 8 rfl ?_
      refine ga_first 0 #[true, false, false, false, false, false, false, false, false] rfl rfl rfl rfl (by kernel_rfl) rfl ⟨[0, 1, 2, 3, 4], by decide, rfl⟩ (qt_rd (rd_load Try.underlying61 rfl rfl (by first | exact ld_blk 0 rfl rfl | exact ld_blk 1 rfl rfl | exact ld_blk 2 rfl rfl | exact ld_old (by assumption) (by simp)))) ?_
      refine ga_first 1 #[true, true, false, false, false, false, false, false, false] rfl rfl rfl rfl (by kernel_rfl) rfl ⟨[0, 1, 2, 3, 4], by decide, rfl⟩ (qt_rd (rd_load Try.underlying61 rfl rfl (by first | exact ld_blk 0 rfl rfl | exact ld_blk 1 rfl rfl | exact ld_blk 2 rfl rfl | exact ld_old (by assumption) (by simp)))) ?_
      refine ga_first 2 #[true, true, true, false, false, false, false, false, false] rfl rfl rfl rfl (by kernel_rfl) rfl ⟨[0, 1, 2, 3, 4], by decide, rfl⟩ (qt_rd (rd_nilCheck rfl)) ?_
      refine ga_first 3 #[true, true, true, true, false, false, false, false, false] rfl rfl rfl rfl (by kernel_rfl) rfl ⟨[0, 1, 2, 3, 4], by decide, rfl⟩ (qt_rd (rd_fieldAddr rfl (fa_70_0 _))) ?_
      refine ga_first 4 #[true, true, true, true, true, false, false, false, false] rfl rfl rfl rfl (by kernel_rfl) rfl ⟨[0, 1, 2, 3, 4], by decide, rfl⟩ (qt_rd (rd_load Try.underlying67 rfl rfl (by first | exact ld_blk 0 rfl rfl | exact ld_blk 1 rfl rfl | exact ld_blk 2 rfl rfl | exact ld_old (by assumption) (by simp)))) ?_
      refine ga_first 5 #[true, true, true, true, true, true, false, false, false] rfl rfl rfl rfl (by kernel_rfl) rfl ⟨[0, 1, 2, 3, 4], by decide, rfl⟩ (qt_rd (rd_lenSlice Try.underlying67 rfl)) ?_
      refine ga_first 6 #[true, true, true, true, true, true, true, false, false] rfl rfl rfl rfl (by kernel_rfl) rfl ⟨[0, 1, 2, 3, 4], by decide, rfl⟩ (qt_rd (rd_leq rfl rfl)) (gk_dec (fun hle => ?_) (fun hle => ?_))
      · skip
        refine ga_first 7 #[true, true, true, true, true, true, true, true, false] rfl rfl rfl rfl (by kernel_rfl) rfl ⟨[0, 1, 2, 3, 4], by decide, rfl⟩ (qt_rd (rd_assign rfl)) ?_
        refine ga_first 8 #[true, true, true, true, true, true, true, true, true] rfl rfl rfl rfl (by kernel_rfl) rfl ⟨[0, 1, 2, 3, 4], by decide, rfl⟩ (qt_rd (rd_assign rfl)) ?_
        refine ga_end (by kernel_rfl) (.inr ⟨[0, 1, 2, 3, 4], by decide, rfl⟩) ?_
        refine gx_then ?_
        refine gc_ret ?_
        refine gx_ret2 (.inl rfl) Try.results41 rfl rfl [2, 3, 4] (by decide) ?_
        exact .inl ⟨ns, b16, b14, r, cp, by rw [← hgo, reachGo_end (by omega), if_pos (by omega)], rfl, rfl⟩
      · skip
        refine ga_first 7 #[true, true, true, true, true, true, true, true, false] rfl rfl rfl rfl (by kernel_rfl) rfl ⟨[0, 1, 2, 3, 4], by decide, rfl⟩ (qt_rd (rd_assign rfl)) ?_
        refine ga_first 8 #[true, true, true, true, true, true, true, true, true] rfl rfl rfl rfl (by kernel_rfl) rfl ⟨[0, 1, 2, 3, 4], by decide, rfl⟩ (qt_rd (rd_assign rfl)) ?_
        refine ga_end (by kernel_rfl) (.inr ⟨[0, 1, 2, 3, 4], by decide, rfl⟩) ?_
        refine gx_then ?_
        refine gc_ret ?_
        refine gx_ret2 (.inl rfl) Try.results41 rfl rfl [] (by decide) ?_
        exact .inr ⟨by rw [← hgo, reachGo_end (by omega), if_neg (by omega)], _, rfl, rfl⟩

end Go.Proofs.Yteocjpnckciboaa

set_option autoImplicit false
set_option linter.unusedVariables false
namespace Go.Proofs.Yteocjpnckciboaa
open Go.Gv
open Go.RowKit
open Ry
set_option maxRecDepth 100000 in
set_option maxHeartbeats 1000000 in
theorem explore_ok (c : Circ) (pc : Addr) (st inn : Int) (w0 : World) (hc : c.In w0 []) (hp : Cells w0 pc c.cells) (hst : st ≤ 9223372036854775807) (hin : inn ≤ 9223372036854775807) : Sp Try.prog 38 [.pointer (some pc), .int .i64 st, .int .i64 inn] w0 [] (fun v l => (c.ready st inn = 0 ∧ ∃ ns b G m r cp, reachP c inn.toNat [st.toNat] = some ns ∧ v = .tuple #[.pointer (some ⟨b, 0, none⟩), .pointer (some ⟨G, 0, none⟩), .int .i64 0] ∧ l = [.blk G [.slice (rowA r) ns.length cp, .map (some m)] 70, .row 72 4 r ns.length cp (ns.flatMap (Nd.cells c inn.toNat)), .obj m (mapObj (plc ns 0)), .blk b [.pointer (some pc), .int .i64 inn] 97]) ∨ (c.ready st inn = 0 ∧ reachP c inn.toNat [st.toNat] = none ∧ v = .tuple #[.pointer none, .pointer none, .int .i64 5] ∧ l = []) ∨ (c.ready st inn ≠ 0 ∧ v = .tuple #[.pointer none, .pointer none, .int .i64 (c.ready st inn)] ∧ l = [])) := by
  refine spec_enter Try.func38 rfl Try.ntmps38 rfl (Own.refl _) ?_
  simp only [argEnv]
  refine gc_seq ?_
  refine gc_region ?_
  refine gl_op (op_rd rfl (rd_assign rfl) ?_)
  refine gl_op (op_rd rfl (rd_assign rfl) ?_)
  refine gl_op (op_rd rfl (rd_assign rfl) ?_)
  refine gl_nil ?_
  refine gx_then ?_
  refine gc_seq ?_
  refine gc_region ?_
  refine gl_op (op_rd rfl (rd_move rfl) ?_)
  refine gl_op (op_rd rfl (rd_move rfl) ?_)
  refine gl_op (op_rd rfl (rd_move rfl) ?_)
  refine gl_op (op_call rfl (vf := []) (vc := []) rfl rfl Try.call45 (fun w ho => lay_ok c pc st inn w (hc.at ho) (hp.at ho) hst hin) ?_)
  rintro _ _ (⟨hr, b, rfl, rfl⟩ | ⟨hr, rfl, rfl⟩)
  · skip
    obtain ⟨hck, h1, h2, h3, h4⟩ := Circ.of_ready hr
    have hgd := Circ.good hck
    obtain ⟨sn, rfl⟩ : ∃ n : Nat, st = n := ⟨st.toNat, by omega⟩
    obtain ⟨im, rfl⟩ : ∃ n : Nat, inn = n := ⟨inn.toNat, by omega⟩
    simp only [Int.toNat_natCast] at h2 h4 ⊢
    refine gl_op (op_rd rfl (rd_move rfl) ?_)
    refine gl_op (op_rd rfl (rd_extract rfl rfl) ?_)
    refine gl_op (op_rd rfl (rd_extract rfl rfl) ?_)
    refine gl_op (op_rd rfl (rd_assign rfl) ?_)
    refine gl_op (op_rd rfl (rd_assign rfl) ?_)
    refine gl_nil ?_
    refine gx_then ?_
    refine gc_seq ?_
    refine gc_seq ?_
    refine gc_region ?_
    refine gl_op (op_rd rfl (rd_move rfl) ?_)
    refine gl_op (op_rd rfl (rd_neq rfl rfl) (gk_dec (fun he => ?_) (fun he => ?_)))
    · skip
      exact absurd he (by simp)
    · skip
      refine gl_nil ?_
      refine gx_then ?_
      refine gc_cond_f rfl ?_
      refine gc_skip ?_
      refine gx_then ?_
      refine gc_seq ?_
      refine gc_region ?_
      refine gl_op (op_rd rfl (rd_move rfl) ?_)
      refine gl_op (op_rd rfl (rd_move rfl) ?_)
      refine gl_op (op_buildSlice (sz := 1) rfl rfl (fun _ => bs_23_1_0 _) rfl rfl (fun b26 => ?_))
      refine gl_op (op_call rfl (vf := []) (vc := []) rfl rfl Try.call41 (fun w ho => reach_ok c ⟨b, 0, none⟩ pc im [sn] (some ⟨b26, 0, none⟩) 1 w ⟨ho.blkCells 1 rfl, hp.at ho, hc.at ho⟩ hgd h4 (ho.rowSl 0 (r := some b26) rfl) (by simpa using h2) (by simp)) ?_)
      rintro _ _ (⟨ns, G, m, r, cp, hre, rfl, rfl⟩ | ⟨hre, p, rfl, rfl⟩)
      · skip
        refine gl_op (op_rd rfl (rd_move rfl) ?_)
        refine gl_op (op_rd rfl (rd_extract rfl rfl) ?_)
        refine gl_op (op_rd rfl (rd_extract rfl rfl) ?_)
        refine gl_op (op_rd rfl (rd_assign rfl) ?_)
        refine gl_op (op_rd rfl (rd_assign rfl) ?_)
        refine gl_nil ?_
        refine gx_then ?_
        refine gc_seq ?_
        refine gc_seq ?_
        refine gc_region ?_
        refine gl_op (op_rd rfl (rd_move rfl) ?_)
        refine gl_op (op_rd rfl (rd_not rfl) ?_)
        refine gl_nil ?_
        refine gx_then ?_
        refine gc_cond_f rfl ?_
        refine gc_skip ?_
        refine gx_then ?_
        refine gc_seq ?_
        refine gc_region ?_
        refine gl_op (op_rd rfl (rd_move rfl) ?_)
        refine gl_op (op_rd rfl (rd_move rfl) ?_)
        refine gl_op (op_rd rfl (rd_assign rfl) ?_)
        refine gl_op (op_rd rfl (rd_assign rfl) ?_)
        refine gl_op (op_rd rfl (rd_assign rfl) ?_)
        refine gl_nil ?_
        refine gx_then ?_
        refine gc_ret ?_
        refine gx_ret3 (.inl rfl) Try.results38 rfl rfl rfl [0, 1, 2, 4] (by decide) ?_
        exact .inl ⟨hr, ns, b, G, m, r, cp, hre, rfl, rfl⟩
      · skip
        refine gl_op (op_rd rfl (rd_move rfl) ?_)
        refine gl_op (op_rd rfl (rd_extract rfl rfl) ?_)
        refine gl_op (op_rd rfl (rd_extract rfl rfl) ?_)
        refine gl_op (op_rd rfl (rd_assign rfl) ?_)
        refine gl_op (op_rd rfl (rd_assign rfl) ?_)
        refine gl_nil ?_
        refine gx_then ?_
        refine gc_seq ?_
        refine gc_seq ?_
        refine gc_region ?_
        refine gl_op (op_rd rfl (rd_move rfl) ?_)
        refine gl_op (op_rd rfl (rd_not rfl) ?_)
        refine gl_nil ?_
        refine gx_then ?_
        refine gc_cond_t rfl ?_
        refine gc_seq ?_
        refine gc_region ?_
        refine gl_op (op_rd rfl (rd_assign rfl) ?_)
        refine gl_op (op_rd rfl (rd_assign rfl) ?_)
        refine gl_op (op_rd rfl (rd_assign rfl) ?_)
        refine gl_nil ?_
        refine gx_then ?_
        refine gc_ret ?_
        refine gx_then_ret ?_
        refine gx_ret3 (.inl rfl) Try.results38 rfl rfl rfl [] (by decide) ?_
        exact .inr (.inl ⟨hr, hre, rfl, rfl⟩)
  · skip
    refine gl_op (op_rd rfl (rd_move rfl) ?_)
    refine gl_op (op_rd rfl (rd_extract rfl rfl) ?_)
    refine gl_op (op_rd rfl (rd_extract rfl rfl) ?_)
    refine gl_op (op_rd rfl (rd_assign rfl) ?_)
    refine gl_op (op_rd rfl (rd_assign rfl) ?_)
    refine gl_nil ?_
    refine gx_then ?_
    refine gc_seq ?_
    refine gc_seq ?_
    refine gc_region ?_
    refine gl_op (op_rd rfl (rd_move rfl) ?_)
    refine gl_op (op_rd rfl (rd_neq rfl rfl) (gk_dec (fun he => ?_) (fun he => ?_)))
    · skip
      refine gl_nil ?_
      refine gx_then ?_
      refine gc_cond_t rfl ?_
      refine gc_seq ?_
      refine gc_region ?_
      refine gl_op (op_rd rfl (rd_move rfl) ?_)
      refine gl_op (op_rd rfl (rd_assign rfl) ?_)
      refine gl_op (op_rd rfl (rd_assign rfl) ?_)
      refine gl_op (op_rd rfl (rd_assign rfl) ?_)
      refine gl_nil ?_
      refine gx_then ?_
      refine gc_ret ?_
      refine gx_then_ret ?_
      refine gx_ret3 (.inl rfl) Try.results38 rfl rfl rfl [] (by decide) ?_
      exact .inr (.inr ⟨hr, rfl, rfl⟩)
    · skip
      exact absurd he (by simpa using hr)

set_option maxRecDepth 100000 in
set_option maxHeartbeats 1000000 in
theorem settled1_ok (c : Circ) (inn : Nat) (x : Nd) (w0 : World) : Sp Try.prog 72 [x.val c inn] w0 [] (RV (.bool (isRest c inn x))) := by
  refine spec_enter Try.func72 rfl Try.ntmps72 rfl (Own.refl _) ?_
  simp only [argEnv]
  refine gc_seq ?_
  refine gc_region ?_
  refine gl_op (op_box rfl rfl rfl (fun b1 => ?_))
  refine gl_op (op_rd rfl (rd_assign rfl) ?_)
  refine gl_nil ?_
  refine gx_then ?_
  refine gc_seq ?_
  refine gc_region ?_
  refine gl_op (op_rd rfl (rd_fieldAddr rfl (fa_72_1 _)) ?_)
  refine gl_op (op_rd rfl (rd_load Try.underlying3 rfl rfl (by first | exact ld_blk 0 rfl rfl | exact ld_old (by assumption) (by simp))) ?_)
  refine gl_op (op_rd rfl (rd_eql rfl rfl) ?_)
  refine gl_op (op_rd rfl (rd_assign rfl) ?_)
  refine gl_nil ?_
  refine gx_then ?_
  refine gc_ret ?_
  refine gx_ret1 (.inl rfl) Try.results72 rfl [] (by decide) ?_
  exact ⟨congrArg Value.bool (by unfold isRest; rw [Bool.eq_iff_iff]; simp), rfl⟩

set_option maxRecDepth 100000 in
set_option maxHeartbeats 1000000 in
theorem glitches1_ok (c : Circ) (inn : Nat) (x : Nd) (pk : Addr) (k : Nat) (w0 : World) (hgd : c.Good) (hk : w0.cell? pk = some (natV k)) (hk12 : k < 12) : Sp Try.prog 43 [x.val c inn, .pointer (some pk)] w0 [] (RV (.bool ((nextM c x.state inn).testBit k))) := by
  refine spec_enter Try.func43 rfl Try.ntmps43 rfl (Own.refl _) ?_
  simp only [argEnv]
  refine gc_seq ?_
  refine gc_region ?_
  refine gl_op (op_box rfl rfl rfl (fun b2 => ?_))
  refine gl_op (op_rd rfl (rd_assign rfl) ?_)
  refine gl_nil ?_
  refine gx_then ?_
  refine gc_seq ?_
  refine gc_region ?_
  refine gl_op (op_rd rfl (rd_fieldAddr rfl (fa_72_1 _)) ?_)
  refine gl_op (op_rd rfl (rd_load Try.underlying3 rfl rfl (by first | exact ld_blk 0 rfl rfl | exact ld_old (by assumption) (by simp))) ?_)
  refine gl_op (op_rd rfl (rd_load Try.underlying3 rfl rfl (ld_old hk (by simp))) ?_)
  have hsr := Nat.shiftRight_le (nextM c x.state inn) k
  have hn4 : nextM c x.state inn < 4096 := nextM_lt hgd
  refine gl_op (op_rd rfl (rd_shr rfl rfl (by omega)) ?_)
  refine gl_op (op_rd rfl (rd_and (b := 1) rfl rfl (by omega) (by omega)) ?_)
  refine gl_op (op_rd rfl (rd_eql rfl rfl) ?_)
  refine gl_op (op_rd rfl (rd_assign rfl) ?_)
  refine gl_nil ?_
  refine gx_then ?_
  refine gc_ret ?_
  refine gx_ret1 (.inl rfl) Try.results43 rfl [] (by decide) ?_
  exact ⟨congrArg Value.bool (test_dec _ _), rfl⟩

set_option maxRecDepth 100000 in
set_option maxHeartbeats 1000000 in
theorem indexNodes_ok (c : Circ) (inn : Nat) (zs : List Nd) (a : Option Addr) (cp : Nat) (F : Nat) (caps : List Value) (p : Nd → Bool) (w0 : World) (hsl : OldSl w0 [] a zs.length 4 (zs.flatMap (Nd.cells c inn))) (hb : zs.length ≤ 140737488355328) (hcall : ∀ args w, (callFunc F args).run Try.prog w = .ok (.enter F args) w) (hf : ∀ k, k < zs.length → ∀ w, Own w0 [] w [] → Sp Try.prog F ((zs.getD k default).val c inn :: caps) w [] (RV (.bool (p (zs.getD k default))))) : Sp Try.prog 71 [.slice a zs.length cp, .func (.func F) #[] caps.toArray] w0 [] (RV (.int .i64 (idx p zs 0))) := by
  refine spec_enter Try.func71 rfl Try.ntmps71 rfl (Own.refl _) ?_
  simp only [argEnv]
  refine gc_seq ?_
  refine gc_region ?_
  refine gl_op (op_rd rfl (rd_assign rfl) ?_)
  refine gl_nil ?_
  refine gx_then ?_
  refine gc_seq ?_
  refine gc_seq ?_
  refine gc_region ?_
  refine gl_op (op_rd rfl (rd_move rfl) ?_)
  refine gl_op (op_rd rfl (rd_lenSlice Try.underlying67 rfl) ?_)
  refine gl_op (op_rd rfl (rd_move rfl) ?_)
  refine gl_nil ?_
  refine gx_then ?_
  refine gc_block ?_
  refine gc_loopF (ι := Nat) [] [] (fun j => j ≤ zs.length ∧ ∀ i, i < j → p (zs.getD i default) = false) (fun j G => ((0, .slice a zs.length cp) :: (1, .func (.func F) #[] caps.toArray) :: (7, natV zs.length) :: (8, natV j) :: G)) (fun j G => G) (fun j => zs.length - j) 0 (⟨Nat.zero_le _, fun i h => absurd h (Nat.not_lt_zero i)⟩) ⟨rfl, rfl, rfl, rfl, trivial⟩ ⟨[], by decide, rfl⟩ ?_
  rintro k ⟨hk, hno⟩
  refine gc_seq ?_
  refine gc_region ?_
  refine gl_op (op_rd rfl (rd_lss rfl rfl) (gk_dec (fun hlt => ?_) (fun hlt => ?_)))
  · skip
    refine gl_nil ?_
    refine gx_then ?_
    refine gc_seq ?_
    refine gc_cond_t rfl ?_
    refine gc_skip ?_
    refine gx_then ?_
    refine gc_seq ?_
    refine gc_block ?_
    refine gc_seq ?_
    refine gc_region ?_
    refine gl_op (op_rd rfl (rd_move rfl) ?_)
    refine gl_op (op_rd rfl (rd_assign rfl) ?_)
    refine gl_nil ?_
    refine gx_then ?_
    refine gc_seq ?_
    refine gc_region ?_
    refine gl_op (op_rd rfl (rd_move rfl) ?_)
    refine gl_op (op_rd rfl (rd_move rfl) ?_)
    refine gl_op (op_rd rfl (rd_move rfl) ?_)
    refine gl_op (op_rd rfl (rd_indexOld hsl Try.underlying67 ty_72 rfl rfl (by omega) (by omega)) ?_)
    refine gl_op (op_rd rfl (rd_loadAgg Try.underlying72 rfl ty_72 rfl (cs_sl hsl (flat_drop (Nd.cells c inn) 4 (fun _ => rfl) default zs k (by omega))) rfl) ?_)
    refine gl_op (op_call rfl (vf := []) (vc := caps) rfl rfl hcall (fun w ho => hf k (by omega) w (ho.pick [] (by decide))) ?_)
    rintro _ _ ⟨rfl, rfl⟩
    refine gk_bool (fun hp => ?_) (fun hp => ?_)
    · skip
      have hpt : p (zs.getD k default) = true := hp
      refine gl_nil ?_
      refine gx_then ?_
      refine gc_cond_t rfl ?_
      refine gc_seq ?_
      refine gc_region ?_
      refine gl_op (op_rd rfl (rd_move rfl) ?_)
      refine gl_op (op_rd rfl (rd_assign rfl) ?_)
      refine gl_nil ?_
      refine gx_then ?_
      refine gc_ret ?_
      refine gx_block_ret ?_
      refine gx_then_ret ?_
      refine gx_then_ret ?_
      refine gx_block_ret ?_
      refine gx_then_ret ?_
      refine gx_ret1 (.inl rfl) Try.results71 rfl [] (by decide) ?_
      exact ⟨by rw [idx_stop p default zs 0 k (by omega) hno hpt]; simp, rfl⟩
    · skip
      have hpf : p (zs.getD k default) = false := by simpa using hp
      refine gl_nil ?_
      refine gx_then ?_
      refine gc_cond_f rfl ?_
      refine gc_skip ?_
      refine gx_block ?_
      refine gx_then ?_
      refine gc_region ?_
      refine gl_op (op_rd rfl (rd_add rfl rfl (by omega) (by omega)) ?_)
      refine gl_op (op_rd rfl (rd_move rfl) ?_)
      refine gl_nil ?_
      refine gx_then ?_
      exact gx_cut (k + 1) ⟨⟨by omega, fun i hi => by rcases Nat.lt_succ_iff_lt_or_eq.1 hi with h | rfl; exact hno i h; exact hpf⟩, by omega⟩ ⟨rfl, rfl, rfl, rfl, trivial⟩ ⟨[], by decide, rfl⟩
  · skip
    refine gl_nil ?_
    refine gx_then ?_
    refine gc_seq ?_
    refine gc_cond_f rfl ?_
    refine gc_exit ?_
    refine gx_then_exit ?_
    refine gx_then_exit ?_
    refine gx_block_exit ?_
    refine gx_then ?_
    refine gc_seq ?_
    refine gc_region ?_
    refine gl_op (op_rd rfl (rd_assign rfl) ?_)
    refine gl_nil ?_
    refine gx_then ?_
    refine gc_ret ?_
    refine gx_ret1 (.inl rfl) Try.results71 rfl [] (by decide) ?_
    exact ⟨by rw [idx_none p default zs 0 (fun j hj => hno j (by omega))], rfl⟩

set_option maxRecDepth 100000 in
set_option maxHeartbeats 1000000 in
theorem containsNodes_ok (c : Circ) (inn : Nat) (zs : List Nd) (a : Option Addr) (cp : Nat) (F : Nat) (caps : List Value) (p : Nd → Bool) (w0 : World) (hsl : OldSl w0 [] a zs.length 4 (zs.flatMap (Nd.cells c inn))) (hb : zs.length ≤ 140737488355328) (hcall : ∀ args w, (callFunc F args).run Try.prog w = .ok (.enter F args) w) (hf : ∀ k, k < zs.length → ∀ w, Own w0 [] w [] → Sp Try.prog F ((zs.getD k default).val c inn :: caps) w [] (RV (.bool (p (zs.getD k default))))) : Sp Try.prog 42 [.slice a zs.length cp, .func (.func F) #[] caps.toArray] w0 [] (RV (.bool (zs.any p))) := by
  refine spec_enter Try.func42 rfl Try.ntmps42 rfl (Own.refl _) ?_
  simp only [argEnv]
  refine gc_seq ?_
  refine gc_region ?_
  refine gl_op (op_rd rfl (rd_assign rfl) ?_)
  refine gl_nil ?_
  refine gx_then ?_
  refine gc_seq ?_
  refine gc_region ?_
  refine gl_op (op_rd rfl (rd_move rfl) ?_)
  refine gl_op (op_rd rfl (rd_move rfl) ?_)
  refine gl_op (op_call rfl (vf := []) (vc := []) rfl rfl Try.call71 (fun w ho => indexNodes_ok c inn zs a cp F caps p w (hsl.at ho) hb hcall (fun k hk w2 ho2 => hf k hk w2 (ho.trans ho2))) ?_)
  rintro _ _ ⟨rfl, rfl⟩
  refine gl_op (op_rd rfl (rd_geq rfl rfl) ?_)
  refine gl_op (op_rd rfl (rd_assign rfl) ?_)
  refine gl_nil ?_
  refine gx_then ?_
  refine gc_ret ?_
  refine gx_ret1 (.inl rfl) Try.results42 rfl [] (by decide) ?_
  exact ⟨by rw [idx_any], rfl⟩

set_option maxRecDepth 100000 in
set_option maxHeartbeats 1000000 in
theorem settled_ok (c : Circ) (inn : Nat) (ns : List Nd) (pg : Addr) (a : Option Addr) (gcp m : Nat) (w0 : World) (hg : GraphIn c inn ns pg a gcp m w0) (hlen : ns.length ≤ 100000) (hrest : ∃ x ∈ ns, isRest c inn x = true) : Sp Try.prog 40 [.pointer (some pg)] w0 [] (RV (natV (settledP c inn ns))) := by
  refine spec_enter Try.func40 rfl Try.ntmps40 rfl (Own.refl _) ?_
  simp only [argEnv]
  refine gc_seq ?_
  refine gc_region ?_
  refine gl_op (op_rd rfl (rd_assign rfl) ?_)
  refine gl_nil ?_
  refine gx_then ?_
  refine gc_seq ?_
  refine gc_region ?_
  refine gl_op (op_rd rfl (rd_move rfl) ?_)
  refine gl_op (op_rd rfl (rd_nilCheck rfl) ?_)
  refine gl_op (op_rd rfl (rd_fieldAddr rfl (fa_70_0 _)) ?_)
  refine gl_op (op_rd rfl (rd_load Try.underlying67 rfl rfl (ld_cells hg.g (by simp) rfl)) ?_)
  refine gl_op (op_call rfl (vf := []) (vc := []) rfl rfl Try.call71 (fun w ho => indexNodes_ok c inn ns a gcp 72 [] (isRest c inn) w (hg.row.at ho) (by omega) Try.call72 (fun k hk w2 ho2 => settled1_ok c inn _ w2)) ?_)
  rintro _ _ ⟨rfl, rfl⟩
  obtain ⟨k, x, hk, hx, hix, hsx⟩ := settled_at hrest
  rw [hix]
  refine gl_op (op_rd rfl (rd_assign rfl) ?_)
  refine gl_nil ?_
  refine gx_then ?_
  refine gc_seq ?_
  refine gc_region ?_
  refine gl_op (op_rd rfl (rd_move rfl) ?_)
  refine gl_op (op_rd rfl (rd_nilCheck rfl) ?_)
  refine gl_op (op_rd rfl (rd_fieldAddr rfl (fa_70_0 _)) ?_)
  refine gl_op (op_rd rfl (rd_load Try.underlying67 rfl rfl (ld_cells hg.g (by simp) rfl)) ?_)
  refine gl_op (op_rd rfl (rd_move rfl) ?_)
  have hkl := (List.getElem?_eq_some_iff.1 hx).1
  refine gl_op (op_rd rfl (rd_indexOld hg.row Try.underlying67 ty_72 rfl rfl (by omega) (by omega)) ?_)
  refine gl_op (op_rd rfl (rd_fieldAddr rfl (fa_72_0 _)) ?_)
  refine gl_op (op_rd rfl (rd_load Try.underlying3 rfl rfl (ld_slf hg.row (get_flat (Nd.cells c inn) 4 (fun _ => rfl) hx (j := 0) (by decide) rfl))) ?_)
  refine gl_op (op_rd rfl (rd_assign rfl) ?_)
  refine gl_nil ?_
  refine gx_then ?_
  refine gc_ret ?_
  refine gx_ret1 (.inl rfl) Try.results40 rfl [] (by decide) ?_
  exact ⟨by rw [hsx], rfl⟩

end Go.Proofs.Yteocjpnckciboaa

set_option autoImplicit false
set_option linter.unusedVariables false
namespace Go.Proofs.Yteocjpnckciboaa
open Go.Gv
open Go.RowKit
open Ry
set_option maxRecDepth 100000 in
set_option maxHeartbeats 1000000 in
theorem ends_ok (c : Circ) (inn : Nat) (ns : List Nd) (pg : Addr) (a : Option Addr) (gcp m : Nat) (w0 : World) (hg : GraphIn c inn ns pg a gcp m w0) (hgr : Gr c inn ns) (hgd : c.Good) : Sp Try.prog 69 [.pointer (some pg)] w0 [] (RV (.bool (endsP c inn ns))) := by
  have hlen := hgr.len
  refine spec_enter Try.func69 rfl Try.ntmps69 rfl (Own.refl _) ?_
  simp only [argEnv]
  refine gc_seq ?_
  refine gc_region ?_
  refine gl_op (op_rd rfl (rd_assign rfl) ?_)
  refine gl_nil ?_
  refine gx_then ?_
  refine gc_seq ?_
  refine gc_region ?_
  refine gl_op (op_rd rfl (rd_move rfl) ?_)
  refine gl_op (op_rd rfl (rd_nilCheck rfl) ?_)
  refine gl_op (op_rd rfl (rd_fieldAddr rfl (fa_70_0 _)) ?_)
  refine gl_op (op_rd rfl (rd_load Try.underlying67 rfl rfl (ld_cells hg.g (by simp) rfl)) ?_)
  refine gl_op (op_rd rfl (rd_lenSlice Try.underlying67 rfl) ?_)
  refine gl_op (op_makeSlice (ns.length) Try.underlying23 ty_3 rfl rfl rfl (by omega) (by omega) (by omega) (by omega) (fun b21 => ?_))
  refine gl_op (op_rd rfl (rd_assign rfl) ?_)
  refine gl_nil ?_
  refine gx_then ?_
  refine gc_seq ?_
  refine gc_seq ?_
  rw [made_one _ rfl]
  refine gc_region ?_
  refine gl_op (op_rd rfl (rd_move rfl) ?_)
  refine gl_op (op_rd rfl (rd_nilCheck rfl) ?_)
  refine gl_op (op_rd rfl (rd_fieldAddr rfl (fa_70_0 _)) ?_)
  refine gl_op (op_rd rfl (rd_load Try.underlying67 rfl rfl (ld_cells hg.g (by simp) rfl)) ?_)
  refine gl_op (op_rd rfl (rd_lenSlice Try.underlying67 rfl) ?_)
  refine gl_op (op_rd rfl (rd_move rfl) ?_)
  refine gl_nil ?_
  refine gx_then ?_
  refine gc_block ?_
  refine gc_loopF (ι := Nat × List Int × List Value) [] [] (fun j => j.1 ≤ ns.length ∧ j.2.1 = ((ns.take j.1).flatMap (succs c inn ns)).foldl (bump 1) (List.replicate ns.length 0) ∧ Bd ns.length 0 (12 * j.1) j.2.1 ∧ j.2.2 = j.2.1.map intV) (fun j G => ((0, .pointer (some pg)) :: (3, .slice (rowA (some b21)) ns.length ns.length) :: (25, .slice a ns.length gcp) :: (26, natV ns.length) :: (27, natV j.1) :: G)) (fun j G => (.row 3 1 (some b21) ns.length ns.length j.2.2 :: G)) (fun j => ns.length - j.1) (0, List.replicate ns.length 0, List.replicate ns.length (intV 0)) (⟨Nat.zero_le _, rfl, ⟨by simp, fun p => by simp [List.getD, List.getElem?_replicate]; split <;> simp⟩, by simp⟩) ⟨rfl, rfl, rfl, rfl, rfl, trivial⟩ ⟨[0], by decide, rfl⟩ ?_
  rintro ⟨i, to, cs⟩ ⟨hi, hto, hbd, hcs⟩
  simp only at hi hto hbd hcs ⊢
  refine gc_seq ?_
  refine gc_region ?_
  refine gl_op (op_rd rfl (rd_lss rfl rfl) (gk_dec (fun hlt => ?_) (fun hlt => ?_)))
  · skip
    obtain ⟨x, hx⟩ : ∃ y, ns[i]? = some y := ⟨ns[i]'(by omega), List.getElem?_eq_getElem (by omega)⟩
    refine gl_nil ?_
    refine gx_then ?_
    refine gc_seq ?_
    refine gc_cond_t rfl ?_
    refine gc_skip ?_
    refine gx_then ?_
    refine gc_seq ?_
    refine gc_block ?_
    refine gc_seq ?_
    refine gc_region ?_
    refine gl_op (op_rd rfl (rd_indexOld hg.row Try.underlying67 ty_72 rfl rfl (by omega) (by omega)) ?_)
    refine gl_op (op_rd rfl (rd_loadAgg Try.underlying72 rfl ty_72 rfl (cs_sl hg.row (flat_drop_get (Nd.cells c inn) 4 (fun _ => rfl) hx)) rfl) ?_)
    refine gl_op (op_alloc ty_72 rfl rfl (fun b5 => ?_))
    refine gl_op (op_storeAgg 0 ty_72 rfl rfl rfl rfl rfl rfl (by first | rfl | (simp only [List.set_cons_succ, List.set_cons_zero]; exact rfl)) ?_)
    refine gl_nil ?_
    refine gx_then ?_
    refine gc_seq ?_
    refine gc_region ?_
    refine gl_op (op_rd rfl (rd_fieldAddr rfl (fa_72_1 _)) ?_)
    refine gl_op (op_rd rfl (rd_load Try.underlying3 rfl rfl (by first | exact ld_blk 0 rfl rfl | exact ld_old (by assumption) (by simp))) ?_)
    have hxs : x.state < 2 ^ c.gates.length := hgr.st x (List.mem_of_getElem? hx)
    refine gl_op (op_call rfl (vf := []) (vc := []) rfl rfl Try.call46 (fun w ho => bits_ok (nextM c x.state inn) (nextM_lt hgd) w) ?_)
    rintro _ _ ⟨rk, ck, rfl, rfl⟩
    rw [upTo_next c hgd]
    have hkl := nextL_len c x.state inn
    have hg12 := hgd.g12
    obtain ⟨ks, hks⟩ : ∃ ks, nextL c x.state inn = ks := ⟨_, rfl⟩
    rw [hks] at hkl ⊢
    refine gl_op (op_rd rfl (rd_lenSlice Try.underlying23 rfl) ?_)
    refine gl_op (op_rd rfl (rd_move rfl) ?_)
    refine gl_nil ?_
    refine gx_then ?_
    refine gc_block ?_
    refine gc_loopF (ι := Nat × List Int × List Value) [] [] (fun j => j.1 ≤ ks.length ∧ j.2.1 = ((succs c inn ns x).take j.1).foldl (bump 1) to ∧ Bd ns.length 0 (12 * i + j.1) j.2.1 ∧ j.2.2 = j.2.1.map intV) (fun j G => ((0, .pointer (some pg)) :: (3, .slice (rowA (some b21)) ns.length ns.length) :: (25, .slice a ns.length gcp) :: (26, natV ns.length) :: (27, natV i) :: (5, .pointer (some ⟨b5, 0, none⟩)) :: (33, .slice (rowA rk) ks.length ck) :: (34, natV ks.length) :: (35, natV j.1) :: G)) (fun j G => (.row 3 1 rk ks.length ck (ks.map natV) :: .blk b5 (Nd.cells c inn x) 72 :: .row 3 1 (some b21) ns.length ns.length j.2.2 :: G)) (fun j => ks.length - j.1) (0, to, cs) (⟨Nat.zero_le _, rfl, by simpa using hbd, hcs⟩) ⟨rfl, rfl, rfl, rfl, rfl, rfl, rfl, rfl, rfl, trivial⟩ ⟨[0, 1, 2], by decide, rfl⟩ ?_
    rintro ⟨jk, t2, cs2⟩ ⟨hjk0, ht2, hbd2, hcs2⟩
    simp only at hjk0 ht2 hbd2 hcs2 ⊢
    simp only [Nd.cells]
    refine gc_seq ?_
    refine gc_region ?_
    refine gl_op (op_rd rfl (rd_lss rfl rfl) (gk_dec (fun hlt2 => ?_) (fun hlt2 => ?_)))
    · skip
      have hjl : jk < ks.length := by omega
      have hkm : ks.getD jk 0 ∈ nextL c x.state inn := by rw [hks]; exact mem_getD (d := 0) hjl
      have hkk := nextL_lt hkm
      have hxs2 := st_lt hgd hxs
      have hpk := Nat.pow_le_pow_right (n := 2) (by decide) (show ks.getD jk 0 ≤ 12 by omega)
      have hshl : 1 <<< (ks.getD jk 0) ≤ 4096 := by rw [Nat.one_shiftLeft]; omega
      obtain ⟨hpl, hple⟩ := pl_lt ns (flip x.state (ks.getD jk 0)) (by omega)
      have hst := succs_take (c := c) (inn := inn) (ns := ns) (x := x) (j := jk) (by rw [hks]; exact hjl)
      rw [hks] at hst
      obtain ⟨p, hpe⟩ : ∃ p, pl ns (flip x.state (ks.getD jk 0)) = p := ⟨_, rfl⟩
      rw [hpe] at hpl hple hst
      have hbp := hbd2.bd p
      have htl := hbd2.len
      have hcl : cs2.length = ns.length := by rw [hcs2, List.length_map, htl]
      have hlen := hgr.len
      refine gl_nil ?_
      refine gx_then ?_
      refine gc_seq ?_
      refine gc_cond_t rfl ?_
      refine gc_skip ?_
      refine gx_then ?_
      refine gc_seq ?_
      refine gc_block ?_
      refine gc_seq ?_
      refine gc_region ?_
      refine gl_op (op_rd rfl (by first | exact rd_indexRow1 0 rfl Try.underlying23 ty_3 rfl rfl (by omega) (by omega) | exact rd_indexRow1 2 rfl Try.underlying23 ty_3 rfl rfl (by omega) (by omega) | exact rd_index1 Try.underlying23 ty_3 rfl rfl (by omega) (by omega)) ?_)
      refine gl_op (op_rd rfl (rd_load Try.underlying3 rfl rfl (ld_row 0 rfl (get_nats hjl))) ?_)
      refine gl_op (op_rd rfl (rd_assign rfl) ?_)
      refine gl_nil ?_
      refine gx_then ?_
      try simp only [Int.toNat_natCast]
      refine gc_drawP [0, 1, 2] false 15 rfl ?_
      refine ga_first 0 #[true, false, false, false, false, false, false, false, false, false, false, false, false, false, false, false] rfl rfl rfl rfl (by kernel_rfl) rfl ⟨[0, 1, 2], by decide, rfl⟩ (qt_rd (rd_move rfl)) ?_
      refine ga_first 1 #[true, true, false, false, false, false, false, false, false, false, false, false, false, false, false, false] rfl rfl rfl rfl (by kernel_rfl) rfl ⟨[0, 1, 2], by decide, rfl⟩ (qt_rd (rd_move rfl)) ?_
      refine ga_first 2 #[true, true, true, false, false, false, false, false, false, false, false, false, false, false, false, false] rfl rfl rfl rfl (by kernel_rfl) rfl ⟨[0, 1, 2], by decide, rfl⟩ (qt_rd (rd_nilCheck rfl)) ?_
      refine ga_first 3 #[true, true, true, true, false, false, false, false, false, false, false, false, false, false, false, false] rfl rfl rfl rfl (by kernel_rfl) rfl ⟨[0, 1, 2], by decide, rfl⟩ (qt_rd (rd_fieldAddr rfl (fa_70_1 _))) ?_
      refine ga_first 4 #[true, true, true, true, true, false, false, false, false, false, false, false, false, false, false, false] rfl rfl rfl rfl (by kernel_rfl) rfl ⟨[0, 1, 2], by decide, rfl⟩ (qt_rd (rd_load Try.underlying68 rfl rfl (ld_cells hg.g (by simp) (j := 1) rfl))) ?_
      refine ga_first 5 #[true, true, true, true, true, true, false, false, false, false, false, false, false, false, false, false] rfl rfl rfl rfl (by kernel_rfl) rfl ⟨[0, 1, 2], by decide, rfl⟩ (qt_rd (rd_fieldAddr rfl (fa_72_0 _))) ?_
      refine ga_first 6 #[true, true, true, true, true, true, true, false, false, false, false, false, false, false, false, false] rfl rfl rfl rfl (by kernel_rfl) rfl ⟨[0, 1, 2], by decide, rfl⟩ (qt_rd (rd_load Try.underlying3 rfl rfl (by first | exact ld_blk 1 rfl rfl | exact ld_old (by assumption) (by simp)))) ?_
      refine ga_first 7 #[true, true, true, true, true, true, true, true, false, false, false, false, false, false, false, false] rfl rfl rfl rfl (by kernel_rfl) rfl ⟨[0, 1, 2], by decide, rfl⟩ (qt_rd (rd_move rfl)) ?_
      refine ga_first 8 #[true, true, true, true, true, true, true, true, true, false, false, false, false, false, false, false] rfl rfl rfl rfl (by kernel_rfl) rfl ⟨[0, 1, 2], by decide, rfl⟩ (qt_rd (rd_shl (a := 1) rfl rfl (by omega) (by omega))) ?_
      refine ga_first 9 #[true, true, true, true, true, true, true, true, true, true, false, false, false, false, false, false] rfl rfl rfl rfl (by kernel_rfl) rfl ⟨[0, 1, 2], by decide, rfl⟩ (qt_rd (rd_xor rfl rfl (by omega) (by omega))) ?_
      refine ga_first 10 #[true, true, true, true, true, true, true, true, true, true, true, false, false, false, false, false] rfl rfl rfl rfl (by kernel_rfl) rfl ⟨[0, 1, 2], by decide, rfl⟩ (qt_rd (rd_lookupOld hg.m (by simp) Try.underlying68 Try.underlying3 ty_3 rfl rfl)) ?_
      rw [show (lk ((x.state ^^^ 1 <<< ks.getD jk 0 : Nat) : Int) (plc ns 0)).getD 0 = (p : Int) from hple]
      refine ga_first 11 #[true, true, true, true, true, true, true, true, true, true, true, true, false, false, false, false] rfl rfl rfl rfl (by kernel_rfl) rfl ⟨[0, 1, 2], by decide, rfl⟩ (qt_rd (by first | exact rd_indexRow1 0 rfl Try.underlying23 ty_3 rfl rfl (by omega) (by omega) | exact rd_indexRow1 2 rfl Try.underlying23 ty_3 rfl rfl (by omega) (by omega) | exact rd_index1 Try.underlying23 ty_3 rfl rfl (by omega) (by omega))) ?_
      refine ga_first 12 #[true, true, true, true, true, true, true, true, true, true, true, true, true, false, false, false] rfl rfl rfl rfl (by kernel_rfl) rfl ⟨[0, 1, 2], by decide, rfl⟩ (qt_rd (rd_load Try.underlying3 rfl rfl (ld_row 2 rfl (by rw [hcs2]; exact get_ints (show p < t2.length by omega))))) ?_
      try simp only [Int.toNat_natCast]
      refine ga_first 13 #[true, true, true, true, true, true, true, true, true, true, true, true, true, true, false, false] rfl rfl rfl rfl (by kernel_rfl) rfl ⟨[0, 1, 2], by decide, rfl⟩ (qt_rd (rd_add rfl rfl (by omega) (by omega))) ?_
      refine ga_first 14 #[true, true, true, true, true, true, true, true, true, true, true, true, true, true, true, false] rfl rfl rfl rfl (by kernel_rfl) rfl ⟨[0, 1, 2], by decide, rfl⟩ (qt_rd (by first | exact rd_indexRow1 0 rfl Try.underlying23 ty_3 rfl rfl (by omega) (by omega) | exact rd_indexRow1 2 rfl Try.underlying23 ty_3 rfl rfl (by omega) (by omega) | exact rd_index1 Try.underlying23 ty_3 rfl rfl (by omega) (by omega))) ?_
      first | refine ga_only 15 #[true, true, true, true, true, true, true, true, true, true, true, true, true, true, true, true] rfl rfl (by kernel_rfl) rfl (.inr ⟨[0, 1, 2], by decide, rfl⟩) (op_store 1 ty_3 rfl rfl rfl rfl rfl (by first | rfl | (simp only [List.set_cons_succ, List.set_cons_zero]; exact rfl)) (by first | rfl | (simp only [List.set_cons_succ, List.set_cons_zero]; exact rfl)) ?_) | refine ga_only 15 #[true, true, true, true, true, true, true, true, true, true, true, true, true, true, true, true] rfl rfl (by kernel_rfl) rfl (.inr ⟨[0, 1, 2], by decide, rfl⟩) (op_storeRow 0 ty_3 rfl rfl rfl rfl (show p < cs2.length by omega) (by first | rfl | (simp only [List.set_cons_succ, List.set_cons_zero]; exact rfl)) ?_) | refine ga_only 15 #[true, true, true, true, true, true, true, true, true, true, true, true, true, true, true, true] rfl rfl (by kernel_rfl) rfl (.inr ⟨[0, 1, 2], by decide, rfl⟩) (op_storeRow 2 ty_3 rfl rfl rfl rfl (show p < cs2.length by omega) (by first | rfl | (simp only [List.set_cons_succ, List.set_cons_zero]; exact rfl)) ?_)
      refine ga_end (by kernel_rfl) (.inl (by kernel_rfl)) ?_
      refine gx_block ?_
      refine gx_then ?_
      refine gc_region ?_
      refine gl_op (op_rd rfl (rd_add rfl rfl (by omega) (by omega)) ?_)
      refine gl_op (op_rd rfl (rd_move rfl) ?_)
      refine gl_nil ?_
      refine gx_then ?_
      exact gx_cut ((jk + 1, bump 1 t2 p, cs2.set p (intV (t2.getD p 0 + 1)))) ⟨⟨by simp only; omega, by simp only; rw [hst, foldl_snoc, ← ht2], by have := hbd2.up hpl; simpa [Int.add_assoc] using this, by simp only; rw [bump_map, hcs2]⟩, by simp only; omega⟩ ⟨rfl, rfl, rfl, rfl, rfl, rfl, rfl, rfl, rfl, trivial⟩ ⟨[0, 1, 2], by decide, rfl⟩
    · skip
      refine gl_nil ?_
      refine gx_then ?_
      refine gc_seq ?_
      refine gc_cond_f rfl ?_
      refine gc_exit ?_
      refine gx_then_exit ?_
      refine gx_then_exit ?_
      refine gx_block_exit ?_
      refine gx_block ?_
      refine gx_then ?_
      refine gc_region ?_
      refine gl_op (op_rd rfl (rd_add rfl rfl (by omega) (by omega)) ?_)
      refine gl_op (op_rd rfl (rd_move rfl) ?_)
      refine gl_nil ?_
      refine gx_then ?_
      exact gx_cut ((i + 1, t2, cs2)) ⟨⟨by simp only; omega, by simp only; rw [flat_take_succ hx, List.foldl_append, ← hto, ht2, succs_all (by rw [hks]; omega)], ⟨hbd2.len, fun p => by have := hbd2.bd p; simp only; omega⟩, hcs2⟩, by simp only; omega⟩ ⟨rfl, rfl, rfl, rfl, rfl, trivial⟩ ⟨[2], by decide, rfl⟩
  · skip
    refine gl_nil ?_
    refine gx_then ?_
    refine gc_seq ?_
    refine gc_cond_f rfl ?_
    refine gc_exit ?_
    refine gx_then_exit ?_
    refine gx_then_exit ?_
    refine gx_block_exit ?_
    refine gx_then ?_
    refine gc_seq ?_
    refine gc_region ?_
    refine gl_op (op_rd rfl (rd_assign rfl) ?_)
    refine gl_nil ?_
    refine gx_then ?_
    refine gc_seq ?_
    refine gc_seq ?_
    refine gc_region ?_
    refine gl_op (op_rd rfl (rd_move rfl) ?_)
    refine gl_op (op_rd rfl (rd_lenSlice Try.underlying23 rfl) ?_)
    refine gl_op (op_rd rfl (rd_move rfl) ?_)
    refine gl_nil ?_
    refine gx_then ?_
    refine gc_block ?_
    refine gk_nil 3 1 ?_
    refine gc_loopF (ι := Nat × Option Nat × Nat × Nat × List Value) [] [] (fun j => j.1 ≤ ns.length ∧ j.2.2.1 = ((List.range j.1).filter (zeroAt to)).length ∧ j.2.2.2.2 = ((List.range j.1).filter (zeroAt to)).map natV) (fun j G => ((0, .pointer (some pg)) :: (3, .slice (rowA (some b21)) ns.length ns.length) :: (8, .slice (rowA j.2.1) j.2.2.1 j.2.2.2.1) :: (56, .slice (rowA (some b21)) ns.length ns.length) :: (57, natV ns.length) :: (58, natV j.1) :: G)) (fun j G => (.row 3 1 j.2.1 j.2.2.1 j.2.2.2.1 j.2.2.2.2 :: .row 3 1 (some b21) ns.length ns.length cs :: G)) (fun j => ns.length - j.1) (0, none, 0, 0, []) (⟨Nat.zero_le _, rfl, rfl⟩) ⟨rfl, rfl, rfl, rfl, rfl, rfl, trivial⟩ ⟨[0, 1], by decide, rfl⟩ ?_
    rintro ⟨q, r, nn, cp, fs⟩ ⟨hq, hn, hfs⟩
    simp only at hq hn hfs ⊢
    have hlen := hgr.len
    have hfl := filter_range_le (zeroAt to) q
    have htl := hbd.len
    refine gc_seq ?_
    refine gc_region ?_
    refine gl_op (op_rd rfl (rd_lss rfl rfl) (gk_dec (fun hlt3 => ?_) (fun hlt3 => ?_)))
    · skip
      refine gl_nil ?_
      refine gx_then ?_
      refine gc_seq ?_
      refine gc_cond_t rfl ?_
      refine gc_skip ?_
      refine gx_then ?_
      refine gc_seq ?_
      refine gc_block ?_
      refine gc_seq ?_
      refine gc_region ?_
      refine gl_op (op_rd rfl (rd_move rfl) ?_)
      refine gl_op (op_rd rfl (by first | exact rd_indexRow1 0 rfl Try.underlying23 ty_3 rfl rfl (by omega) (by omega) | exact rd_indexRow1 1 rfl Try.underlying23 ty_3 rfl rfl (by omega) (by omega) | exact rd_index1 Try.underlying23 ty_3 rfl rfl (by omega) (by omega)) ?_)
      refine gl_op (op_rd rfl (rd_load Try.underlying3 rfl rfl (ld_row 1 rfl (by rw [hcs]; exact get_ints (show q < to.length by omega)))) ?_)
      refine gl_op (op_rd rfl (rd_assign rfl) ?_)
      refine gl_op (op_rd rfl (rd_assign rfl) ?_)
      refine gl_nil ?_
      refine gx_then ?_
      refine gc_seq ?_
      refine gc_region ?_
      refine gl_op (op_rd rfl (rd_move rfl) ?_)
      refine gl_op (op_rd rfl (rd_eql rfl rfl) (gk_dec (fun hz => ?_) (fun hz => ?_)))
      · skip
        have hz1 : to.getD q 0 = 0 := hz
        have hz2 : zeroAt to q = true := by unfold zeroAt; rw [hz1]; rfl
        refine gl_nil ?_
        refine gx_then ?_
        refine gc_cond_t rfl ?_
        refine gc_region ?_
        refine gl_op (op_rd rfl (rd_move rfl) ?_)
        refine gl_op (op_rd rfl (rd_move rfl) ?_)
        refine gl_op (op_buildSlice (sz := 1) rfl rfl (fun _ => bs_23_1_0 _) rfl rfl (fun b67 => ?_))
        first | refine gl_op (op_appendRow 1 0 Try.underlying23 ty_3 rfl (by decide) rfl rfl rfl rfl rfl (by simp [Value.oneCell']) (by omega) (by omega) (fun _ => (by first | rfl | (simp only [List.set_cons_succ, List.set_cons_zero]; exact rfl))) (fun r68 c68 => ?_)) | refine gl_op (op_appendRow 2 0 Try.underlying23 ty_3 rfl (by decide) rfl rfl rfl rfl rfl (by simp [Value.oneCell']) (by omega) (by omega) (fun _ => (by first | rfl | (simp only [List.set_cons_succ, List.set_cons_zero]; exact rfl))) (fun r68 c68 => ?_))
        refine gl_op (op_rd rfl (rd_assign rfl) ?_)
        refine gl_nil ?_
        refine gx_block ?_
        refine gx_then ?_
        refine gc_region ?_
        refine gl_op (op_rd rfl (rd_add rfl rfl (by omega) (by omega)) ?_)
        refine gl_op (op_rd rfl (rd_move rfl) ?_)
        refine gl_nil ?_
        refine gx_then ?_
        exact gx_cut ((q + 1, r68, nn + 1, c68, fs ++ [natV q])) ⟨⟨by simp only; omega, by simp only; rw [filter_range_t _ hz2, List.length_append, hn]; rfl, by simp only; rw [filter_range_t _ hz2, List.map_append, hfs]; rfl⟩, by simp only; omega⟩ ⟨rfl, rfl, rfl, rfl, rfl, rfl, trivial⟩ ⟨[1, 2], by decide, rfl⟩
      · skip
        have hz1 : ¬ to.getD q 0 = 0 := hz
        have hz2 : zeroAt to q = false := by unfold zeroAt; simpa using hz1
        refine gl_nil ?_
        refine gx_then ?_
        refine gc_cond_f rfl ?_
        refine gc_skip ?_
        refine gx_block ?_
        refine gx_then ?_
        refine gc_region ?_
        refine gl_op (op_rd rfl (rd_add rfl rfl (by omega) (by omega)) ?_)
        refine gl_op (op_rd rfl (rd_move rfl) ?_)
        refine gl_nil ?_
        refine gx_then ?_
        exact gx_cut ((q + 1, r, nn, cp, fs)) ⟨⟨by simp only; omega, by simp only; rw [filter_range_f _ hz2, hn], by simp only; rw [filter_range_f _ hz2, hfs]⟩, by simp only; omega⟩ ⟨rfl, rfl, rfl, rfl, rfl, rfl, trivial⟩ ⟨[0, 1], by decide, rfl⟩
    · skip
      refine gl_nil ?_
      refine gx_then ?_
      refine gc_seq ?_
      refine gc_cond_f rfl ?_
      refine gc_exit ?_
      refine gx_then_exit ?_
      refine gx_then_exit ?_
      refine gx_block_exit ?_
      refine gx_then ?_
      refine gc_seq ?_
      refine gc_seq ?_
      refine gc_region ?_
      refine gl_op (op_rd rfl (rd_assign rfl) ?_)
      refine gl_nil ?_
      refine gx_then ?_
      refine gc_block ?_
      have hie : i = ns.length := by omega
      have hqe : q = ns.length := by omega
      have htc : to = toC c inn ns := by rw [hto, hie, List.take_length]; rfl
      have hfr : (List.range q).filter (zeroAt to) = freeI to := by unfold freeI; rw [htl, hqe]
      rw [hfr] at hn hfs
      have hlenN : (ns.length : Int) ≤ 1000 := by omega
      have hFI := FI_init hbd
      refine gc_loopF (ι := Nat × List Int × List Value × List Nat × Option Nat × Nat × Nat × List Value) [] [] (fun j => j.1 ≤ ns.length ∧ drainGo c inn ns (ns.length + 1 - j.1) j.1 j.2.1 j.2.2.2.1 = drainGo c inn ns (ns.length + 1) 0 (toC c inn ns) (freeI (toC c inn ns)) ∧ FI ns.length (-(12 * j.1)) 12000 j.2.1 j.2.2.2.1 ∧ j.2.2.1 = j.2.1.map intV ∧ j.2.2.2.2.2.1 = j.2.2.2.1.length ∧ j.2.2.2.2.2.2.2 = j.2.2.2.1.map natV) (fun j G => ((0, .pointer (some pg)) :: (3, .slice (rowA (some b21)) ns.length ns.length) :: (8, .slice (rowA j.2.2.2.2.1) j.2.2.2.2.2.1 j.2.2.2.2.2.2.1) :: (11, natV j.1) :: G)) (fun j G => (.row 3 1 j.2.2.2.2.1 j.2.2.2.2.2.1 j.2.2.2.2.2.2.1 j.2.2.2.2.2.2.2 :: .row 3 1 (some b21) ns.length ns.length j.2.2.1 :: G)) (fun j => ns.length - j.1) (0, to, cs, freeI to, r, nn, cp, fs) (⟨Nat.zero_le _, by rw [htc]; rfl, ⟨hFI.len, hFI.nd, hFI.lt, fun p => by have := hFI.bd p; simp only; omega⟩, hcs, hn, hfs⟩) ⟨rfl, rfl, rfl, rfl, trivial⟩ ⟨[0, 1], by decide, rfl⟩ ?_
      rintro ⟨i, to, cs, free, r, nn, cp, fs⟩ ⟨hi, hgo, hF, hcs, hn, hfs⟩
      simp only at hi hgo hF hcs hn hfs ⊢
      have hfl := hF.flen
      have hgl := hgr.len
      refine gc_seq ?_
      refine gc_seq ?_
      refine gc_region ?_
      refine gl_op (op_rd rfl (rd_move rfl) ?_)
      refine gl_op (op_rd rfl (rd_move rfl) ?_)
      refine gl_op (op_rd rfl (rd_lenSlice Try.underlying23 rfl) ?_)
      refine gl_op (op_rd rfl (rd_lss rfl rfl) (gk_dec (fun hlt4 => ?_) (fun hlt4 => ?_)))
      · skip
        have hil : i < free.length := by omega
        obtain ⟨p0, hp0⟩ : ∃ p, free.getD i 0 = p := ⟨_, rfl⟩
        have hp0l : p0 < ns.length := (hF.lt p0 (by rw [← hp0]; exact mem_getD (d := 0) hil)).1
        obtain ⟨x, hx⟩ : ∃ y, ns[p0]? = some y := ⟨ns[p0], List.getElem?_eq_getElem hp0l⟩
        refine gl_nil ?_
        refine gx_then ?_
        refine gc_cond_t rfl ?_
        refine gc_skip ?_
        refine gx_then ?_
        refine gc_seq ?_
        refine gc_block ?_
        refine gc_seq ?_
        refine gc_drawP [0, 1] false 11 rfl ?_
        refine ga_first 0 #[true, false, false, false, false, false, false, false, false, false, false, false] rfl rfl rfl rfl (by kernel_rfl) rfl ⟨[0, 1], by decide, rfl⟩ (qt_rd (rd_move rfl)) ?_
        refine ga_first 1 #[true, true, false, false, false, false, false, false, false, false, false, false] rfl rfl rfl rfl (by kernel_rfl) rfl ⟨[0, 1], by decide, rfl⟩ (qt_rd (rd_nilCheck rfl)) ?_
        refine ga_first 2 #[true, true, true, false, false, false, false, false, false, false, false, false] rfl rfl rfl rfl (by kernel_rfl) rfl ⟨[0, 1], by decide, rfl⟩ (qt_rd (rd_fieldAddr rfl (fa_70_0 _))) ?_
        refine ga_first 3 #[true, true, true, true, false, false, false, false, false, false, false, false] rfl rfl rfl rfl (by kernel_rfl) rfl ⟨[0, 1], by decide, rfl⟩ (qt_rd (rd_load Try.underlying67 rfl rfl (ld_cells hg.g (by simp) rfl))) ?_
        refine ga_first 4 #[true, true, true, true, true, false, false, false, false, false, false, false] rfl rfl rfl rfl (by kernel_rfl) rfl ⟨[0, 1], by decide, rfl⟩ (qt_rd (rd_move rfl)) ?_
        refine ga_first 5 #[true, true, true, true, true, true, false, false, false, false, false, false] rfl rfl rfl rfl (by kernel_rfl) rfl ⟨[0, 1], by decide, rfl⟩ (qt_rd (rd_move rfl)) ?_
        refine ga_first 6 #[true, true, true, true, true, true, true, false, false, false, false, false] rfl rfl rfl rfl (by kernel_rfl) rfl ⟨[0, 1], by decide, rfl⟩ (qt_rd (by first | exact rd_indexRow1 0 rfl Try.underlying23 ty_3 rfl rfl (by omega) (by omega) | exact rd_indexRow1 1 rfl Try.underlying23 ty_3 rfl rfl (by omega) (by omega) | exact rd_index1 Try.underlying23 ty_3 rfl rfl (by omega) (by omega))) ?_
        refine ga_first 7 #[true, true, true, true, true, true, true, true, false, false, false, false] rfl rfl rfl rfl (by kernel_rfl) rfl ⟨[0, 1], by decide, rfl⟩ (qt_rd (rd_load Try.underlying3 rfl rfl (ld_row 0 rfl (by rw [hfs]; exact get_nats hil)))) ?_
        try simp only [Int.toNat_natCast, hp0]
        refine ga_first 8 #[true, true, true, true, true, true, true, true, true, false, false, false] rfl rfl rfl rfl (by kernel_rfl) rfl ⟨[0, 1], by decide, rfl⟩ (qt_rd (rd_indexOld hg.row Try.underlying67 ty_72 rfl rfl (by omega) (by omega))) ?_
        refine ga_first 9 #[true, true, true, true, true, true, true, true, true, true, false, false] rfl rfl rfl rfl (by kernel_rfl) rfl ⟨[0, 1], by decide, rfl⟩ (qt_rd (rd_loadAgg Try.underlying72 rfl ty_72 rfl (cs_sl hg.row (flat_drop_get (Nd.cells c inn) 4 (fun _ => rfl) hx)) rfl)) ?_
        refine ga_only 10 #[true, true, true, true, true, true, true, true, true, true, true, false] rfl rfl (by kernel_rfl) rfl (.inr ⟨[0, 1], by decide, rfl⟩) (op_alloc ty_72 rfl rfl (fun b12 => ?_))
        refine ga_only 11 #[true, true, true, true, true, true, true, true, true, true, true, true] rfl rfl (by kernel_rfl) rfl (.inr ⟨[1, 2], by decide, rfl⟩) (op_storeAgg 0 ty_72 rfl rfl rfl rfl rfl rfl (by first | rfl | (simp only [List.set_cons_succ, List.set_cons_zero]; exact rfl)) ?_)
        refine ga_end (by kernel_rfl) (.inl (by kernel_rfl)) ?_
        refine gx_then ?_
        refine gc_seq ?_
        refine gc_region ?_
        refine gl_op (op_rd rfl (rd_fieldAddr rfl (fa_72_1 _)) ?_)
        refine gl_op (op_rd rfl (rd_load Try.underlying3 rfl rfl (by first | exact ld_blk 0 rfl rfl | exact ld_old (by assumption) (by simp))) ?_)
        have hxs : x.state < 2 ^ c.gates.length := hgr.st x (List.mem_of_getElem? hx)
        refine gl_op (op_call rfl (vf := []) (vc := []) rfl rfl Try.call46 (fun w ho => bits_ok (nextM c x.state inn) (nextM_lt hgd) w) ?_)
        rintro _ _ ⟨rk, ck, rfl, rfl⟩
        rw [upTo_next c hgd]
        have hkl := nextL_len c x.state inn
        have hg12 := hgd.g12
        obtain ⟨ks, hks⟩ : ∃ ks, nextL c x.state inn = ks := ⟨_, rfl⟩
        rw [hks] at hkl ⊢
        refine gl_op (op_rd rfl (rd_lenSlice Try.underlying23 rfl) ?_)
        refine gl_op (op_rd rfl (rd_move rfl) ?_)
        refine gl_nil ?_
        refine gx_then ?_
        refine gc_block ?_
        refine gc_loopF (ι := Nat × List Int × List Value × List Nat × Option Nat × Nat × Nat × List Value) [] [] (fun j => j.1 ≤ ks.length ∧ ((succs c inn ns x).take j.1).foldl drainN (to, free) = (j.2.1, j.2.2.2.1) ∧ FI ns.length (-(12 * i) - j.1) 12000 j.2.1 j.2.2.2.1 ∧ j.2.2.1 = j.2.1.map intV ∧ j.2.2.2.2.2.1 = j.2.2.2.1.length ∧ j.2.2.2.2.2.2.2 = j.2.2.2.1.map natV) (fun j G => ((0, .pointer (some pg)) :: (3, .slice (rowA (some b21)) ns.length ns.length) :: (8, .slice (rowA j.2.2.2.2.1) j.2.2.2.2.2.1 j.2.2.2.2.2.2.1) :: (11, natV i) :: (12, .pointer (some ⟨b12, 0, none⟩)) :: (88, .slice (rowA rk) ks.length ck) :: (89, natV ks.length) :: (90, natV j.1) :: G)) (fun j G => (.row 3 1 rk ks.length ck (ks.map natV) :: .blk b12 (Nd.cells c inn x) 72 :: .row 3 1 j.2.2.2.2.1 j.2.2.2.2.2.1 j.2.2.2.2.2.2.1 j.2.2.2.2.2.2.2 :: .row 3 1 (some b21) ns.length ns.length j.2.2.1 :: G)) (fun j => ks.length - j.1) (0, to, cs, free, r, nn, cp, fs) (⟨Nat.zero_le _, rfl, by simpa using hF, hcs, hn, hfs⟩) ⟨rfl, rfl, rfl, rfl, rfl, rfl, rfl, rfl, trivial⟩ ⟨[0, 1, 2, 3], by decide, rfl⟩ ?_
        rintro ⟨jk, to2, cs2, free2, r2, nn2, cp2, fs2⟩ ⟨hjk0, hfo, hF2, hcs2, hn2, hfs2⟩
        simp only at hjk0 hfo hF2 hcs2 hn2 hfs2 ⊢
        have hfl2 := hF2.flen
        simp only [Nd.cells]
        refine gc_seq ?_
        refine gc_region ?_
        refine gl_op (op_rd rfl (rd_lss rfl rfl) (gk_dec (fun hlt5 => ?_) (fun hlt5 => ?_)))
        · skip
          have hjl : jk < ks.length := by omega
          have hkm : ks.getD jk 0 ∈ nextL c x.state inn := by rw [hks]; exact mem_getD (d := 0) hjl
          have hkk := nextL_lt hkm
          have hxs2 := st_lt hgd hxs
          have hpk := Nat.pow_le_pow_right (n := 2) (by decide) (show ks.getD jk 0 ≤ 12 by omega)
          have hshl : 1 <<< (ks.getD jk 0) ≤ 4096 := by rw [Nat.one_shiftLeft]; omega
          obtain ⟨hpl, hple⟩ := pl_lt ns (flip x.state (ks.getD jk 0)) (by omega)
          have hst := succs_take (c := c) (inn := inn) (ns := ns) (x := x) (j := jk) (by rw [hks]; exact hjl)
          rw [hks] at hst
          obtain ⟨p, hpe⟩ : ∃ p, pl ns (flip x.state (ks.getD jk 0)) = p := ⟨_, rfl⟩
          rw [hpe] at hpl hple hst
          have hbp := hF2.bd p
          have htl := hF2.len
          have hcl : cs2.length = ns.length := by rw [hcs2, List.length_map, htl]
          have hcs3 : cs2.set p (intV (to2.getD p 0 - 1)) = (bump (-1) to2 p).map intV := by rw [bump_map, hcs2]; rfl
          refine gl_nil ?_
          refine gx_then ?_
          refine gc_seq ?_
          refine gc_cond_t rfl ?_
          refine gc_skip ?_
          refine gx_then ?_
          refine gc_seq ?_
          refine gc_block ?_
          refine gc_seq ?_
          refine gc_region ?_
          refine gl_op (op_rd rfl (by first | exact rd_indexRow1 0 rfl Try.underlying23 ty_3 rfl rfl (by omega) (by omega) | exact rd_indexRow1 2 rfl Try.underlying23 ty_3 rfl rfl (by omega) (by omega) | exact rd_indexRow1 3 rfl Try.underlying23 ty_3 rfl rfl (by omega) (by omega) | exact rd_index1 Try.underlying23 ty_3 rfl rfl (by omega) (by omega)) ?_)
          refine gl_op (op_rd rfl (rd_load Try.underlying3 rfl rfl (ld_row 0 rfl (get_nats hjl))) ?_)
          refine gl_op (op_rd rfl (rd_assign rfl) ?_)
          refine gl_nil ?_
          refine gx_then ?_
          refine gc_seq ?_
          try simp only [Int.toNat_natCast]
          refine gc_drawP [0, 1, 2, 3] true 10 rfl ?_
          refine ga_first 0 #[true, false, false, false, false, false, false, false, false, false, false] rfl rfl rfl rfl (by kernel_rfl) rfl ⟨[0, 1, 2, 3], by decide, rfl⟩ (qt_rd (rd_move rfl)) ?_
          refine ga_first 1 #[true, true, false, false, false, false, false, false, false, false, false] rfl rfl rfl rfl (by kernel_rfl) rfl ⟨[0, 1, 2, 3], by decide, rfl⟩ (qt_rd (rd_nilCheck rfl)) ?_
          refine ga_first 2 #[true, true, true, false, false, false, false, false, false, false, false] rfl rfl rfl rfl (by kernel_rfl) rfl ⟨[0, 1, 2, 3], by decide, rfl⟩ (qt_rd (rd_fieldAddr rfl (fa_70_1 _))) ?_
          refine ga_first 3 #[true, true, true, true, false, false, false, false, false, false, false] rfl rfl rfl rfl (by kernel_rfl) rfl ⟨[0, 1, 2, 3], by decide, rfl⟩ (qt_rd (rd_load Try.underlying68 rfl rfl (ld_cells hg.g (by simp) (j := 1) rfl))) ?_
          refine ga_first 4 #[true, true, true, true, true, false, false, false, false, false, false] rfl rfl rfl rfl (by kernel_rfl) rfl ⟨[0, 1, 2, 3], by decide, rfl⟩ (qt_rd (rd_fieldAddr rfl (fa_72_0 _))) ?_
          refine ga_first 5 #[true, true, true, true, true, true, false, false, false, false, false] rfl rfl rfl rfl (by kernel_rfl) rfl ⟨[0, 1, 2, 3], by decide, rfl⟩ (qt_rd (rd_load Try.underlying3 rfl rfl (by first | exact ld_blk 1 rfl rfl | exact ld_old (by assumption) (by simp)))) ?_
          refine ga_first 6 #[true, true, true, true, true, true, true, false, false, false, false] rfl rfl rfl rfl (by kernel_rfl) rfl ⟨[0, 1, 2, 3], by decide, rfl⟩ (qt_rd (rd_move rfl)) ?_
          refine ga_first 7 #[true, true, true, true, true, true, true, true, false, false, false] rfl rfl rfl rfl (by kernel_rfl) rfl ⟨[0, 1, 2, 3], by decide, rfl⟩ (qt_rd (rd_shl (a := 1) rfl rfl (by omega) (by omega))) ?_
          refine ga_first 8 #[true, true, true, true, true, true, true, true, true, false, false] rfl rfl rfl rfl (by kernel_rfl) rfl ⟨[0, 1, 2, 3], by decide, rfl⟩ (qt_rd (rd_xor rfl rfl (by omega) (by omega))) ?_
          refine ga_first 9 #[true, true, true, true, true, true, true, true, true, true, false] rfl rfl rfl rfl (by kernel_rfl) rfl ⟨[0, 1, 2, 3], by decide, rfl⟩ (qt_rd (rd_lookupOld hg.m (by simp) Try.underlying68 Try.underlying3 ty_3 rfl rfl)) ?_
          rw [show (lk ((x.state ^^^ 1 <<< ks.getD jk 0 : Nat) : Int) (plc ns 0)).getD 0 = (p : Int) from hple]
          refine ga_first 10 #[true, true, true, true, true, true, true, true, true, true, true] rfl rfl rfl rfl (by kernel_rfl) rfl ⟨[0, 1, 2, 3], by decide, rfl⟩ (qt_rd (rd_assign rfl)) ?_
          refine ga_end (by kernel_rfl) (.inr ⟨[0, 1, 2, 3], by decide, rfl⟩) ?_
          refine gx_then ?_
          refine gc_seq ?_
          refine gc_region ?_
          refine gl_op (op_rd rfl (rd_move rfl) ?_)
          refine gl_op (op_rd rfl (rd_move rfl) ?_)
          refine gl_op (op_rd rfl (by first | exact rd_indexRow1 0 rfl Try.underlying23 ty_3 rfl rfl (by omega) (by omega) | exact rd_indexRow1 2 rfl Try.underlying23 ty_3 rfl rfl (by omega) (by omega) | exact rd_indexRow1 3 rfl Try.underlying23 ty_3 rfl rfl (by omega) (by omega) | exact rd_index1 Try.underlying23 ty_3 rfl rfl (by omega) (by omega)) ?_)
          refine gl_op (op_rd rfl (rd_load Try.underlying3 rfl rfl (ld_row 3 rfl (by rw [hcs2]; exact get_ints (show p < to2.length by omega)))) ?_)
          try simp only [Int.toNat_natCast]
          refine gl_op (op_rd rfl (rd_sub rfl rfl (by omega) (by omega)) ?_)
          refine gl_op (op_rd rfl (by first | exact rd_indexRow1 0 rfl Try.underlying23 ty_3 rfl rfl (by omega) (by omega) | exact rd_indexRow1 2 rfl Try.underlying23 ty_3 rfl rfl (by omega) (by omega) | exact rd_indexRow1 3 rfl Try.underlying23 ty_3 rfl rfl (by omega) (by omega) | exact rd_index1 Try.underlying23 ty_3 rfl rfl (by omega) (by omega)) ?_)
          first | refine gl_op (op_store 1 ty_3 rfl rfl rfl rfl rfl (by first | rfl | (simp only [List.set_cons_succ, List.set_cons_zero]; exact rfl)) (by first | rfl | (simp only [List.set_cons_succ, List.set_cons_zero]; exact rfl)) ?_) | refine gl_op (op_storeRow 0 ty_3 rfl rfl rfl rfl (show p < cs2.length by omega) (by first | rfl | (simp only [List.set_cons_succ, List.set_cons_zero]; exact rfl)) ?_) | refine gl_op (op_storeRow 2 ty_3 rfl rfl rfl rfl (show p < cs2.length by omega) (by first | rfl | (simp only [List.set_cons_succ, List.set_cons_zero]; exact rfl)) ?_) | refine gl_op (op_storeRow 3 ty_3 rfl rfl rfl rfl (show p < cs2.length by omega) (by first | rfl | (simp only [List.set_cons_succ, List.set_cons_zero]; exact rfl)) ?_)
          refine gl_nil ?_
          refine gx_then ?_
          refine gc_seq ?_
          try simp only [Int.toNat_natCast]
          refine gc_region ?_
          refine gl_op (op_rd rfl (rd_move rfl) ?_)
          refine gl_op (op_rd rfl (rd_move rfl) ?_)
          refine gl_op (op_rd rfl (by first | exact rd_indexRow1 0 rfl Try.underlying23 ty_3 rfl rfl (by omega) (by omega) | exact rd_indexRow1 2 rfl Try.underlying23 ty_3 rfl rfl (by omega) (by omega) | exact rd_indexRow1 3 rfl Try.underlying23 ty_3 rfl rfl (by omega) (by omega) | exact rd_index1 Try.underlying23 ty_3 rfl rfl (by omega) (by omega)) ?_)
          refine gl_op (op_rd rfl (rd_load Try.underlying3 rfl rfl (ld_row 3 rfl (by rw [show cs2.set p (Value.int .i64 (to2.getD p 0 - 1)) = (bump (-1) to2 p).map intV from hcs3]; exact get_ints (show p < (bump (-1) to2 p).length by rw [bump_len]; omega)))) ?_)
          refine gl_op (op_rd rfl (rd_eql rfl rfl) (gk_dec (fun hz => ?_) (fun hz => ?_)))
          · skip
            have hz2 : (bump (-1) to2 p).getD p 0 = 0 := hz
            have hfl3 := (hF2.push hpl hz2).flen
            rw [List.length_append, List.length_singleton] at hfl3
            refine gl_nil ?_
            refine gx_then ?_
            refine gc_cond_t rfl ?_
            refine gc_region ?_
            refine gl_op (op_rd rfl (rd_move rfl) ?_)
            refine gl_op (op_rd rfl (rd_move rfl) ?_)
            refine gl_op (op_buildSlice (sz := 1) rfl rfl (fun _ => bs_23_1_0 _) rfl rfl (fun b117 => ?_))
            first | refine gl_op (op_appendRow 1 0 Try.underlying23 ty_3 rfl (by decide) rfl rfl rfl rfl rfl (by simp [Value.oneCell']) (by omega) (by omega) (fun _ => (by first | rfl | (simp only [List.set_cons_succ, List.set_cons_zero]; exact rfl))) (fun r118 c118 => ?_)) | refine gl_op (op_appendRow 3 0 Try.underlying23 ty_3 rfl (by decide) rfl rfl rfl rfl rfl (by simp [Value.oneCell']) (by omega) (by omega) (fun _ => (by first | rfl | (simp only [List.set_cons_succ, List.set_cons_zero]; exact rfl))) (fun r118 c118 => ?_)) | refine gl_op (op_appendRow 4 0 Try.underlying23 ty_3 rfl (by decide) rfl rfl rfl rfl rfl (by simp [Value.oneCell']) (by omega) (by omega) (fun _ => (by first | rfl | (simp only [List.set_cons_succ, List.set_cons_zero]; exact rfl))) (fun r118 c118 => ?_))
            refine gl_op (op_rd rfl (rd_assign rfl) ?_)
            refine gl_nil ?_
            refine gx_block ?_
            refine gx_then ?_
            refine gc_region ?_
            refine gl_op (op_rd rfl (rd_add rfl rfl (by omega) (by omega)) ?_)
            refine gl_op (op_rd rfl (rd_move rfl) ?_)
            refine gl_nil ?_
            refine gx_then ?_
            exact gx_cut ((jk + 1, bump (-1) to2 p, cs2.set p (intV (to2.getD p 0 - 1)), free2 ++ [p], r118, nn2 + 1, c118, fs2 ++ [natV p])) ⟨⟨by simp only; omega, by simp only; rw [hst, foldl_snoc, hfo, drain_t hz2], by have := hF2.push hpl hz2; simpa [Int.sub_sub] using this, hcs3, by simp only; rw [List.length_append, hn2]; rfl, by simp only; rw [List.map_append, hfs2]; rfl⟩, by simp only; omega⟩ ⟨rfl, rfl, rfl, rfl, rfl, rfl, rfl, rfl, trivial⟩ ⟨[1, 2, 3, 4], by decide, rfl⟩
          · skip
            have hz2 : (bump (-1) to2 p).getD p 0 ≠ 0 := hz
            refine gl_nil ?_
            refine gx_then ?_
            refine gc_cond_f rfl ?_
            refine gc_skip ?_
            refine gx_block ?_
            refine gx_then ?_
            refine gc_region ?_
            refine gl_op (op_rd rfl (rd_add rfl rfl (by omega) (by omega)) ?_)
            refine gl_op (op_rd rfl (rd_move rfl) ?_)
            refine gl_nil ?_
            refine gx_then ?_
            exact gx_cut ((jk + 1, bump (-1) to2 p, cs2.set p (intV (to2.getD p 0 - 1)), free2, r2, nn2, cp2, fs2)) ⟨⟨by simp only; omega, by simp only; rw [hst, foldl_snoc, hfo, drain_f hz2], by have := hF2.step hpl; simpa [Int.sub_sub] using this, hcs3, hn2, hfs2⟩, by simp only; omega⟩ ⟨rfl, rfl, rfl, rfl, rfl, rfl, rfl, rfl, trivial⟩ ⟨[0, 1, 2, 3], by decide, rfl⟩
        · skip
          refine gl_nil ?_
          refine gx_then ?_
          refine gc_seq ?_
          refine gc_cond_f rfl ?_
          refine gc_exit ?_
          refine gx_then_exit ?_
          refine gx_then_exit ?_
          refine gx_block_exit ?_
          refine gx_block ?_
          refine gx_then ?_
          refine gc_region ?_
          refine gl_op (op_rd rfl (rd_move rfl) ?_)
          refine gl_op (op_rd rfl (rd_add rfl rfl (by omega) (by omega)) ?_)
          refine gl_op (op_rd rfl (rd_assign rfl) ?_)
          refine gl_nil ?_
          refine gx_then ?_
          exact gx_cut ((i + 1, to2, cs2, free2, r2, nn2, cp2, fs2)) ⟨⟨by simp only; omega, by simp only; rw [← hgo, show ns.length + 1 - i = (ns.length + 1 - (i + 1)) + 1 by omega, drainGo_step hil hp0 hx (by rw [← hfo, succs_all (by rw [hks]; omega)])], ⟨hF2.len, hF2.nd, hF2.lt, fun p => by have := hF2.bd p; simp only; omega⟩, hcs2, hn2, hfs2⟩, by simp only; omega⟩ ⟨rfl, rfl, rfl, rfl, trivial⟩ ⟨[2, 3], by decide, rfl⟩
      · skip
        refine gl_nil ?_
        refine gx_then ?_
        refine gc_cond_f rfl ?_
        refine gc_exit ?_
        refine gx_then_exit ?_
        refine gx_then_exit ?_
        refine gx_block_exit ?_
        refine gx_then ?_
        refine gc_seq ?_
        refine gc_region ?_
        refine gl_op (op_rd rfl (rd_move rfl) ?_)
        refine gl_op (op_rd rfl (rd_lenSlice Try.underlying23 rfl) ?_)
        refine gl_op (op_rd rfl (rd_move rfl) ?_)
        refine gl_op (op_rd rfl (rd_nilCheck rfl) ?_)
        refine gl_op (op_rd rfl (rd_fieldAddr rfl (fa_70_0 _)) ?_)
        refine gl_op (op_rd rfl (rd_load Try.underlying67 rfl rfl (ld_cells hg.g (by simp) rfl)) ?_)
        refine gl_op (op_rd rfl (rd_lenSlice Try.underlying67 rfl) ?_)
        refine gl_op (op_rd rfl (rd_eql rfl rfl) ?_)
        refine gl_op (op_rd rfl (rd_assign rfl) ?_)
        refine gl_nil ?_
        refine gx_then ?_
        refine gc_ret ?_
        refine gx_ret1 (.inl rfl) Try.results69 rfl [] (by decide) ?_
        refine ⟨congrArg Value.bool ?_, rfl⟩
        unfold endsP
        rw [← hgo, show ns.length + 1 - i = (ns.length - i) + 1 by omega, drainGo_end (by omega), hn, Bool.eq_iff_iff]
        simp
        omega

end Go.Proofs.Yteocjpnckciboaa

set_option autoImplicit false
set_option linter.unusedVariables false
namespace Go.Proofs.Yteocjpnckciboaa
open Go.Gv
open Go.RowKit
open Ry
set_option maxRecDepth 100000 in
set_option maxHeartbeats 1000000 in
theorem back_ok (c : Circ) (pb pc : Addr) (inn s : Nat) (ms : List Nd) (w0 : World) (hbd : BoardIn c pb pc inn w0) (hgd : c.Good) (hin : inn < 2 ^ c.inputs.toNat) (hs : s < 2 ^ c.gates.length) (hre : reachP c inn [s] = some ms) (hwf : Wf ms) (hst : ∀ y ∈ ms, y.state < 2 ^ c.gates.length) (hlen : ms.length ≤ 1000) : Sp Try.prog 70 [.pointer (some pb), natV s] w0 [] (fun v l => ∃ r cp, v = .slice (rowA r) (backP c inn s).length cp ∧ l = [.row 3 1 r (backP c inn s).length cp ((backP c inn s).map natV)]) := by
  refine spec_enter Try.func70 rfl Try.ntmps70 rfl (Own.refl _) ?_
  simp only [argEnv]
  refine gc_seq ?_
  refine gc_region ?_
  refine gl_op (op_rd rfl (rd_assign rfl) ?_)
  refine gl_nil ?_
  refine gx_then ?_
  refine gc_seq ?_
  refine gc_region ?_
  refine gl_op (op_rd rfl (rd_move rfl) ?_)
  refine gl_op (op_rd rfl (rd_move rfl) ?_)
  refine gl_op (op_buildSlice (sz := 1) rfl rfl (fun _ => bs_23_1_0 _) rfl rfl (fun b14 => ?_))
  refine gl_op (op_call rfl (vf := []) (vc := []) rfl rfl Try.call41 (fun w ho => reach_ok c pb pc inn [s] (some ⟨b14, 0, none⟩) 1 w (hbd.at ho) hgd hin (ho.rowSl 0 (r := some b14) rfl) (by simpa using hs) (by simp)) ?_)
  rintro _ _ (⟨ns, G, m, r, cp, hre2, rfl, rfl⟩ | ⟨hre2, p, rfl, rfl⟩)
  · skip
    obtain rfl : ns = ms := Option.some.inj (hre2.symm.trans hre)
    have hbk : backP c inn s = backAt c inn s ns 0 ns := by unfold backP; rw [hre]
    refine gl_op (op_rd rfl (rd_move rfl) ?_)
    refine gl_op (op_rd rfl (rd_extract rfl rfl) ?_)
    refine gl_op (op_rd rfl (rd_extract rfl rfl) ?_)
    refine gl_op (op_rd rfl (rd_assign rfl) ?_)
    refine gl_op (op_rd rfl (rd_assign rfl) ?_)
    refine gl_nil ?_
    refine gx_then ?_
    refine gc_seq ?_
    refine gc_seq ?_
    refine gc_region ?_
    refine gl_op (op_rd rfl (rd_move rfl) ?_)
    refine gl_op (op_rd rfl (rd_nilCheck rfl) ?_)
    refine gl_op (op_rd rfl (rd_fieldAddr rfl (fa_70_0 _)) ?_)
    refine gl_op (op_rd rfl (rd_load Try.underlying67 rfl rfl (by first | exact ld_blk 0 rfl rfl | exact ld_old (by assumption) (by simp) | exact ld_cells (by assumption) (by simp) rfl)) ?_)
    refine gl_op (op_rd rfl (rd_lenSlice Try.underlying67 rfl) ?_)
    refine gl_op (op_rd rfl (rd_move rfl) ?_)
    refine gl_nil ?_
    refine gx_then ?_
    refine gc_block ?_
    refine gc_loopF (ι := Nat) [] [_] (fun j => j ≤ ns.length ∧ backAt c inn s ns j (ns.drop j) = backP c inn s) (fun j Fr0 => ((1, natV s) :: (5, .pointer (some ⟨G, 0, none⟩)) :: (21, .slice (rowA r) ns.length cp) :: (22, natV ns.length) :: (23, natV j) :: Fr0)) (fun j Fr0 => (.blk G [.slice (rowA r) ns.length cp, .map (some m)] 70 :: .row 72 4 r ns.length cp (ns.flatMap (Nd.cells c inn)) :: .obj m (mapObj (plc ns 0)) :: Fr0)) (fun j => ns.length - j) 0 (⟨Nat.zero_le _, by rw [hbk]; rfl⟩) ⟨rfl, rfl, rfl, rfl, rfl, trivial⟩ ⟨[0, 1, 2, 3], by decide, rfl⟩ ?_
    rintro i ⟨hi, hb⟩
    refine gc_seq ?_
    refine gc_region ?_
    refine gl_op (op_rd rfl (rd_lss rfl rfl) (gk_dec (fun hlt => ?_) (fun hlt => ?_)))
    · skip
      obtain ⟨x, hx⟩ : ∃ y, ns[i]? = some y := ⟨ns[i]'(by omega), List.getElem?_eq_getElem (by omega)⟩
      refine gl_nil ?_
      refine gx_then ?_
      refine gc_seq ?_
      refine gc_cond_t rfl ?_
      refine gc_skip ?_
      refine gx_then ?_
      refine gc_seq ?_
      refine gc_block ?_
      refine gc_seq ?_
      refine gc_region ?_
      refine gl_op (op_rd rfl (rd_move rfl) ?_)
      refine gl_op (op_rd rfl (by first | exact rd_indexRow 1 rfl Try.underlying67 ty_72 rfl rfl (by omega) (by omega) | exact rd_indexRow 3 rfl Try.underlying67 ty_72 rfl rfl (by omega) (by omega) | exact rd_indexOld (by assumption) Try.underlying67 ty_72 rfl rfl (by omega) (by omega) | exact rd_index Try.underlying67 ty_72 rfl rfl (by omega) (by omega)) ?_)
      refine gl_op (op_rd rfl (rd_loadAgg Try.underlying72 rfl ty_72 rfl (by first | exact cs_row 0 rfl (flat_drop_get (Nd.cells c inn) 4 (fun _ => rfl) hx) | exact cs_row 1 rfl (flat_drop_get (Nd.cells c inn) 4 (fun _ => rfl) hx) | exact cs_row 2 rfl (flat_drop_get (Nd.cells c inn) 4 (fun _ => rfl) hx)) rfl) ?_)
      refine gl_op (op_alloc ty_72 rfl rfl (fun b8 => ?_))
      refine gl_op (op_rd rfl (rd_assign rfl) ?_)
      first | refine gl_op (op_storeAgg 0 ty_72 rfl rfl rfl rfl rfl rfl (by first | rfl | (simp only [List.set_cons_succ, List.set_cons_zero]; exact rfl)) ?_) | refine gl_op (op_storeAgg 1 ty_72 rfl rfl rfl rfl rfl rfl (by first | rfl | (simp only [List.set_cons_succ, List.set_cons_zero]; exact rfl)) ?_)
      refine gl_nil ?_
      refine gx_then ?_
      refine gc_seq ?_
      refine gc_region ?_
      refine gl_op (op_rd rfl (rd_fieldAddr rfl (fa_72_1 _)) ?_)
      refine gl_op (op_rd rfl (rd_load Try.underlying3 rfl rfl (by first | exact ld_blk 0 rfl rfl | exact ld_blk 1 rfl rfl | exact ld_rowN 2 rfl (get_nats (by omega)) | exact ld_rowN 4 rfl (get_nats (by omega)) | exact ld_slN (by assumption) (get_nats (by omega)) | exact ld_rowN 2 rfl (get_ints (by omega)) | exact ld_rowN 4 rfl (get_ints (by omega)) | exact ld_slN (by assumption) (get_ints (by omega)) | exact ld_old (by assumption) (by simp) | exact ld_cells (by assumption) (by simp) rfl)) ?_)
      have hxs : x.state < 2 ^ c.gates.length := hst x (List.mem_of_getElem? hx)
      refine gl_op (op_call rfl (vf := []) (vc := []) rfl rfl Try.call46 (fun w ho => bits_ok (nextM c x.state inn) (nextM_lt hgd) w) ?_)
      rintro _ _ ⟨rk, ck, rfl, rfl⟩
      rw [upTo_next c hgd]
      have hkl := nextL_len c x.state inn
      have hg12 := hgd.g12
      obtain ⟨ks, hks⟩ : ∃ ks, nextL c x.state inn = ks := ⟨_, rfl⟩
      rw [hks] at hkl ⊢
      refine gl_op (op_rd rfl (rd_lenSlice Try.underlying23 rfl) ?_)
      refine gl_op (op_rd rfl (rd_move rfl) ?_)
      refine gl_nil ?_
      refine gx_then ?_
      refine gc_block ?_
      refine gc_loopF (ι := Nat) [] [_] (fun j => j ≤ ks.length ∧ ∀ q, q < j → (flip x.state (ks.getD q 0) == s) = false) (fun j Fr0 => ((1, natV s) :: (5, .pointer (some ⟨G, 0, none⟩)) :: (21, .slice (rowA r) ns.length cp) :: (22, natV ns.length) :: (23, natV i) :: (7, natV i) :: (8, .pointer (some ⟨b8, 0, none⟩)) :: (30, .slice (rowA rk) ks.length ck) :: (31, natV ks.length) :: (32, natV j) :: Fr0)) (fun j Fr0 => (.row 3 1 rk ks.length ck (ks.map natV) :: .blk b8 (Nd.cells c inn x) 72 :: .blk G [.slice (rowA r) ns.length cp, .map (some m)] 70 :: .row 72 4 r ns.length cp (ns.flatMap (Nd.cells c inn)) :: .obj m (mapObj (plc ns 0)) :: Fr0)) (fun j => ks.length - j) 0 (⟨Nat.zero_le _, fun q h => absurd h (Nat.not_lt_zero q)⟩) ⟨rfl, rfl, rfl, rfl, rfl, rfl, rfl, rfl, rfl, rfl, trivial⟩ ⟨[0, 1, 2, 3, 4, 5], by decide, rfl⟩ ?_
      rintro jk ⟨hjk0, hno⟩
      simp only [Nd.cells]
      refine gc_seq ?_
      refine gc_region ?_
      refine gl_op (op_rd rfl (rd_lss rfl rfl) (gk_dec (fun hlt2 => ?_) (fun hlt2 => ?_)))
      · skip
        have hjl : jk < ks.length := by omega
        have hkm : ks.getD jk 0 ∈ nextL c x.state inn := by rw [hks]; exact mem_getD (d := 0) hjl
        have hkk := nextL_lt hkm
        have hxs2 := st_lt hgd hxs
        have hpk := Nat.pow_le_pow_right (n := 2) (by decide) (show ks.getD jk 0 ≤ 12 by omega)
        have hshl : 1 <<< (ks.getD jk 0) ≤ 4096 := by rw [Nat.one_shiftLeft]; omega
        have hwl := wayP_len hwf i
        refine gl_nil ?_
        refine gx_then ?_
        refine gc_seq ?_
        refine gc_cond_t rfl ?_
        refine gc_skip ?_
        refine gx_then ?_
        refine gc_seq ?_
        refine gc_block ?_
        refine gc_seq ?_
        refine gc_region ?_
        refine gl_op (op_rd rfl (by first | exact rd_indexRow1 0 rfl Try.underlying23 ty_3 rfl rfl (by omega) (by omega) | exact rd_indexRow1 3 rfl Try.underlying23 ty_3 rfl rfl (by omega) (by omega) | exact rd_indexRow1 5 rfl Try.underlying23 ty_3 rfl rfl (by omega) (by omega) | exact rd_indexOld1 (by assumption) Try.underlying23 ty_3 rfl rfl (by omega) (by omega) | exact rd_index1 Try.underlying23 ty_3 rfl rfl (by omega) (by omega)) ?_)
        refine gl_op (op_rd rfl (rd_load Try.underlying3 rfl rfl (ld_row 0 rfl (get_nats hjl))) ?_)
        refine gl_op (op_rd rfl (rd_assign rfl) ?_)
        refine gl_nil ?_
        refine gx_then ?_
        refine gc_seq ?_
        try simp only [Int.toNat_natCast]
        refine gc_drawP [0, 1, 2, 3, 4, 5] true 6 rfl ?_
        refine ga_first 0 #[true, false, false, false, false, false, false] rfl rfl rfl rfl (by kernel_rfl) rfl ⟨[0, 1, 2, 3, 4, 5], by decide, rfl⟩ (qt_rd (rd_fieldAddr rfl (fa_72_0 _))) ?_
        refine ga_first 1 #[true, true, false, false, false, false, false] rfl rfl rfl rfl (by kernel_rfl) rfl ⟨[0, 1, 2, 3, 4, 5], by decide, rfl⟩ (qt_rd (rd_load Try.underlying3 rfl rfl (by first | exact ld_blk 1 rfl rfl | exact ld_blk 2 rfl rfl | exact ld_rowN 0 rfl (get_nats (by omega)) | exact ld_rowN 3 rfl (get_nats (by omega)) | exact ld_rowN 5 rfl (get_nats (by omega)) | exact ld_slN (by assumption) (get_nats (by omega)) | exact ld_rowN 0 rfl (get_ints (by omega)) | exact ld_rowN 3 rfl (get_ints (by omega)) | exact ld_rowN 5 rfl (get_ints (by omega)) | exact ld_slN (by assumption) (get_ints (by omega)) | exact ld_old (by assumption) (by simp) | exact ld_cells (by assumption) (by simp) rfl))) ?_
        refine ga_first 2 #[true, true, true, false, false, false, false] rfl rfl rfl rfl (by kernel_rfl) rfl ⟨[0, 1, 2, 3, 4, 5], by decide, rfl⟩ (qt_rd (rd_move rfl)) ?_
        refine ga_first 3 #[true, true, true, true, false, false, false] rfl rfl rfl rfl (by kernel_rfl) rfl ⟨[0, 1, 2, 3, 4, 5], by decide, rfl⟩ (qt_rd (rd_shl (a := 1) rfl rfl (by omega) (by omega))) ?_
        refine ga_first 4 #[true, true, true, true, true, false, false] rfl rfl rfl rfl (by kernel_rfl) rfl ⟨[0, 1, 2, 3, 4, 5], by decide, rfl⟩ (qt_rd (rd_xor rfl rfl (by omega) (by omega))) ?_
        refine ga_first 5 #[true, true, true, true, true, true, false] rfl rfl rfl rfl (by kernel_rfl) rfl ⟨[0, 1, 2, 3, 4, 5], by decide, rfl⟩ (qt_rd (rd_move rfl)) ?_
        refine ga_first 6 #[true, true, true, true, true, true, true] rfl rfl rfl rfl (by kernel_rfl) rfl ⟨[0, 1, 2, 3, 4, 5], by decide, rfl⟩ (qt_rd (rd_eql rfl rfl)) (gk_dec (fun heq => ?_) (fun heq => ?_))
        · skip
          have heq2 : (flip x.state (ks.getD jk 0) == s) = true := by rw [beq_iff_eq]; exact Int.ofNat.inj heq
          refine ga_end (by kernel_rfl) (.inr ⟨[0, 1, 2, 3, 4, 5], by decide, rfl⟩) ?_
          refine gx_then ?_
          refine gc_cond_t rfl ?_
          refine gc_seq ?_
          refine gc_region ?_
          refine gl_op (op_rd rfl (rd_move rfl) ?_)
          refine gl_op (op_rd rfl (rd_move rfl) ?_)
          refine gl_op (op_call rfl (vf := []) (vc := []) rfl rfl Try.call68 (fun w ho => way_ok c inn ns ⟨G, 0, none⟩ (rowA r) cp m i w (GraphIn.mk' ho 2 3 4 rfl rfl rfl) hwf (by omega) (by omega)) ?_)
          rintro _ _ ⟨rw1, cw, rfl, rfl⟩
          refine gl_op (op_rd rfl (rd_move rfl) ?_)
          refine gl_op (op_buildSlice (sz := 1) rfl rfl (fun _ => bs_23_1_0 _) rfl rfl (fun b47 => ?_))
          refine gl_op (op_appendRow 1 0 Try.underlying23 ty_3 rfl (by decide) rfl rfl rfl rfl rfl (by simp [Value.oneCell']) (by omega) (by omega) (fun _ => (by first | rfl | (simp only [List.set_cons_succ, List.set_cons_zero]; exact rfl))) (fun r48 c48 => ?_))
          refine gl_op (op_rd rfl (rd_assign rfl) ?_)
          refine gl_nil ?_
          refine gx_then ?_
          refine gc_ret ?_
          refine gx_block_ret ?_
          refine gx_then_ret ?_
          refine gx_then_ret ?_
          refine gx_block_ret ?_
          refine gx_block_ret ?_
          refine gx_then_ret ?_
          refine gx_then_ret ?_
          refine gx_block_ret ?_
          refine gx_then_ret ?_
          refine gx_ret1 (.inl rfl) Try.results70 rfl [1] (by decide) ?_
          have he : backP c inn s = wayP ns i ++ [ks.getD jk 0] := by rw [← hb, drop_at hx, backAt_hit (by rw [hks]; exact find_at ks jk hjl hno heq2)]
          exact ⟨r48, c48, by rw [he, List.length_append]; rfl, by rw [he, List.length_append, List.map_append]; rfl⟩
        · skip
          have hne : (flip x.state (ks.getD jk 0) == s) = false := by rw [beq_eq_false_iff_ne]; exact fun e => heq (congrArg Int.ofNat e)
          refine ga_end (by kernel_rfl) (.inr ⟨[0, 1, 2, 3, 4, 5], by decide, rfl⟩) ?_
          refine gx_then ?_
          refine gc_cond_f rfl ?_
          refine gc_skip ?_
          refine gx_block ?_
          refine gx_then ?_
          refine gc_region ?_
          refine gl_op (op_rd rfl (rd_add rfl rfl (by omega) (by omega)) ?_)
          refine gl_op (op_rd rfl (rd_move rfl) ?_)
          refine gl_nil ?_
          refine gx_then ?_
          exact gx_cut (jk + 1) ⟨⟨by omega, fun q hq => by rcases Nat.lt_succ_iff_lt_or_eq.1 hq with h | rfl; exact hno q h; exact hne⟩, by omega⟩ ⟨rfl, rfl, rfl, rfl, rfl, rfl, rfl, rfl, rfl, rfl, trivial⟩ ⟨[0, 1, 2, 3, 4, 5], by decide, rfl⟩
      · skip
        refine gl_nil ?_
        refine gx_then ?_
        refine gc_seq ?_
        refine gc_cond_f rfl ?_
        refine gc_exit ?_
        refine gx_then_exit ?_
        refine gx_then_exit ?_
        refine gx_block_exit ?_
        refine gx_block ?_
        refine gx_then ?_
        refine gc_region ?_
        refine gl_op (op_rd rfl (rd_add rfl rfl (by omega) (by omega)) ?_)
        refine gl_op (op_rd rfl (rd_move rfl) ?_)
        refine gl_nil ?_
        refine gx_then ?_
        exact gx_cut (i + 1) ⟨⟨by omega, by rw [← hb, drop_at hx, backAt_skip (find_not _ (fun q hq => by rw [hks] at hq ⊢; exact hno q (by omega)))]⟩, by omega⟩ ⟨rfl, rfl, rfl, rfl, rfl, trivial⟩ ⟨[2, 3, 4, 5], by decide, rfl⟩
    · skip
      refine gl_nil ?_
      refine gx_then ?_
      refine gc_seq ?_
      refine gc_cond_f rfl ?_
      refine gc_exit ?_
      refine gx_then_exit ?_
      refine gx_then_exit ?_
      refine gx_block_exit ?_
      refine gx_then ?_
      refine gc_seq ?_
      refine gk_nil 3 1 ?_
      refine gc_region ?_
      refine gl_op (op_rd rfl (rd_assign rfl) ?_)
      refine gl_nil ?_
      refine gx_then ?_
      refine gc_ret ?_
      refine gx_ret1 (.inl rfl) Try.results70 rfl [0] (by decide) ?_
      have he : backP c inn s = [] := by rw [← hb, List.drop_of_length_le (by omega)]; rfl
      exact ⟨none, 0, by rw [he]; rfl, by rw [he]; rfl⟩
  · skip
    exact absurd (hre2.symm.trans hre) (by simp)

set_option maxRecDepth 100000 in
set_option maxHeartbeats 1000000 in
theorem race_ok (c : Circ) (pb pc : Addr) (inn : Nat) (ns : List Nd) (pg : Addr) (a : Option Addr) (gcp m : Nat) (w0 : World) (hbd : BoardIn c pb pc inn w0) (hg : GraphIn c inn ns pg a gcp m w0) (hgr : Gr c inn ns) (hgd : c.Good) (hin : inn < 2 ^ c.inputs.toNat) : Sp Try.prog 39 [.pointer (some pb), .pointer (some pg)] w0 [] (fun v l => ∃ ra ca rb cb, v = .agg #[natV (raceP c inn ns).kind, .slice (rowA ra) (raceP c inn ns).a.length ca, .slice (rowA rb) (raceP c inn ns).b.length cb] ∧ l = [.row 3 1 ra (raceP c inn ns).a.length ca ((raceP c inn ns).a.map natV), .row 3 1 rb (raceP c inn ns).b.length cb ((raceP c inn ns).b.map natV)]) := by
  have hlen := hgr.len
  refine spec_enter Try.func39 rfl Try.ntmps39 rfl (Own.refl _) ?_
  simp only [argEnv]
  refine gc_seq ?_
  refine gc_region ?_
  refine gl_op (op_alloc ty_40 rfl rfl (fun b4 => ?_))
  refine gl_nil ?_
  refine gx_then ?_
  refine gc_seq ?_
  refine gc_region ?_
  refine gl_op (op_rd rfl (rd_assign rfl) ?_)
  refine gl_nil ?_
  refine gx_then ?_
  refine gc_seq ?_
  refine gc_seq ?_
  refine gc_region ?_
  refine gl_op (op_rd rfl (rd_move rfl) ?_)
  refine gl_op (op_rd rfl (rd_nilCheck rfl) ?_)
  refine gl_op (op_rd rfl (rd_fieldAddr rfl (fa_70_0 _)) ?_)
  refine gl_op (op_rd rfl (rd_load Try.underlying67 rfl rfl (ld_cells hg.g (by simp) rfl)) ?_)
  refine gl_op (op_rd rfl (rd_lenSlice Try.underlying67 rfl) ?_)
  refine gl_op (op_rd rfl (rd_move rfl) ?_)
  refine gl_nil ?_
  refine gx_then ?_
  refine gc_block ?_
  refine gk_nil 3 1 ?_
  refine gc_loopF (ι := Nat × Option Nat × Nat × Nat × List Value) [] [] (fun j => j.1 ≤ ns.length ∧ j.2.2.1 = ((List.range j.1).filter (restAt c inn ns)).length ∧ j.2.2.2.2 = ((List.range j.1).filter (restAt c inn ns)).map natV) (fun j Fr0 => ((0, .pointer (some pb)) :: (1, .pointer (some pg)) :: (4, .pointer (some ⟨b4, 0, none⟩)) :: (5, .slice (rowA j.2.1) j.2.2.1 j.2.2.2.1) :: (14, .slice a ns.length gcp) :: (15, natV ns.length) :: (16, natV j.1) :: Fr0)) (fun j Fr0 => (.row 3 1 j.2.1 j.2.2.1 j.2.2.2.1 j.2.2.2.2 :: .blk b4 [.int .i64 0, .slice none 0 0, .slice none 0 0] 40 :: Fr0)) (fun j => ns.length - j.1) (0, none, 0, 0, []) (⟨Nat.zero_le _, rfl, rfl⟩) ⟨rfl, rfl, rfl, rfl, rfl, rfl, rfl, trivial⟩ ⟨[0, 1], by decide, rfl⟩ ?_
  rintro ⟨i, r, nn, cp, cs⟩ ⟨hi, hn, hcs⟩
  simp only at hi hn hcs ⊢
  have hfl := filter_range_le (restAt c inn ns) i
  refine gc_seq ?_
  refine gc_region ?_
  refine gl_op (op_rd rfl (rd_lss rfl rfl) (gk_dec (fun hlt => ?_) (fun hlt => ?_)))
  · skip
    obtain ⟨x, hx⟩ : ∃ y, ns[i]? = some y := ⟨ns[i]'(by omega), List.getElem?_eq_getElem (by omega)⟩
    refine gl_nil ?_
    refine gx_then ?_
    refine gc_seq ?_
    refine gc_cond_t rfl ?_
    refine gc_skip ?_
    refine gx_then ?_
    refine gc_seq ?_
    refine gc_block ?_
    refine gc_seq ?_
    refine gc_region ?_
    refine gl_op (op_rd rfl (rd_move rfl) ?_)
    refine gl_op (op_rd rfl (rd_indexOld hg.row Try.underlying67 ty_72 rfl rfl (by omega) (by omega)) ?_)
    refine gl_op (op_rd rfl (rd_loadAgg Try.underlying72 rfl ty_72 rfl (cs_sl hg.row (flat_drop_get (Nd.cells c inn) 4 (fun _ => rfl) hx)) rfl) ?_)
    refine gl_op (op_alloc ty_72 rfl rfl (fun b7 => ?_))
    refine gl_op (op_rd rfl (rd_assign rfl) ?_)
    first | refine gl_op (op_storeAgg 0 ty_72 rfl rfl rfl rfl rfl rfl (by first | rfl | (simp only [List.set_cons_succ, List.set_cons_zero]; exact rfl)) ?_) | refine gl_op (op_storeAgg 2 ty_72 rfl rfl rfl rfl rfl rfl (by first | rfl | (simp only [List.set_cons_succ, List.set_cons_zero]; exact rfl)) ?_)
    refine gl_nil ?_
    refine gx_then ?_
    refine gc_seq ?_
    refine gc_region ?_
    refine gl_op (op_rd rfl (rd_fieldAddr rfl (fa_72_1 _)) ?_)
    refine gl_op (op_rd rfl (rd_load Try.underlying3 rfl rfl (by first | exact ld_blk 0 rfl rfl | exact ld_blk 2 rfl rfl | exact ld_rowN 1 rfl (get_nats (by omega)) | exact ld_slN (by assumption) (get_nats (by omega)) | exact ld_rowN 1 rfl (get_ints (by omega)) | exact ld_slN (by assumption) (get_ints (by omega)) | exact ld_old (by assumption) (by simp) | exact ld_cells (by assumption) (by simp) rfl)) ?_)
    refine gl_op (op_rd rfl (rd_eql rfl rfl) (gk_dec (fun hz => ?_) (fun hz => ?_)))
    · skip
      have hz2 : restAt c inn ns i = true := by rw [restAt_some hx, beq_iff_eq]; exact Int.ofNat.inj hz
      refine gl_nil ?_
      refine gx_then ?_
      refine gc_cond_t rfl ?_
      refine gc_region ?_
      refine gl_op (op_rd rfl (rd_move rfl) ?_)
      refine gl_op (op_rd rfl (rd_move rfl) ?_)
      refine gl_op (op_buildSlice (sz := 1) rfl rfl (fun _ => bs_23_1_0 _) rfl rfl (fun b26 => ?_))
      refine gl_op (op_appendRow 2 0 Try.underlying23 ty_3 rfl (by decide) rfl rfl rfl rfl rfl (by simp [Value.oneCell']) (by omega) (by omega) (fun _ => (by first | rfl | (simp only [List.set_cons_succ, List.set_cons_zero]; exact rfl))) (fun r27 c27 => ?_))
      refine gl_op (op_rd rfl (rd_assign rfl) ?_)
      refine gl_nil ?_
      refine gx_block ?_
      refine gx_then ?_
      refine gc_region ?_
      refine gl_op (op_rd rfl (rd_add rfl rfl (by omega) (by omega)) ?_)
      refine gl_op (op_rd rfl (rd_move rfl) ?_)
      refine gl_nil ?_
      refine gx_then ?_
      exact gx_cut ((i + 1, r27, nn + 1, c27, cs ++ [natV i])) ⟨⟨by simp only; omega, by simp only; rw [filter_range_t _ hz2, List.length_append, hn]; rfl, by simp only; rw [filter_range_t _ hz2, List.map_append, hcs]; rfl⟩, by simp only; omega⟩ ⟨rfl, rfl, rfl, rfl, rfl, rfl, rfl, trivial⟩ ⟨[2, 3], by decide, rfl⟩
    · skip
      have hz2 : restAt c inn ns i = false := by rw [restAt_some hx, beq_eq_false_iff_ne]; exact fun e => hz (congrArg Int.ofNat e)
      refine gl_nil ?_
      refine gx_then ?_
      refine gc_cond_f rfl ?_
      refine gc_skip ?_
      refine gx_block ?_
      refine gx_then ?_
      refine gc_region ?_
      refine gl_op (op_rd rfl (rd_add rfl rfl (by omega) (by omega)) ?_)
      refine gl_op (op_rd rfl (rd_move rfl) ?_)
      refine gl_nil ?_
      refine gx_then ?_
      exact gx_cut ((i + 1, r, nn, cp, cs)) ⟨⟨by simp only; omega, by simp only; rw [filter_range_f _ hz2, hn], by simp only; rw [filter_range_f _ hz2, hcs]⟩, by simp only; omega⟩ ⟨rfl, rfl, rfl, rfl, rfl, rfl, rfl, trivial⟩ ⟨[1, 2], by decide, rfl⟩
  · skip
    refine gl_nil ?_
    refine gx_then ?_
    refine gc_seq ?_
    refine gc_cond_f rfl ?_
    refine gc_exit ?_
    refine gx_then_exit ?_
    refine gx_then_exit ?_
    refine gx_block_exit ?_
    refine gx_then ?_
    refine gc_seq ?_
    refine gc_block ?_
    refine gc_seq ?_
    have hie : i = ns.length := by omega
    have hrs : (List.range i).filter (restAt c inn ns) = rests c inn ns := by rw [hie]; rfl
    rw [hrs] at hn hcs
    refine gc_region ?_
    refine gl_op (op_rd rfl (rd_move rfl) ?_)
    refine gl_op (op_rd rfl (rd_lenSlice Try.underlying23 rfl) ?_)
    refine gl_op (op_rd rfl (rd_gtr rfl rfl) (gk_dec (fun htwo => ?_) (fun htwo => ?_)))
    · skip
      refine gl_op (op_rd rfl (rd_assign rfl) ?_)
      refine gl_nil ?_
      refine gx_then ?_
      refine gc_cond_t rfl ?_
      refine gc_seq ?_
      refine gc_drawP [0, 1] false 11 rfl ?_
      refine ga_first 0 #[true, false, false, false, false, false, false, false, false, false, false, false] rfl rfl rfl rfl (by kernel_rfl) rfl ⟨[0, 1], by decide, rfl⟩ (qt_rd (rd_move rfl)) ?_
      refine ga_first 1 #[true, true, false, false, false, false, false, false, false, false, false, false] rfl rfl rfl rfl (by kernel_rfl) rfl ⟨[0, 1], by decide, rfl⟩ (qt_rd (rd_move rfl)) ?_
      refine ga_first 2 #[true, true, true, false, false, false, false, false, false, false, false, false] rfl rfl rfl rfl (by kernel_rfl) rfl ⟨[0, 1], by decide, rfl⟩ (qt_rd (by first | exact rd_indexRow1 0 rfl Try.underlying23 ty_3 rfl rfl (by omega) (by omega) | exact rd_indexOld1 (by assumption) Try.underlying23 ty_3 rfl rfl (by omega) (by omega) | exact rd_index1 Try.underlying23 ty_3 rfl rfl (by omega) (by omega))) ?_
      refine ga_first 3 #[true, true, true, true, false, false, false, false, false, false, false, false] rfl rfl rfl rfl (by kernel_rfl) rfl ⟨[0, 1], by decide, rfl⟩ (qt_rd (rd_load Try.underlying3 rfl rfl (by first | exact ld_row 0 rfl (by rw [hcs]; exact get_nats (show 0 < (rests c inn ns).length by omega)) | exact ld_row 1 rfl (by rw [hcs]; exact get_nats (show 0 < (rests c inn ns).length by omega))))) ?_
      refine ga_first 5 #[true, true, true, true, false, true, false, false, false, false, false, false] rfl rfl rfl rfl (by kernel_rfl) rfl ⟨[0, 1], by decide, rfl⟩ (qt_rd (rd_move rfl)) ?_
      refine ga_first 6 #[true, true, true, true, false, true, true, false, false, false, false, false] rfl rfl rfl rfl (by kernel_rfl) rfl ⟨[0, 1], by decide, rfl⟩ (qt_rd (rd_move rfl)) ?_
      refine ga_first 7 #[true, true, true, true, false, true, true, true, false, false, false, false] rfl rfl rfl rfl (by kernel_rfl) rfl ⟨[0, 1], by decide, rfl⟩ (qt_rd (by first | exact rd_indexRow1 0 rfl Try.underlying23 ty_3 rfl rfl (by omega) (by omega) | exact rd_indexOld1 (by assumption) Try.underlying23 ty_3 rfl rfl (by omega) (by omega) | exact rd_index1 Try.underlying23 ty_3 rfl rfl (by omega) (by omega))) ?_
      refine ga_first 8 #[true, true, true, true, false, true, true, true, true, false, false, false] rfl rfl rfl rfl (by kernel_rfl) rfl ⟨[0, 1], by decide, rfl⟩ (qt_rd (rd_load Try.underlying3 rfl rfl (by first | exact ld_row 0 rfl (by rw [hcs]; exact get_nats (show 1 < (rests c inn ns).length by omega)) | exact ld_row 1 rfl (by rw [hcs]; exact get_nats (show 1 < (rests c inn ns).length by omega))))) ?_
      refine ga_only 4 #[true, true, true, true, true, true, true, true, true, false, false, false] rfl rfl (by kernel_rfl) rfl (.inr ⟨[0, 1], by decide, rfl⟩) (op_call rfl (vf := []) (vc := []) rfl rfl Try.call68 (fun w ho => way_ok c inn ns pg a gcp m ((rests c inn ns).getD 0 0) w (hg.at ho) hgr.wf (by first | exact rests_lt (by omega) | omega) (by omega)) ?_)
      rintro _ _ ⟨ra, ca, rfl, rfl⟩
      refine ga_only 9 #[true, true, true, true, true, true, true, true, true, true, false, false] rfl rfl (by kernel_rfl) rfl (.inr ⟨[1, 2], by decide, rfl⟩) (op_call rfl (vf := []) (vc := []) rfl rfl Try.call68 (fun w ho => way_ok c inn ns pg a gcp m ((rests c inn ns).getD 1 0) w (hg.at ho) hgr.wf (by first | exact rests_lt (by omega) | omega) (by omega)) ?_)
      rintro _ _ ⟨rb, cb, rfl, rfl⟩
      refine ga_first 10 #[true, true, true, true, true, true, true, true, true, true, true, false] rfl rfl rfl rfl (by kernel_rfl) rfl ⟨[2, 3], by decide, rfl⟩ (qt_rd (rd_build rfl (fun _ => bd_40_0_1_2 _ _ _ _ _ _ _))) ?_
      refine ga_only 11 #[true, true, true, true, true, true, true, true, true, true, true, true] rfl rfl (by kernel_rfl) rfl (.inr ⟨[2, 3], by decide, rfl⟩) (op_storeAgg 3 ty_40 rfl rfl rfl rfl rfl rfl (by first | rfl | (simp only [List.set_cons_succ, List.set_cons_zero]; exact rfl)) ?_)
      refine ga_end (by kernel_rfl) (.inl (by kernel_rfl)) ?_
      refine gx_then ?_
      refine gc_ret ?_
      refine gx_block_ret ?_
      refine gx_then_ret ?_
      refine gx_retV1 (.inl rfl) Try.results39 (rv_agg Try.underlying40 rfl ty_40 rfl (by rfl) (cs_blk 3 (off := 0) (k := 3) rfl rfl)) [1, 0] (by decide) ?_
      have hR := raceP_two (c := c) (inn := inn) (ns := ns) (by omega)
      rw [hR]
      exact ⟨ra, ca, rb, cb, rfl, rfl⟩
    · skip
      refine gl_op (op_rd rfl (rd_assign rfl) ?_)
      refine gl_nil ?_
      refine gx_then ?_
      refine gc_cond_f rfl ?_
      refine gc_seq ?_
      refine gc_region ?_
      refine gl_op (op_rd rfl (rd_move rfl) ?_)
      refine gl_op (op_call rfl (vf := []) (vc := []) rfl rfl Try.call69 (fun w ho => ends_ok c inn ns pg a gcp m w (hg.at ho) hgr hgd) ?_)
      rintro _ _ ⟨rfl, rfl⟩
      refine gk_bool (fun hends => ?_) (fun hends => ?_)
      · skip
        refine gl_op (op_rd rfl (rd_assign rfl) ?_)
        refine gl_nil ?_
        refine gx_then ?_
        refine gc_cond_t rfl ?_
        refine gc_seq ?_
        refine gk_nil 3 1 ?_
        refine gk_nil 3 1 ?_
        refine gc_region ?_
        refine gl_op (op_rd rfl (rd_build rfl (fun _ => bd_40_)) ?_)
        refine gl_op (op_storeAgg 3 ty_40 rfl rfl rfl rfl rfl rfl (by first | rfl | (simp only [List.set_cons_succ, List.set_cons_zero]; exact rfl)) ?_)
        refine gl_nil ?_
        refine gx_then ?_
        refine gc_ret ?_
        refine gx_block_ret ?_
        refine gx_then_ret ?_
        refine gx_retV1 (.inl rfl) Try.results39 (rv_agg Try.underlying40 rfl ty_40 rfl (by rfl) (cs_blk 3 (off := 0) (k := 3) rfl rfl)) [0, 1] (by decide) ?_
        have hR := raceP_ends (c := c) (inn := inn) (ns := ns) (by omega) hends
        rw [hR]
        exact ⟨none, 0, none, 0, rfl, rfl⟩
      · skip
        refine gl_op (op_rd rfl (rd_assign rfl) ?_)
        refine gl_nil ?_
        refine gx_then ?_
        refine gc_cond_f rfl ?_
        refine gc_skip ?_
        refine gx_block ?_
        refine gx_then ?_
        refine gc_seq ?_
        refine gc_seq ?_
        refine gc_region ?_
        refine gl_op (op_rd rfl (rd_move rfl) ?_)
        refine gl_op (op_rd rfl (rd_nilCheck rfl) ?_)
        refine gl_op (op_rd rfl (rd_fieldAddr rfl (fa_70_0 _)) ?_)
        refine gl_op (op_rd rfl (rd_load Try.underlying67 rfl rfl (ld_cells hg.g (by simp) rfl)) ?_)
        refine gl_op (op_rd rfl (rd_lenSlice Try.underlying67 rfl) ?_)
        refine gl_op (op_rd rfl (rd_move rfl) ?_)
        refine gl_nil ?_
        refine gx_then ?_
        refine gc_block ?_
        refine gc_loopF (ι := Nat) [] [_] (fun j => j ≤ ns.length ∧ loopFrom c inn ns j (ns.drop j) = loopFrom c inn ns 0 ns) (fun j Fr0 => ((0, .pointer (some pb)) :: (1, .pointer (some pg)) :: (4, .pointer (some ⟨b4, 0, none⟩)) :: (51, .slice a ns.length gcp) :: (52, natV ns.length) :: (53, natV j) :: Fr0)) (fun j Fr0 => (.blk b4 [.int .i64 0, .slice none 0 0, .slice none 0 0] 40 :: Fr0)) (fun j => ns.length - j) 0 (⟨Nat.zero_le _, rfl⟩) ⟨rfl, rfl, rfl, rfl, rfl, rfl, trivial⟩ ⟨[1, 0], by decide, rfl⟩ ?_
        rintro i ⟨hi, hlf⟩
        refine gc_seq ?_
        refine gc_region ?_
        refine gl_op (op_rd rfl (rd_lss rfl rfl) (gk_dec (fun hlt2 => ?_) (fun hlt2 => ?_)))
        · skip
          obtain ⟨x, hx⟩ : ∃ y, ns[i]? = some y := ⟨ns[i]'(by omega), List.getElem?_eq_getElem (by omega)⟩
          have hxm := List.mem_of_getElem? hx
          obtain ⟨ms, hre, hwm, hsm, hlm⟩ := hgr.back x hxm
          refine gl_nil ?_
          refine gx_then ?_
          refine gc_seq ?_
          refine gc_cond_t rfl ?_
          refine gc_skip ?_
          refine gx_then ?_
          refine gc_seq ?_
          refine gc_block ?_
          refine gc_seq ?_
          refine gc_region ?_
          refine gl_op (op_rd rfl (rd_move rfl) ?_)
          refine gl_op (op_rd rfl (rd_indexOld hg.row Try.underlying67 ty_72 rfl rfl (by omega) (by omega)) ?_)
          refine gl_op (op_rd rfl (rd_loadAgg Try.underlying72 rfl ty_72 rfl (cs_sl hg.row (flat_drop_get (Nd.cells c inn) 4 (fun _ => rfl) hx)) rfl) ?_)
          refine gl_op (op_alloc ty_72 rfl rfl (fun b9 => ?_))
          refine gl_op (op_rd rfl (rd_assign rfl) ?_)
          first | refine gl_op (op_storeAgg 0 ty_72 rfl rfl rfl rfl rfl rfl (by first | rfl | (simp only [List.set_cons_succ, List.set_cons_zero]; exact rfl)) ?_) | refine gl_op (op_storeAgg 1 ty_72 rfl rfl rfl rfl rfl rfl (by first | rfl | (simp only [List.set_cons_succ, List.set_cons_zero]; exact rfl)) ?_)
          refine gl_nil ?_
          refine gx_then ?_
          refine gc_seq ?_
          refine gc_region ?_
          refine gl_op (op_rd rfl (rd_move rfl) ?_)
          refine gl_op (op_rd rfl (rd_fieldAddr rfl (fa_72_0 _)) ?_)
          refine gl_op (op_rd rfl (rd_load Try.underlying3 rfl rfl (by first | exact ld_blk 0 rfl rfl | exact ld_blk 1 rfl rfl | exact ld_rowN 2 rfl (get_nats (by omega)) | exact ld_slN (by assumption) (get_nats (by omega)) | exact ld_rowN 2 rfl (get_ints (by omega)) | exact ld_slN (by assumption) (get_ints (by omega)) | exact ld_old (by assumption) (by simp) | exact ld_cells (by assumption) (by simp) rfl)) ?_)
          refine gl_op (op_call rfl (vf := []) (vc := []) rfl rfl Try.call70 (fun w ho => back_ok c pb pc inn x.state ms w (hbd.at ho) hgd hin (hgr.st x hxm) hre hwm hsm hlm) ?_)
          rintro _ _ ⟨rb, cb, rfl, rfl⟩
          refine gl_op (op_rd rfl (rd_assign rfl) ?_)
          refine gl_nil ?_
          refine gx_then ?_
          refine gc_seq ?_
          refine gc_region ?_
          refine gl_op (op_rd rfl (rd_move rfl) ?_)
          refine gl_op (op_rd rfl (rd_lenSlice Try.underlying23 rfl) ?_)
          refine gl_op (op_rd rfl (rd_gtr rfl rfl) (gk_dec (fun hpos => ?_) (fun hpos => ?_)))
          · skip
            refine gl_nil ?_
            refine gx_then ?_
            refine gc_cond_t rfl ?_
            refine gc_seq ?_
            refine gc_region ?_
            refine gl_op (op_rd rfl (rd_move rfl) ?_)
            refine gl_op (op_rd rfl (rd_move rfl) ?_)
            refine gl_op (op_call rfl (vf := []) (vc := []) rfl rfl Try.call68 (fun w ho => way_ok c inn ns pg a gcp m i w (hg.at ho) hgr.wf (by first | exact rests_lt (by omega) | omega) (by omega)) ?_)
            rintro _ _ ⟨ra, ca, rfl, rfl⟩
            refine gl_op (op_rd rfl (rd_move rfl) ?_)
            refine gl_op (op_rd rfl (rd_build rfl (fun _ => bd_40_0_1_2 _ _ _ _ _ _ _)) ?_)
            first | refine gl_op (op_storeAgg 2 ty_40 rfl rfl rfl rfl rfl rfl (by first | rfl | (simp only [List.set_cons_succ, List.set_cons_zero]; exact rfl)) ?_) | refine gl_op (op_storeAgg 3 ty_40 rfl rfl rfl rfl rfl rfl (by first | rfl | (simp only [List.set_cons_succ, List.set_cons_zero]; exact rfl)) ?_)
            refine gl_nil ?_
            refine gx_then ?_
            refine gc_ret ?_
            refine gx_block_ret ?_
            refine gx_then_ret ?_
            refine gx_then_ret ?_
            refine gx_block_ret ?_
            refine gx_then_ret ?_
            refine gx_retV1 (.inl rfl) Try.results39 (rv_agg Try.underlying40 rfl ty_40 rfl (by rfl) (cs_blk 3 (off := 0) (k := 3) rfl rfl)) [0, 1] (by decide) ?_
            have hR : raceP c inn ns = ⟨2, wayP ns i, backP c inn x.state⟩ := by rw [raceP_loop (by omega) hends, ← hlf, drop_at hx, loopFrom_hit (by intro e; rw [e] at hpos; simp at hpos)]
            rw [hR]
            exact ⟨ra, ca, rb, cb, rfl, rfl⟩
          · skip
            refine gl_nil ?_
            refine gx_then ?_
            refine gc_cond_f rfl ?_
            refine gc_skip ?_
            refine gx_block ?_
            refine gx_then ?_
            refine gc_region ?_
            refine gl_op (op_rd rfl (rd_add rfl rfl (by omega) (by omega)) ?_)
            refine gl_op (op_rd rfl (rd_move rfl) ?_)
            refine gl_nil ?_
            refine gx_then ?_
            exact gx_cut (i + 1) ⟨⟨by omega, by rw [← hlf, drop_at hx, loopFrom_skip (List.eq_nil_of_length_eq_zero (by omega))]⟩, by omega⟩ ⟨rfl, rfl, rfl, rfl, rfl, rfl, trivial⟩ ⟨[2, 3], by decide, rfl⟩
        · skip
          refine gl_nil ?_
          refine gx_then ?_
          refine gc_seq ?_
          refine gc_cond_f rfl ?_
          refine gc_exit ?_
          refine gx_then_exit ?_
          refine gx_then_exit ?_
          refine gx_block_exit ?_
          refine gx_then ?_
          refine gc_seq ?_
          refine gk_nil 3 1 ?_
          refine gk_nil 3 1 ?_
          refine gc_region ?_
          refine gl_op (op_rd rfl (rd_build rfl (fun _ => bd_40_)) ?_)
          refine gl_op (op_storeAgg 2 ty_40 rfl rfl rfl rfl rfl rfl (by first | rfl | (simp only [List.set_cons_succ, List.set_cons_zero]; exact rfl)) ?_)
          refine gl_nil ?_
          refine gx_then ?_
          refine gc_ret ?_
          refine gx_retV1 (.inl rfl) Try.results39 (rv_agg Try.underlying40 rfl ty_40 rfl (by rfl) (cs_blk 2 (off := 0) (k := 3) rfl rfl)) [0, 1] (by decide) ?_
          have hR : raceP c inn ns = ⟨0, [], []⟩ := by rw [raceP_loop (by omega) hends, ← hlf, List.drop_of_length_le (by omega)]; rfl
          rw [hR]
          exact ⟨none, 0, none, 0, rfl, rfl⟩

end Go.Proofs.Yteocjpnckciboaa

set_option autoImplicit false
set_option linter.unusedVariables false
namespace Go.Proofs.Yteocjpnckciboaa
open Go.Gv
open Go.RowKit
open Ry
set_option maxRecDepth 100000 in
set_option maxHeartbeats 1000000 in
theorem Race_ok (c : Circ) (st inn : Int) (w0 : World) (hc : c.In w0 []) (hst : st ≤ 9223372036854775807) (hin : inn ≤ 9223372036854775807) (hF0 : ∀ im, im < 2 ^ c.inputs.toNat → c.Good → Facts c im) : Sp Try.prog 17 [c.val, .int .i64 st, .int .i64 inn] w0 [] (fun v l => ∃ ra ca rb cb, v = .tuple #[.agg #[natV (raceR c st inn).1.kind, .slice (rowA ra) (raceR c st inn).1.a.length ca, .slice (rowA rb) (raceR c st inn).1.b.length cb], .int .i64 (raceR c st inn).2] ∧ l = [.row 3 1 ra (raceR c st inn).1.a.length ca ((raceR c st inn).1.a.map natV), .row 3 1 rb (raceR c st inn).1.b.length cb ((raceR c st inn).1.b.map natV)]) := by
  refine spec_enter Try.func17 rfl Try.ntmps17 rfl (Own.refl _) ?_
  simp only [argEnv]
  refine gc_seq ?_
  refine gc_region ?_
  refine gl_op (op_box rfl rfl rfl (fun b3 => ?_))
  refine gl_op (op_alloc ty_40 rfl rfl (fun b6 => ?_))
  refine gl_op (op_rd rfl (rd_assign rfl) ?_)
  refine gl_nil ?_
  refine gx_then ?_
  refine gc_seq ?_
  refine gc_region ?_
  refine gl_op (op_rd rfl (rd_move rfl) ?_)
  refine gl_op (op_rd rfl (rd_move rfl) ?_)
  refine gl_op (op_call rfl (vf := []) (vc := []) rfl rfl Try.call38 (fun w ho => explore_ok c ⟨b3, 0, none⟩ st inn w (hc.at ho) (ho.blkCells 1 rfl) hst hin) ?_)
  rintro _ _ (⟨hr, ns, b, G, m, r, cp, hre, rfl, rfl⟩ | ⟨hr, hre, rfl, rfl⟩ | ⟨hr, rfl, rfl⟩)
  · skip
    obtain ⟨hck, h1, h2, h3, h4⟩ := Circ.of_ready hr
    have hgd := Circ.good hck
    obtain ⟨sn, rfl⟩ : ∃ n : Nat, st = n := ⟨st.toNat, by omega⟩
    obtain ⟨im, rfl⟩ : ∃ n : Nat, inn = n := ⟨inn.toNat, by omega⟩
    have hre2 := hre
    simp only [Int.toNat_natCast] at h2 h4 hre2 ⊢
    have hF := hF0 im h4 hgd
    have hgr := hF.gr sn ns h2 hre2
    have hlen := hgr.len
    refine gl_op (op_rd rfl (rd_move rfl) ?_)
    refine gl_op (op_rd rfl (rd_extract rfl rfl) ?_)
    refine gl_op (op_rd rfl (rd_extract rfl rfl) ?_)
    refine gl_op (op_rd rfl (rd_extract rfl rfl) ?_)
    refine gl_op (op_rd rfl (rd_assign rfl) ?_)
    refine gl_op (op_rd rfl (rd_assign rfl) ?_)
    refine gl_op (op_rd rfl (rd_assign rfl) ?_)
    refine gl_nil ?_
    refine gx_then ?_
    refine gc_seq ?_
    refine gc_seq ?_
    refine gc_region ?_
    refine gl_op (op_rd rfl (rd_move rfl) ?_)
    refine gl_op (op_rd rfl (rd_neq rfl rfl) (gk_dec (fun he => ?_) (fun he => ?_)))
    · skip
      exact absurd he (by simp)
    · skip
      refine gl_nil ?_
      refine gx_then ?_
      refine gc_cond_f rfl ?_
      refine gc_skip ?_
      refine gx_then ?_
      refine gc_seq ?_
      refine gc_region ?_
      refine gl_op (op_rd rfl (rd_move rfl) ?_)
      refine gl_op (op_rd rfl (rd_move rfl) ?_)
      refine gl_op (op_call rfl (vf := []) (vc := []) rfl rfl Try.call39 (fun w ho => race_ok c ⟨b, 0, none⟩ ⟨b3, 0, none⟩ im ns ⟨G, 0, none⟩ (rowA r) cp m w ⟨ho.blkCells 3 rfl, ho.blkCells 5 rfl, hc.at ho⟩ (GraphIn.mk' ho 0 1 2 rfl rfl rfl) hgr hgd h4) ?_)
      rintro _ _ ⟨ra, ca, rb, cb, rfl, rfl⟩
      first | refine gl_op (op_storeAgg 2 ty_40 rfl rfl rfl rfl rfl rfl (by first | rfl | (simp only [List.set_cons_succ, List.set_cons_zero]; exact rfl)) ?_) | refine gl_op (op_storeAgg 5 ty_40 rfl rfl rfl rfl rfl rfl (by first | rfl | (simp only [List.set_cons_succ, List.set_cons_zero]; exact rfl)) ?_) | refine gl_op (op_storeAgg 6 ty_40 rfl rfl rfl rfl rfl rfl (by first | rfl | (simp only [List.set_cons_succ, List.set_cons_zero]; exact rfl)) ?_) | refine gl_op (op_storeAgg 7 ty_40 rfl rfl rfl rfl rfl rfl (by first | rfl | (simp only [List.set_cons_succ, List.set_cons_zero]; exact rfl)) ?_)
      refine gl_op (op_rd rfl (rd_assign rfl) ?_)
      refine gl_nil ?_
      refine gx_then ?_
      refine gc_ret ?_
      refine gx_retV2 (.inl rfl) Try.results17 (rv_agg Try.underlying40 rfl ty_40 rfl (by rfl) (cs_blk 6 (off := 0) (k := 3) rfl rfl)) (rv_tmp rfl) [0, 1] (by decide) ?_
      rw [raceR_ok hr hre]
      simp only [Int.toNat_natCast]
      exact ⟨ra, ca, rb, cb, rfl, rfl⟩
  · skip
    refine gl_op (op_rd rfl (rd_move rfl) ?_)
    refine gl_op (op_rd rfl (rd_extract rfl rfl) ?_)
    refine gl_op (op_rd rfl (rd_extract rfl rfl) ?_)
    refine gl_op (op_rd rfl (rd_extract rfl rfl) ?_)
    refine gl_op (op_rd rfl (rd_assign rfl) ?_)
    refine gl_op (op_rd rfl (rd_assign rfl) ?_)
    refine gl_op (op_rd rfl (rd_assign rfl) ?_)
    refine gl_nil ?_
    refine gx_then ?_
    refine gc_seq ?_
    refine gc_seq ?_
    refine gc_region ?_
    refine gl_op (op_rd rfl (rd_move rfl) ?_)
    refine gl_op (op_rd rfl (rd_neq rfl rfl) (gk_dec (fun he => ?_) (fun he => ?_)))
    · skip
      refine gl_nil ?_
      refine gx_then ?_
      refine gc_cond_t rfl ?_
      refine gc_seq ?_
      refine gk_nil 3 1 ?_
      refine gk_nil 3 1 ?_
      refine gc_region ?_
      refine gl_op (op_rd rfl (rd_build rfl (fun _ => bd_40_)) ?_)
      refine gl_op (op_rd rfl (rd_move rfl) ?_)
      first | refine gl_op (op_storeAgg 2 ty_40 rfl rfl rfl rfl rfl rfl (by first | rfl | (simp only [List.set_cons_succ, List.set_cons_zero]; exact rfl)) ?_) | refine gl_op (op_storeAgg 3 ty_40 rfl rfl rfl rfl rfl rfl (by first | rfl | (simp only [List.set_cons_succ, List.set_cons_zero]; exact rfl)) ?_)
      refine gl_op (op_rd rfl (rd_assign rfl) ?_)
      refine gl_nil ?_
      refine gx_then ?_
      refine gc_ret ?_
      refine gx_then_ret ?_
      refine gx_retV2 (.inl rfl) Try.results17 (rv_agg Try.underlying40 rfl ty_40 rfl (by rfl) (cs_blk 2 (off := 0) (k := 3) rfl rfl)) (rv_tmp rfl) [0, 1] (by decide) ?_
      rw [raceR_full hr hre]
      exact ⟨none, 0, none, 0, rfl, rfl⟩
    · skip
      exact absurd he (by simp)
  · skip
    refine gl_op (op_rd rfl (rd_move rfl) ?_)
    refine gl_op (op_rd rfl (rd_extract rfl rfl) ?_)
    refine gl_op (op_rd rfl (rd_extract rfl rfl) ?_)
    refine gl_op (op_rd rfl (rd_extract rfl rfl) ?_)
    refine gl_op (op_rd rfl (rd_assign rfl) ?_)
    refine gl_op (op_rd rfl (rd_assign rfl) ?_)
    refine gl_op (op_rd rfl (rd_assign rfl) ?_)
    refine gl_nil ?_
    refine gx_then ?_
    refine gc_seq ?_
    refine gc_seq ?_
    refine gc_region ?_
    refine gl_op (op_rd rfl (rd_move rfl) ?_)
    refine gl_op (op_rd rfl (rd_neq rfl rfl) (gk_dec (fun he => ?_) (fun he => ?_)))
    · skip
      refine gl_nil ?_
      refine gx_then ?_
      refine gc_cond_t rfl ?_
      refine gc_seq ?_
      refine gk_nil 3 1 ?_
      refine gk_nil 3 1 ?_
      refine gc_region ?_
      refine gl_op (op_rd rfl (rd_build rfl (fun _ => bd_40_)) ?_)
      refine gl_op (op_rd rfl (rd_move rfl) ?_)
      first | refine gl_op (op_storeAgg 2 ty_40 rfl rfl rfl rfl rfl rfl (by first | rfl | (simp only [List.set_cons_succ, List.set_cons_zero]; exact rfl)) ?_) | refine gl_op (op_storeAgg 3 ty_40 rfl rfl rfl rfl rfl rfl (by first | rfl | (simp only [List.set_cons_succ, List.set_cons_zero]; exact rfl)) ?_)
      refine gl_op (op_rd rfl (rd_assign rfl) ?_)
      refine gl_nil ?_
      refine gx_then ?_
      refine gc_ret ?_
      refine gx_then_ret ?_
      refine gx_retV2 (.inl rfl) Try.results17 (rv_agg Try.underlying40 rfl ty_40 rfl (by rfl) (cs_blk 2 (off := 0) (k := 3) rfl rfl)) (rv_tmp rfl) [0, 1] (by decide) ?_
      rw [raceR_bad hr]
      exact ⟨none, 0, none, 0, rfl, rfl⟩
    · skip
      exact absurd he (by simpa using hr)

set_option maxRecDepth 100000 in
set_option maxHeartbeats 1000000 in
theorem Settle_ok (c : Circ) (st inn : Int) (w0 : World) (hc : c.In w0 []) (hst : st ≤ 9223372036854775807) (hin : inn ≤ 9223372036854775807) (hF0 : ∀ im, im < 2 ^ c.inputs.toNat → c.Good → Facts c im) : Sp Try.prog 11 [c.val, .int .i64 st, .int .i64 inn] w0 [] (RV (.tuple #[natV (settleR c st inn).1, .int .i64 (settleR c st inn).2])) := by
  refine spec_enter Try.func11 rfl Try.ntmps11 rfl (Own.refl _) ?_
  simp only [argEnv]
  refine gc_seq ?_
  refine gc_region ?_
  refine gl_op (op_box rfl rfl rfl (fun b3 => ?_))
  refine gl_op (op_rd rfl (rd_assign rfl) ?_)
  refine gl_op (op_rd rfl (rd_assign rfl) ?_)
  refine gl_nil ?_
  refine gx_then ?_
  refine gc_seq ?_
  refine gc_region ?_
  refine gl_op (op_rd rfl (rd_move rfl) ?_)
  refine gl_op (op_rd rfl (rd_move rfl) ?_)
  refine gl_op (op_call rfl (vf := []) (vc := []) rfl rfl Try.call38 (fun w ho => explore_ok c ⟨b3, 0, none⟩ st inn w (hc.at ho) (ho.blkCells 0 rfl) hst hin) ?_)
  rintro _ _ (⟨hr, ns, b, G, m, r, cp, hre, rfl, rfl⟩ | ⟨hr, hre, rfl, rfl⟩ | ⟨hr, rfl, rfl⟩)
  · skip
    obtain ⟨hck, h1, h2, h3, h4⟩ := Circ.of_ready hr
    have hgd := Circ.good hck
    obtain ⟨sn, rfl⟩ : ∃ n : Nat, st = n := ⟨st.toNat, by omega⟩
    obtain ⟨im, rfl⟩ : ∃ n : Nat, inn = n := ⟨inn.toNat, by omega⟩
    have hre2 := hre
    simp only [Int.toNat_natCast] at h2 h4 hre2 ⊢
    have hF := hF0 im h4 hgd
    have hgr := hF.gr sn ns h2 hre2
    have hlen := hgr.len
    refine gl_op (op_rd rfl (rd_move rfl) ?_)
    refine gl_op (op_rd rfl (rd_extract rfl rfl) ?_)
    refine gl_op (op_rd rfl (rd_extract rfl rfl) ?_)
    refine gl_op (op_rd rfl (rd_extract rfl rfl) ?_)
    refine gl_op (op_rd rfl (rd_assign rfl) ?_)
    refine gl_op (op_rd rfl (rd_assign rfl) ?_)
    refine gl_op (op_rd rfl (rd_assign rfl) ?_)
    refine gl_nil ?_
    refine gx_then ?_
    refine gc_seq ?_
    refine gc_seq ?_
    refine gc_region ?_
    refine gl_op (op_rd rfl (rd_move rfl) ?_)
    refine gl_op (op_rd rfl (rd_neq rfl rfl) (gk_dec (fun he => ?_) (fun he => ?_)))
    · skip
      exact absurd he (by simp)
    · skip
      refine gl_nil ?_
      refine gx_then ?_
      refine gc_cond_f rfl ?_
      refine gc_skip ?_
      refine gx_then ?_
      refine gc_seq ?_
      refine gc_seq ?_
      refine gc_region ?_
      refine gl_op (op_rd rfl (rd_move rfl) ?_)
      refine gl_op (op_rd rfl (rd_move rfl) ?_)
      refine gl_op (op_call rfl (vf := []) (vc := []) rfl rfl Try.call39 (fun w ho => race_ok c ⟨b, 0, none⟩ ⟨b3, 0, none⟩ im ns ⟨G, 0, none⟩ (rowA r) cp m w ⟨ho.blkCells 3 rfl, ho.blkCells 4 rfl, hc.at ho⟩ (GraphIn.mk' ho 0 1 2 rfl rfl rfl) hgr hgd h4) ?_)
      rintro _ _ ⟨ra, ca, rb, cb, rfl, rfl⟩
      refine gl_op (op_rd rfl (rd_field rfl (fd_40_0 _ _ _ _ _ _ _)) ?_)
      refine gl_op (op_rd rfl (rd_neq rfl rfl) (gk_dec (fun hk => ?_) (fun hk => ?_)))
      · skip
        have hk2 : (raceP c im ns).kind ≠ 0 := by omega
        refine gl_nil ?_
        refine gx_then ?_
        refine gc_cond_t rfl ?_
        refine gc_seq ?_
        refine gc_region ?_
        refine gl_op (op_rd rfl (rd_assign rfl) ?_)
        refine gl_op (op_rd rfl (rd_assign rfl) ?_)
        refine gl_nil ?_
        refine gx_then ?_
        refine gc_ret ?_
        refine gx_then_ret ?_
        refine gx_ret2 (.inl rfl) Try.results11 rfl rfl [] (by decide) ?_
        exact ⟨by rw [settleR_race hr hre (by simpa using hk2)]; rfl, rfl⟩
      · skip
        have hk2 : (raceP c im ns).kind = 0 := by omega
        refine gl_nil ?_
        refine gx_then ?_
        refine gc_cond_f rfl ?_
        refine gc_skip ?_
        refine gx_then ?_
        refine gc_seq ?_
        refine gc_region ?_
        refine gl_op (op_rd rfl (rd_move rfl) ?_)
        refine gl_op (op_call rfl (vf := []) (vc := []) rfl rfl Try.call40 (fun w ho => settled_ok c im ns ⟨G, 0, none⟩ (rowA r) cp m w (GraphIn.mk' ho 2 3 4 rfl rfl rfl) (by omega) (hF.rest sn ns h2 hre2 hk2)) ?_)
        rintro _ _ ⟨rfl, rfl⟩
        refine gl_op (op_rd rfl (rd_assign rfl) ?_)
        refine gl_op (op_rd rfl (rd_assign rfl) ?_)
        refine gl_nil ?_
        refine gx_then ?_
        refine gc_ret ?_
        refine gx_ret2 (.inl rfl) Try.results11 rfl rfl [] (by decide) ?_
        exact ⟨by rw [settleR_ok hr hre (by simpa using hk2)]; simp only [Int.toNat_natCast], rfl⟩
  · skip
    refine gl_op (op_rd rfl (rd_move rfl) ?_)
    refine gl_op (op_rd rfl (rd_extract rfl rfl) ?_)
    refine gl_op (op_rd rfl (rd_extract rfl rfl) ?_)
    refine gl_op (op_rd rfl (rd_extract rfl rfl) ?_)
    refine gl_op (op_rd rfl (rd_assign rfl) ?_)
    refine gl_op (op_rd rfl (rd_assign rfl) ?_)
    refine gl_op (op_rd rfl (rd_assign rfl) ?_)
    refine gl_nil ?_
    refine gx_then ?_
    refine gc_seq ?_
    refine gc_seq ?_
    refine gc_region ?_
    refine gl_op (op_rd rfl (rd_move rfl) ?_)
    refine gl_op (op_rd rfl (rd_neq rfl rfl) (gk_dec (fun he => ?_) (fun he => ?_)))
    · skip
      refine gl_nil ?_
      refine gx_then ?_
      refine gc_cond_t rfl ?_
      refine gc_seq ?_
      refine gc_region ?_
      refine gl_op (op_rd rfl (rd_move rfl) ?_)
      refine gl_op (op_rd rfl (rd_assign rfl) ?_)
      refine gl_op (op_rd rfl (rd_assign rfl) ?_)
      refine gl_nil ?_
      refine gx_then ?_
      refine gc_ret ?_
      refine gx_then_ret ?_
      refine gx_ret2 (.inl rfl) Try.results11 rfl rfl [] (by decide) ?_
      exact ⟨by rw [settleR_full hr hre]; rfl, rfl⟩
    · skip
      exact absurd he (by simp)
  · skip
    refine gl_op (op_rd rfl (rd_move rfl) ?_)
    refine gl_op (op_rd rfl (rd_extract rfl rfl) ?_)
    refine gl_op (op_rd rfl (rd_extract rfl rfl) ?_)
    refine gl_op (op_rd rfl (rd_extract rfl rfl) ?_)
    refine gl_op (op_rd rfl (rd_assign rfl) ?_)
    refine gl_op (op_rd rfl (rd_assign rfl) ?_)
    refine gl_op (op_rd rfl (rd_assign rfl) ?_)
    refine gl_nil ?_
    refine gx_then ?_
    refine gc_seq ?_
    refine gc_seq ?_
    refine gc_region ?_
    refine gl_op (op_rd rfl (rd_move rfl) ?_)
    refine gl_op (op_rd rfl (rd_neq rfl rfl) (gk_dec (fun he => ?_) (fun he => ?_)))
    · skip
      refine gl_nil ?_
      refine gx_then ?_
      refine gc_cond_t rfl ?_
      refine gc_seq ?_
      refine gc_region ?_
      refine gl_op (op_rd rfl (rd_move rfl) ?_)
      refine gl_op (op_rd rfl (rd_assign rfl) ?_)
      refine gl_op (op_rd rfl (rd_assign rfl) ?_)
      refine gl_nil ?_
      refine gx_then ?_
      refine gc_ret ?_
      refine gx_then_ret ?_
      refine gx_ret2 (.inl rfl) Try.results11 rfl rfl [] (by decide) ?_
      exact ⟨by rw [settleR_bad hr]; rfl, rfl⟩
    · skip
      exact absurd he (by simpa using hr)

set_option maxRecDepth 100000 in
set_option maxHeartbeats 1000000 in
theorem Glitches_ok (c : Circ) (st inn : Int) (w0 : World) (hc : c.In w0 []) (hst : st ≤ 9223372036854775807) (hin : inn ≤ 9223372036854775807) (hF0 : ∀ im, im < 2 ^ c.inputs.toNat → c.Good → Facts c im) : Sp Try.prog 14 [c.val, .int .i64 st, .int .i64 inn] w0 [] (fun v l => ∃ r cp, v = .tuple #[.slice (rowA r) (glitchesR c st inn).1.length cp, .int .i64 (glitchesR c st inn).2] ∧ l = [.row 3 1 r (glitchesR c st inn).1.length cp ((glitchesR c st inn).1.map natV)]) := by
  refine spec_enter Try.func14 rfl Try.ntmps14 rfl (Own.refl _) ?_
  simp only [argEnv]
  refine gc_seq ?_
  refine gc_region ?_
  refine gl_op (op_box rfl rfl rfl (fun b3 => ?_))
  refine gl_op (op_rd rfl (rd_assign rfl) ?_)
  refine gl_op (op_rd rfl (rd_assign rfl) ?_)
  refine gl_nil ?_
  refine gx_then ?_
  refine gc_seq ?_
  refine gc_region ?_
  refine gl_op (op_rd rfl (rd_move rfl) ?_)
  refine gl_op (op_rd rfl (rd_move rfl) ?_)
  refine gl_op (op_call rfl (vf := []) (vc := []) rfl rfl Try.call38 (fun w ho => explore_ok c ⟨b3, 0, none⟩ st inn w (hc.at ho) (ho.blkCells 0 rfl) hst hin) ?_)
  rintro _ _ (⟨hr, ns, b, G, m, r, cp, hre, rfl, rfl⟩ | ⟨hr, hre, rfl, rfl⟩ | ⟨hr, rfl, rfl⟩)
  · skip
    obtain ⟨hck, h1, h2, h3, h4⟩ := Circ.of_ready hr
    have hgd := Circ.good hck
    obtain ⟨sn, rfl⟩ : ∃ n : Nat, st = n := ⟨st.toNat, by omega⟩
    obtain ⟨im, rfl⟩ : ∃ n : Nat, inn = n := ⟨inn.toNat, by omega⟩
    have hre2 := hre
    simp only [Int.toNat_natCast] at h2 h4 hre2 ⊢
    have hF := hF0 im h4 hgd
    have hgr := hF.gr sn ns h2 hre2
    have hlen := hgr.len
    refine gl_op (op_rd rfl (rd_move rfl) ?_)
    refine gl_op (op_rd rfl (rd_extract rfl rfl) ?_)
    refine gl_op (op_rd rfl (rd_extract rfl rfl) ?_)
    refine gl_op (op_rd rfl (rd_extract rfl rfl) ?_)
    refine gl_op (op_rd rfl (rd_assign rfl) ?_)
    refine gl_op (op_rd rfl (rd_assign rfl) ?_)
    refine gl_op (op_rd rfl (rd_assign rfl) ?_)
    refine gl_nil ?_
    refine gx_then ?_
    refine gc_seq ?_
    refine gc_seq ?_
    refine gc_region ?_
    refine gl_op (op_rd rfl (rd_move rfl) ?_)
    refine gl_op (op_rd rfl (rd_neq rfl rfl) (gk_dec (fun he => ?_) (fun he => ?_)))
    · skip
      exact absurd he (by simp)
    · skip
      refine gl_nil ?_
      refine gx_then ?_
      refine gc_cond_f rfl ?_
      refine gc_skip ?_
      refine gx_then ?_
      refine gc_seq ?_
      refine gc_seq ?_
      refine gc_region ?_
      refine gl_op (op_rd rfl (rd_move rfl) ?_)
      refine gl_op (op_rd rfl (rd_move rfl) ?_)
      refine gl_op (op_call rfl (vf := []) (vc := []) rfl rfl Try.call39 (fun w ho => race_ok c ⟨b, 0, none⟩ ⟨b3, 0, none⟩ im ns ⟨G, 0, none⟩ (rowA r) cp m w ⟨ho.blkCells 3 rfl, ho.blkCells 4 rfl, hc.at ho⟩ (GraphIn.mk' ho 0 1 2 rfl rfl rfl) hgr hgd h4) ?_)
      rintro _ _ ⟨ra, ca, rb, cb, rfl, rfl⟩
      refine gl_op (op_rd rfl (rd_field rfl (fd_40_0 _ _ _ _ _ _ _)) ?_)
      refine gl_op (op_rd rfl (rd_neq rfl rfl) (gk_dec (fun hk => ?_) (fun hk => ?_)))
      · skip
        have hk2 : (raceP c im ns).kind ≠ 0 := by omega
        refine gl_nil ?_
        refine gx_then ?_
        refine gc_cond_t rfl ?_
        refine gc_seq ?_
        refine gk_nil 3 1 ?_
        refine gc_region ?_
        refine gl_op (op_rd rfl (rd_assign rfl) ?_)
        refine gl_op (op_rd rfl (rd_assign rfl) ?_)
        refine gl_nil ?_
        refine gx_then ?_
        refine gc_ret ?_
        refine gx_then_ret ?_
        refine gx_ret2 (.inl rfl) Try.results14 rfl rfl [0] (by decide) ?_
        rw [glitchesR_race hr hre (by simpa using hk2)]
        exact ⟨none, 0, rfl, rfl⟩
      · skip
        have hk2 : (raceP c im ns).kind = 0 := by omega
        have hg12 := hgd.g12
        refine gl_nil ?_
        refine gx_then ?_
        refine gc_cond_f rfl ?_
        refine gc_skip ?_
        refine gx_then ?_
        refine gc_seq ?_
        refine gc_region ?_
        refine gl_op (op_rd rfl (rd_assign rfl) ?_)
        refine gl_nil ?_
        refine gx_then ?_
        refine gc_seq ?_
        refine gc_seq ?_
        refine gc_region ?_
        refine gl_op (op_rd rfl (rd_fieldAddr rfl (fa_25_1 _)) ?_)
        refine gl_op (op_rd rfl (rd_load Try.underlying22 rfl rfl (by first | exact ld_blk 2 rfl rfl | exact ld_blk 5 rfl rfl | exact ld_blk 6 rfl rfl | exact ld_old (by assumption) (by simp) | exact ld_cells (by assumption) (by simp) rfl)) ?_)
        refine gl_op (op_rd rfl (rd_lenSlice Try.underlying22 rfl) ?_)
        refine gl_op (op_rd rfl (rd_move rfl) ?_)
        refine gl_nil ?_
        refine gx_then ?_
        refine gc_block ?_
        refine gk_nil 3 1 ?_
        refine gc_loopF (ι := Nat × Option Nat × Nat × Nat × List Value) [] [_, _] (fun j => j.1 ≤ c.gates.length ∧ j.2.2.1 = ((List.range j.1).filter (glitchAt c im ns)).length ∧ j.2.2.2.2 = ((List.range j.1).filter (glitchAt c im ns)).map natV) (fun j Fr0 => ((8, .pointer (some ⟨b, 0, none⟩)) :: (9, .pointer (some ⟨G, 0, none⟩)) :: (11, .slice (rowA j.2.1) j.2.2.1 j.2.2.2.1) :: (35, natV c.gates.length) :: (36, natV j.1) :: Fr0)) (fun j Fr0 => (.row 3 1 j.2.1 j.2.2.1 j.2.2.2.1 j.2.2.2.2 :: .blk G [.slice (rowA r) ns.length cp, .map (some m)] 70 :: .row 72 4 r ns.length cp (ns.flatMap (Nd.cells c im)) :: .obj m (mapObj (plc ns 0)) :: .blk b [.pointer (some ⟨b3, 0, none⟩), natV im] 97 :: .blk b3 c.cells 25 :: Fr0)) (fun j => c.gates.length - j.1) (0, none, 0, 0, []) (⟨Nat.zero_le _, rfl, rfl⟩) ⟨rfl, rfl, rfl, rfl, rfl, trivial⟩ ⟨[0, 3, 4, 5, 6, 7, 1, 2], by decide, rfl⟩ ?_
        rintro ⟨k, ro, no, co, cs⟩ ⟨hkk, hn, hcs⟩
        simp only at hkk hn hcs ⊢
        have hfl := filter_range_le (glitchAt c im ns) k
        refine gc_seq ?_
        refine gc_region ?_
        refine gl_op (op_rd rfl (rd_lss rfl rfl) (gk_dec (fun hlt => ?_) (fun hlt => ?_)))
        · skip
          have hkg : k < c.gates.length := by omega
          obtain ⟨ms0, hms, hml⟩ := hF.glit sn ns k h2 hre2
          refine gl_nil ?_
          refine gx_then ?_
          refine gc_seq ?_
          refine gc_cond_t rfl ?_
          refine gc_skip ?_
          refine gx_then ?_
          refine gc_seq ?_
          refine gc_block ?_
          refine gc_seq ?_
          refine gc_region ?_
          refine gl_op (op_rd rfl (rd_move rfl) ?_)
          refine gl_op (op_alloc ty_3 rfl rfl (fun b12 => ?_))
          first | refine gl_op (op_store 0 ty_3 rfl rfl rfl rfl rfl (by first | rfl | (simp only [List.set_cons_succ, List.set_cons_zero]; exact rfl)) (by first | rfl | (simp only [List.set_cons_succ, List.set_cons_zero]; exact rfl)) ?_) | refine gl_op (op_store 2 ty_3 rfl rfl rfl rfl rfl (by first | rfl | (simp only [List.set_cons_succ, List.set_cons_zero]; exact rfl)) (by first | rfl | (simp only [List.set_cons_succ, List.set_cons_zero]; exact rfl)) ?_) | refine gl_op (op_store 5 ty_3 rfl rfl rfl rfl rfl (by first | rfl | (simp only [List.set_cons_succ, List.set_cons_zero]; exact rfl)) (by first | rfl | (simp only [List.set_cons_succ, List.set_cons_zero]; exact rfl)) ?_) | refine gl_op (op_store 6 ty_3 rfl rfl rfl rfl rfl (by first | rfl | (simp only [List.set_cons_succ, List.set_cons_zero]; exact rfl)) (by first | rfl | (simp only [List.set_cons_succ, List.set_cons_zero]; exact rfl)) ?_) | refine gl_op (op_storeRow 1 ty_3 rfl rfl rfl rfl (by simp; omega) (by first | rfl | (simp only [List.set_cons_succ, List.set_cons_zero]; exact rfl)) ?_) | refine gl_op (op_storeRow 3 ty_3 rfl rfl rfl rfl (by simp; omega) (by first | rfl | (simp only [List.set_cons_succ, List.set_cons_zero]; exact rfl)) ?_) | refine gl_op (op_storeRow 7 ty_3 rfl rfl rfl rfl (by simp; omega) (by first | rfl | (simp only [List.set_cons_succ, List.set_cons_zero]; exact rfl)) ?_) | refine gl_op (op_storeRow 8 ty_3 rfl rfl rfl rfl (by simp; omega) (by first | rfl | (simp only [List.set_cons_succ, List.set_cons_zero]; exact rfl)) ?_)
          refine gl_nil ?_
          refine gx_then ?_
          refine gc_seq ?_
          refine gc_region ?_
          refine gl_op (op_rd rfl (rd_assign rfl) ?_)
          refine gl_nil ?_
          refine gx_then ?_
          refine gc_seq ?_
          refine gc_seq ?_
          refine gc_region ?_
          refine gl_op (op_rd rfl (rd_move rfl) ?_)
          refine gl_op (op_rd rfl (rd_nilCheck rfl) ?_)
          refine gl_op (op_rd rfl (rd_fieldAddr rfl (fa_70_0 _)) ?_)
          refine gl_op (op_rd rfl (rd_load Try.underlying67 rfl rfl (by first | exact ld_blk 0 rfl rfl | exact ld_blk 2 rfl rfl | exact ld_blk 5 rfl rfl | exact ld_blk 6 rfl rfl | exact ld_old (by assumption) (by simp) | exact ld_cells (by assumption) (by simp) rfl)) ?_)
          refine gl_op (op_rd rfl (rd_lenSlice Try.underlying67 rfl) ?_)
          refine gl_op (op_rd rfl (rd_move rfl) ?_)
          refine gl_nil ?_
          refine gx_then ?_
          refine gc_block ?_
          refine gk_nil 3 1 ?_
          refine gc_loopF (ι := Nat × Option Nat × Nat × Nat × List Value) [] [_, _] (fun j => j.1 ≤ ns.length ∧ j.2.2.1 = (afterP c im (ns.take j.1) k).length ∧ j.2.2.2.2 = (afterP c im (ns.take j.1) k).map natV) (fun j Fr0 => ((8, .pointer (some ⟨b, 0, none⟩)) :: (9, .pointer (some ⟨G, 0, none⟩)) :: (11, .slice (rowA ro) no co) :: (35, natV c.gates.length) :: (36, natV k) :: (12, .pointer (some ⟨b12, 0, none⟩)) :: (13, .slice (rowA j.2.1) j.2.2.1 j.2.2.2.1) :: (42, .slice (rowA r) ns.length cp) :: (43, natV ns.length) :: (44, natV j.1) :: Fr0)) (fun j Fr0 => (.row 3 1 j.2.1 j.2.2.1 j.2.2.2.1 j.2.2.2.2 :: .blk b12 [natV k] 3 :: .row 3 1 ro no co cs :: .blk G [.slice (rowA r) ns.length cp, .map (some m)] 70 :: .row 72 4 r ns.length cp (ns.flatMap (Nd.cells c im)) :: .obj m (mapObj (plc ns 0)) :: .blk b [.pointer (some ⟨b3, 0, none⟩), natV im] 97 :: .blk b3 c.cells 25 :: Fr0)) (fun j => ns.length - j.1) (0, none, 0, 0, []) (⟨Nat.zero_le _, rfl, rfl⟩) ⟨rfl, rfl, rfl, rfl, rfl, rfl, rfl, rfl, rfl, rfl, trivial⟩ ⟨[0, 1, 2, 3, 4, 5, 6, 7, 8, 9], by decide, rfl⟩ ?_
          rintro ⟨i, ra2, na, ca2, als⟩ ⟨hi, hna, has⟩
          simp only at hi hna has ⊢
          have hal := afterP_len (c := c) (inn := im) (ns := ns.take i) k
          have htl := List.length_take_le i ns
          refine gc_seq ?_
          refine gc_region ?_
          refine gl_op (op_rd rfl (rd_lss rfl rfl) (gk_dec (fun hlt2 => ?_) (fun hlt2 => ?_)))
          · skip
            obtain ⟨x, hx⟩ : ∃ y, ns[i]? = some y := ⟨ns[i]'(by omega), List.getElem?_eq_getElem (by omega)⟩
            have hxs2 := st_lt hgd (hgr.st x (List.mem_of_getElem? hx))
            have hsr := Nat.shiftRight_le (nextM c x.state im) k
            have hn4 : nextM c x.state im < 4096 := nextM_lt hgd
            have hpk := Nat.pow_le_pow_right (n := 2) (by decide) (show k ≤ 12 by omega)
            have hshl : 1 <<< k ≤ 4096 := by rw [Nat.one_shiftLeft]; omega
            refine gl_nil ?_
            refine gx_then ?_
            refine gc_seq ?_
            refine gc_cond_t rfl ?_
            refine gc_skip ?_
            refine gx_then ?_
            refine gc_seq ?_
            refine gc_block ?_
            refine gc_seq ?_
            refine gc_region ?_
            refine gl_op (op_rd rfl (by first | exact rd_indexRow 0 rfl Try.underlying67 ty_72 rfl rfl (by omega) (by omega) | exact rd_indexRow 2 rfl Try.underlying67 ty_72 rfl rfl (by omega) (by omega) | exact rd_indexRow 4 rfl Try.underlying67 ty_72 rfl rfl (by omega) (by omega) | exact rd_indexRow 8 rfl Try.underlying67 ty_72 rfl rfl (by omega) (by omega) | exact rd_indexRow 9 rfl Try.underlying67 ty_72 rfl rfl (by omega) (by omega) | exact rd_indexOld (by assumption) Try.underlying67 ty_72 rfl rfl (by omega) (by omega) | exact rd_index Try.underlying67 ty_72 rfl rfl (by omega) (by omega)) ?_)
            refine gl_op (op_rd rfl (rd_loadAgg Try.underlying72 rfl ty_72 rfl (by first | exact cs_row 0 rfl (flat_drop_get (Nd.cells c im) 4 (fun _ => rfl) hx) | exact cs_row 1 rfl (flat_drop_get (Nd.cells c im) 4 (fun _ => rfl) hx) | exact cs_row 2 rfl (flat_drop_get (Nd.cells c im) 4 (fun _ => rfl) hx) | exact cs_row 3 rfl (flat_drop_get (Nd.cells c im) 4 (fun _ => rfl) hx) | exact cs_row 4 rfl (flat_drop_get (Nd.cells c im) 4 (fun _ => rfl) hx) | exact cs_row 5 rfl (flat_drop_get (Nd.cells c im) 4 (fun _ => rfl) hx)) rfl) ?_)
            refine gl_op (op_alloc ty_72 rfl rfl (fun b15 => ?_))
            first | refine gl_op (op_storeAgg 0 ty_72 rfl rfl rfl rfl rfl rfl (by first | rfl | (simp only [List.set_cons_succ, List.set_cons_zero]; exact rfl)) ?_) | refine gl_op (op_storeAgg 2 ty_72 rfl rfl rfl rfl rfl rfl (by first | rfl | (simp only [List.set_cons_succ, List.set_cons_zero]; exact rfl)) ?_) | refine gl_op (op_storeAgg 4 ty_72 rfl rfl rfl rfl rfl rfl (by first | rfl | (simp only [List.set_cons_succ, List.set_cons_zero]; exact rfl)) ?_) | refine gl_op (op_storeAgg 7 ty_72 rfl rfl rfl rfl rfl rfl (by first | rfl | (simp only [List.set_cons_succ, List.set_cons_zero]; exact rfl)) ?_) | refine gl_op (op_storeAgg 8 ty_72 rfl rfl rfl rfl rfl rfl (by first | rfl | (simp only [List.set_cons_succ, List.set_cons_zero]; exact rfl)) ?_)
            refine gl_nil ?_
            refine gx_then ?_
            refine gc_seq ?_
            refine gc_region ?_
            refine gl_op (op_rd rfl (rd_fieldAddr rfl (fa_72_1 _)) ?_)
            refine gl_op (op_rd rfl (rd_load Try.underlying3 rfl rfl (by first | exact ld_blk 0 rfl rfl | exact ld_blk 2 rfl rfl | exact ld_blk 4 rfl rfl | exact ld_blk 7 rfl rfl | exact ld_blk 8 rfl rfl | exact ld_rowN 1 rfl (get_nats (by omega)) | exact ld_rowN 3 rfl (get_nats (by omega)) | exact ld_rowN 5 rfl (get_nats (by omega)) | exact ld_rowN 9 rfl (get_nats (by omega)) | exact ld_rowN 10 rfl (get_nats (by omega)) | exact ld_slN (by assumption) (get_nats (by omega)) | exact ld_rowN 1 rfl (get_ints (by omega)) | exact ld_rowN 3 rfl (get_ints (by omega)) | exact ld_rowN 5 rfl (get_ints (by omega)) | exact ld_rowN 9 rfl (get_ints (by omega)) | exact ld_rowN 10 rfl (get_ints (by omega)) | exact ld_slN (by assumption) (get_ints (by omega)) | exact ld_old (by assumption) (by simp) | exact ld_cells (by assumption) (by simp) rfl)) ?_)
            refine gl_op (op_rd rfl (rd_load Try.underlying3 rfl rfl (by first | exact ld_blk 0 rfl rfl | exact ld_blk 2 rfl rfl | exact ld_blk 4 rfl rfl | exact ld_blk 7 rfl rfl | exact ld_blk 8 rfl rfl | exact ld_rowN 1 rfl (get_nats (by omega)) | exact ld_rowN 3 rfl (get_nats (by omega)) | exact ld_rowN 5 rfl (get_nats (by omega)) | exact ld_rowN 9 rfl (get_nats (by omega)) | exact ld_rowN 10 rfl (get_nats (by omega)) | exact ld_slN (by assumption) (get_nats (by omega)) | exact ld_rowN 1 rfl (get_ints (by omega)) | exact ld_rowN 3 rfl (get_ints (by omega)) | exact ld_rowN 5 rfl (get_ints (by omega)) | exact ld_rowN 9 rfl (get_ints (by omega)) | exact ld_rowN 10 rfl (get_ints (by omega)) | exact ld_slN (by assumption) (get_ints (by omega)) | exact ld_old (by assumption) (by simp) | exact ld_cells (by assumption) (by simp) rfl)) ?_)
            refine gl_op (op_rd rfl (rd_shr rfl rfl (by omega)) ?_)
            refine gl_op (op_rd rfl (rd_and (b := 1) rfl rfl (by omega) (by omega)) ?_)
            refine gl_op (op_rd rfl (rd_eql rfl rfl) (gk_dec (fun hb => ?_) (fun hb => ?_)))
            · skip
              have hb2 : (nextM c x.state im).testBit k = true := by rw [← test_dec]; exact decide_eq_true hb
              refine gl_nil ?_
              refine gx_then ?_
              refine gc_cond_t rfl ?_
              refine gc_drawP [0, 2, 3, 4, 5, 6, 7, 8] false 8 rfl ?_
              refine ga_first 0 #[true, false, false, false, false, false, false, false, false] rfl rfl rfl rfl (by kernel_rfl) rfl ⟨[0, 2, 3, 4, 5, 6, 7, 8], by decide, rfl⟩ (qt_rd (rd_move rfl)) ?_
              refine ga_first 1 #[true, true, false, false, false, false, false, false, false] rfl rfl rfl rfl (by kernel_rfl) rfl ⟨[0, 2, 3, 4, 5, 6, 7, 8], by decide, rfl⟩ (qt_rd (rd_fieldAddr rfl (fa_72_0 _))) ?_
              refine ga_first 2 #[true, true, true, false, false, false, false, false, false] rfl rfl rfl rfl (by kernel_rfl) rfl ⟨[0, 2, 3, 4, 5, 6, 7, 8], by decide, rfl⟩ (qt_rd (rd_load Try.underlying3 rfl rfl (by first | exact ld_blk 0 rfl rfl | exact ld_blk 1 rfl rfl | exact ld_blk 3 rfl rfl | exact ld_blk 6 rfl rfl | exact ld_blk 7 rfl rfl | exact ld_rowN 2 rfl (get_nats (by omega)) | exact ld_rowN 4 rfl (get_nats (by omega)) | exact ld_slN (by assumption) (get_nats (by omega)) | exact ld_rowN 2 rfl (get_ints (by omega)) | exact ld_rowN 4 rfl (get_ints (by omega)) | exact ld_slN (by assumption) (get_ints (by omega)) | exact ld_old (by assumption) (by simp) | exact ld_cells (by assumption) (by simp) rfl))) ?_
              refine ga_first 3 #[true, true, true, true, false, false, false, false, false] rfl rfl rfl rfl (by kernel_rfl) rfl ⟨[0, 2, 3, 4, 5, 6, 7, 8], by decide, rfl⟩ (qt_rd (rd_load Try.underlying3 rfl rfl (by first | exact ld_blk 0 rfl rfl | exact ld_blk 1 rfl rfl | exact ld_blk 3 rfl rfl | exact ld_blk 6 rfl rfl | exact ld_blk 7 rfl rfl | exact ld_rowN 2 rfl (get_nats (by omega)) | exact ld_rowN 4 rfl (get_nats (by omega)) | exact ld_slN (by assumption) (get_nats (by omega)) | exact ld_rowN 2 rfl (get_ints (by omega)) | exact ld_rowN 4 rfl (get_ints (by omega)) | exact ld_slN (by assumption) (get_ints (by omega)) | exact ld_old (by assumption) (by simp) | exact ld_cells (by assumption) (by simp) rfl))) ?_
              refine ga_first 4 #[true, true, true, true, true, false, false, false, false] rfl rfl rfl rfl (by kernel_rfl) rfl ⟨[0, 2, 3, 4, 5, 6, 7, 8], by decide, rfl⟩ (qt_rd (rd_shl (a := 1) rfl rfl (by omega) (by omega))) ?_
              refine ga_first 5 #[true, true, true, true, true, true, false, false, false] rfl rfl rfl rfl (by kernel_rfl) rfl ⟨[0, 2, 3, 4, 5, 6, 7, 8], by decide, rfl⟩ (qt_rd (rd_xor rfl rfl (by omega) (by omega))) ?_
              refine ga_only 6 #[true, true, true, true, true, true, true, false, false] rfl rfl (by kernel_rfl) rfl (.inr ⟨[0, 2, 3, 4, 5, 6, 7, 8], by decide, rfl⟩) (op_buildSlice (sz := 1) rfl rfl (fun _ => bs_23_1_0 _) rfl rfl (fun b60 => ?_))
              refine ga_only 7 #[true, true, true, true, true, true, true, true, false] rfl rfl (by kernel_rfl) rfl (.inr ⟨[1, 3, 4, 5, 6, 7, 8, 9], by decide, rfl⟩) (op_appendRow 2 0 Try.underlying23 ty_3 rfl (by decide) rfl rfl rfl rfl rfl (by simp [Value.oneCell']) (by omega) (by omega) (fun _ => (by first | rfl | (simp only [List.set_cons_succ, List.set_cons_zero]; exact rfl))) (fun r61 c61 => ?_))
              refine ga_only 8 #[true, true, true, true, true, true, true, true, true] rfl rfl (by kernel_rfl) rfl (.inr ⟨[1, 3, 4, 5, 6, 7, 8, 9], by decide, rfl⟩) (op_rd rfl (rd_assign rfl) ?_)
              refine ga_end (by kernel_rfl) (.inl (by kernel_rfl)) ?_
              refine gx_block ?_
              refine gx_then ?_
              refine gc_region ?_
              refine gl_op (op_rd rfl (rd_add rfl rfl (by omega) (by omega)) ?_)
              refine gl_op (op_rd rfl (rd_move rfl) ?_)
              refine gl_nil ?_
              refine gx_then ?_
              exact gx_cut ((i + 1, r61, na + 1, c61, als ++ [natV (flip x.state k)])) ⟨⟨by simp only; omega, by simp only; rw [afterP_t hx hb2, List.length_append, hna]; rfl, by simp only; rw [afterP_t hx hb2, List.map_append, has]; rfl⟩, by simp only; omega⟩ ⟨rfl, rfl, rfl, rfl, rfl, rfl, rfl, rfl, rfl, rfl, trivial⟩ ⟨[2, 3, 4, 5, 6, 7, 8, 9, 10, 11], by decide, rfl⟩
            · skip
              have hb2 : (nextM c x.state im).testBit k = false := by rw [← test_dec]; exact decide_eq_false hb
              refine gl_nil ?_
              refine gx_then ?_
              refine gc_cond_f rfl ?_
              refine gc_skip ?_
              refine gx_block ?_
              refine gx_then ?_
              refine gc_region ?_
              refine gl_op (op_rd rfl (rd_add rfl rfl (by omega) (by omega)) ?_)
              refine gl_op (op_rd rfl (rd_move rfl) ?_)
              refine gl_nil ?_
              refine gx_then ?_
              exact gx_cut ((i + 1, ra2, na, ca2, als)) ⟨⟨by simp only; omega, by simp only; rw [afterP_f hx hb2, hna], by simp only; rw [afterP_f hx hb2, has]⟩, by simp only; omega⟩ ⟨rfl, rfl, rfl, rfl, rfl, rfl, rfl, rfl, rfl, rfl, trivial⟩ ⟨[1, 2, 3, 4, 5, 6, 7, 8, 9, 10], by decide, rfl⟩
          · skip
            refine gl_nil ?_
            refine gx_then ?_
            refine gc_seq ?_
            refine gc_cond_f rfl ?_
            refine gc_exit ?_
            refine gx_then_exit ?_
            refine gx_then_exit ?_
            refine gx_block_exit ?_
            refine gx_then ?_
            refine gc_seq ?_
            have hie : i = ns.length := by omega
            subst hie
            rw [List.take_length] at hna has
            subst hna has
            refine gc_region ?_
            refine gl_op (op_rd rfl (rd_move rfl) ?_)
            refine gl_op (op_rd rfl (rd_move rfl) ?_)
            refine gl_op (op_call rfl (vf := []) (vc := []) rfl rfl Try.call41 (fun w ho => reach_ok c ⟨b, 0, none⟩ ⟨b3, 0, none⟩ im (afterP c im ns k) (rowA ra2) ca2 w ⟨ho.blkCells 6 rfl, ho.blkCells 7 rfl, hc.at ho⟩ hgd h4 (ho.rowSl 0 rfl) (afterP_lt hgr.st hkg) (by have := afterP_len (c := c) (inn := im) (ns := ns) k; omega)) ?_)
            rintro _ _ (⟨ms, G2, m2, r2, cp2, hre3, rfl, rfl⟩ | ⟨hre3, p, rfl, rfl⟩)
            · skip
              obtain rfl : ms = ms0 := Option.some.inj (hre3.symm.trans hms)
              have hga := glitchAt_of hre3
              refine gl_op (op_rd rfl (rd_move rfl) ?_)
              refine gl_op (op_rd rfl (rd_extract rfl rfl) ?_)
              refine gl_op (op_rd rfl (rd_extract rfl rfl) ?_)
              refine gl_op (op_rd rfl (rd_assign rfl) ?_)
              refine gl_op (op_rd rfl (rd_assign rfl) ?_)
              refine gl_nil ?_
              refine gx_then ?_
              refine gc_seq ?_
              refine gc_region ?_
              refine gl_op (op_rd rfl (rd_move rfl) ?_)
              refine gl_op (op_rd rfl (rd_nilCheck rfl) ?_)
              refine gl_op (op_rd rfl (rd_fieldAddr rfl (fa_70_0 _)) ?_)
              refine gl_op (op_rd rfl (rd_load Try.underlying67 rfl rfl (by first | exact ld_blk 0 rfl rfl | exact ld_blk 4 rfl rfl | exact ld_blk 6 rfl rfl | exact ld_blk 9 rfl rfl | exact ld_blk 10 rfl rfl | exact ld_old (by assumption) (by simp) | exact ld_cells (by assumption) (by simp) rfl)) ?_)
              refine gl_op (op_rd rfl (rd_makeFunc (fs := []) rfl rfl) ?_)
              refine gl_op (op_call rfl (vf := []) (vc := []) rfl rfl Try.call42 (fun w ho => containsNodes_ok c im ms (rowA r2) cp2 43 [.pointer (some ⟨b12, 0, none⟩)] (fun x => (nextM c x.state im).testBit k) w (ho.rowSl 1 rfl) (by omega) Try.call43 (fun q hq w2 ho2 => glitches1_ok c im _ ⟨b12, 0, none⟩ k w2 hgd (ho2.cellOld (ld_blk 4 rfl rfl w ho) (by simp)) (by omega))) ?_)
              rintro _ _ ⟨rfl, rfl⟩
              refine gk_bool (fun hgl => ?_) (fun hgl => ?_)
              · skip
                have hz2 : glitchAt c im ns k = true := hga.trans hgl
                refine gl_nil ?_
                refine gx_then ?_
                refine gc_cond_t rfl ?_
                refine gc_region ?_
                refine gl_op (op_rd rfl (rd_move rfl) ?_)
                refine gl_op (op_rd rfl (rd_load Try.underlying3 rfl rfl (by first | exact ld_blk 0 rfl rfl | exact ld_blk 4 rfl rfl | exact ld_blk 6 rfl rfl | exact ld_blk 9 rfl rfl | exact ld_blk 10 rfl rfl | exact ld_rowN 1 rfl (get_nats (by omega)) | exact ld_rowN 3 rfl (get_nats (by omega)) | exact ld_rowN 5 rfl (get_nats (by omega)) | exact ld_rowN 7 rfl (get_nats (by omega)) | exact ld_rowN 11 rfl (get_nats (by omega)) | exact ld_rowN 12 rfl (get_nats (by omega)) | exact ld_slN (by assumption) (get_nats (by omega)) | exact ld_rowN 1 rfl (get_ints (by omega)) | exact ld_rowN 3 rfl (get_ints (by omega)) | exact ld_rowN 5 rfl (get_ints (by omega)) | exact ld_rowN 7 rfl (get_ints (by omega)) | exact ld_rowN 11 rfl (get_ints (by omega)) | exact ld_rowN 12 rfl (get_ints (by omega)) | exact ld_slN (by assumption) (get_ints (by omega)) | exact ld_old (by assumption) (by simp) | exact ld_cells (by assumption) (by simp) rfl)) ?_)
                refine gl_op (op_buildSlice (sz := 1) rfl rfl (fun _ => bs_23_1_0 _) rfl rfl (fun b77 => ?_))
                refine gl_op (op_appendRow 6 0 Try.underlying23 ty_3 rfl (by decide) rfl rfl rfl rfl rfl (by simp [Value.oneCell']) (by omega) (by omega) (fun _ => (by first | rfl | (simp only [List.set_cons_succ, List.set_cons_zero]; exact rfl))) (fun r78 c78 => ?_))
                refine gl_op (op_rd rfl (rd_assign rfl) ?_)
                refine gl_nil ?_
                refine gx_block ?_
                refine gx_then ?_
                refine gc_region ?_
                refine gl_op (op_rd rfl (rd_add rfl rfl (by omega) (by omega)) ?_)
                refine gl_op (op_rd rfl (rd_move rfl) ?_)
                refine gl_nil ?_
                refine gx_then ?_
                exact gx_cut ((k + 1, r78, no + 1, c78, cs ++ [natV k])) ⟨⟨by simp only; omega, by simp only; rw [filter_range_t _ hz2, List.length_append, hn]; rfl, by simp only; rw [filter_range_t _ hz2, List.map_append, hcs]; rfl⟩, by simp only; omega⟩ ⟨rfl, rfl, rfl, rfl, rfl, trivial⟩ ⟨[6, 7, 8, 9, 10, 11, 12, 13], by decide, rfl⟩
              · skip
                have hz2 : glitchAt c im ns k = false := hga.trans hgl
                refine gl_nil ?_
                refine gx_then ?_
                refine gc_cond_f rfl ?_
                refine gc_skip ?_
                refine gx_block ?_
                refine gx_then ?_
                refine gc_region ?_
                refine gl_op (op_rd rfl (rd_add rfl rfl (by omega) (by omega)) ?_)
                refine gl_op (op_rd rfl (rd_move rfl) ?_)
                refine gl_nil ?_
                refine gx_then ?_
                exact gx_cut ((k + 1, ro, no, co, cs)) ⟨⟨by simp only; omega, by simp only; rw [filter_range_f _ hz2, hn], by simp only; rw [filter_range_f _ hz2, hcs]⟩, by simp only; omega⟩ ⟨rfl, rfl, rfl, rfl, rfl, trivial⟩ ⟨[5, 6, 7, 8, 9, 10, 11, 12], by decide, rfl⟩
            · skip
              exact absurd (hre3.symm.trans hms) (by simp)
        · skip
          refine gl_nil ?_
          refine gx_then ?_
          refine gc_seq ?_
          refine gc_cond_f rfl ?_
          refine gc_exit ?_
          refine gx_then_exit ?_
          refine gx_then_exit ?_
          refine gx_block_exit ?_
          refine gx_then ?_
          refine gc_seq ?_
          refine gc_region ?_
          refine gl_op (op_rd rfl (rd_move rfl) ?_)
          refine gl_op (op_rd rfl (rd_assign rfl) ?_)
          refine gl_op (op_rd rfl (rd_assign rfl) ?_)
          refine gl_nil ?_
          refine gx_then ?_
          refine gc_ret ?_
          refine gx_ret2 (.inl rfl) Try.results14 rfl rfl [0] (by decide) ?_
          have hke : k = c.gates.length := by omega
          subst hke
          rw [glitchesR_ok hr hre (by simpa using hk2)]
          simp only [Int.toNat_natCast]
          exact ⟨ro, co, by rw [hn]; rfl, by rw [hn, hcs]; rfl⟩
  · skip
    refine gl_op (op_rd rfl (rd_move rfl) ?_)
    refine gl_op (op_rd rfl (rd_extract rfl rfl) ?_)
    refine gl_op (op_rd rfl (rd_extract rfl rfl) ?_)
    refine gl_op (op_rd rfl (rd_extract rfl rfl) ?_)
    refine gl_op (op_rd rfl (rd_assign rfl) ?_)
    refine gl_op (op_rd rfl (rd_assign rfl) ?_)
    refine gl_op (op_rd rfl (rd_assign rfl) ?_)
    refine gl_nil ?_
    refine gx_then ?_
    refine gc_seq ?_
    refine gc_seq ?_
    refine gc_region ?_
    refine gl_op (op_rd rfl (rd_move rfl) ?_)
    refine gl_op (op_rd rfl (rd_neq rfl rfl) (gk_dec (fun he => ?_) (fun he => ?_)))
    · skip
      refine gl_nil ?_
      refine gx_then ?_
      refine gc_cond_t rfl ?_
      refine gc_seq ?_
      refine gk_nil 3 1 ?_
      refine gc_region ?_
      refine gl_op (op_rd rfl (rd_move rfl) ?_)
      refine gl_op (op_rd rfl (rd_assign rfl) ?_)
      refine gl_op (op_rd rfl (rd_assign rfl) ?_)
      refine gl_nil ?_
      refine gx_then ?_
      refine gc_ret ?_
      refine gx_then_ret ?_
      refine gx_ret2 (.inl rfl) Try.results14 rfl rfl [0] (by decide) ?_
      rw [glitchesR_full hr hre]
      exact ⟨none, 0, rfl, rfl⟩
    · skip
      exact absurd he (by simp)
  · skip
    refine gl_op (op_rd rfl (rd_move rfl) ?_)
    refine gl_op (op_rd rfl (rd_extract rfl rfl) ?_)
    refine gl_op (op_rd rfl (rd_extract rfl rfl) ?_)
    refine gl_op (op_rd rfl (rd_extract rfl rfl) ?_)
    refine gl_op (op_rd rfl (rd_assign rfl) ?_)
    refine gl_op (op_rd rfl (rd_assign rfl) ?_)
    refine gl_op (op_rd rfl (rd_assign rfl) ?_)
    refine gl_nil ?_
    refine gx_then ?_
    refine gc_seq ?_
    refine gc_seq ?_
    refine gc_region ?_
    refine gl_op (op_rd rfl (rd_move rfl) ?_)
    refine gl_op (op_rd rfl (rd_neq rfl rfl) (gk_dec (fun he => ?_) (fun he => ?_)))
    · skip
      refine gl_nil ?_
      refine gx_then ?_
      refine gc_cond_t rfl ?_
      refine gc_seq ?_
      refine gk_nil 3 1 ?_
      refine gc_region ?_
      refine gl_op (op_rd rfl (rd_move rfl) ?_)
      refine gl_op (op_rd rfl (rd_assign rfl) ?_)
      refine gl_op (op_rd rfl (rd_assign rfl) ?_)
      refine gl_nil ?_
      refine gx_then ?_
      refine gc_ret ?_
      refine gx_then_ret ?_
      refine gx_ret2 (.inl rfl) Try.results14 rfl rfl [0] (by decide) ?_
      rw [glitchesR_bad hr]
      exact ⟨none, 0, rfl, rfl⟩
    · skip
      exact absurd he (by simpa using hr)

end Go.Proofs.Yteocjpnckciboaa

set_option autoImplicit false
set_option linter.unusedVariables false
namespace Go.Proofs.Yteocjpnckciboaa
open Go.Gv
open Go.RowKit
open Ry
theorem sameNats_ok (xs ys : List Nat) (a b : Option Addr) (cp cq : Nat) (w0 : World) (hxs : OldSl w0 [] a xs.length 1 (xs.map natV)) (hys : OldSl w0 [] b ys.length 1 (ys.map natV)) (hb : xs.length ≤ 140737488355328) : Sp Try.prog 25 [.slice a xs.length cp, .slice b ys.length cq] w0 [] (RV (.bool (decide (xs = ys)))) := by
  have h := sameInts_ok (xs.map fun n : Nat => (n : Int)) (ys.map fun n : Nat => (n : Int)) a b cp cq w0 (by rw [natInt, List.length_map]; exact hxs) (by rw [natInt, List.length_map]; exact hys) (by rw [List.length_map]; exact hb)
  rw [List.length_map, List.length_map, decide_eq_decide.2 (natInt_eq xs ys)] at h
  exact h

set_option maxRecDepth 100000 in
set_option maxHeartbeats 1000000 in
theorem sameRace_ok (x y : Rc) (a1 b1 a2 b2 : Option Addr) (c1 d1 c2 d2 : Nat) (w0 : World) (h1 : OldSl w0 [] a1 x.a.length 1 (x.a.map natV)) (h2 : OldSl w0 [] b1 x.b.length 1 (x.b.map natV)) (h3 : OldSl w0 [] a2 y.a.length 1 (y.a.map natV)) (h4 : OldSl w0 [] b2 y.b.length 1 (y.b.map natV)) (hl1 : x.a.length ≤ 140737488355328) (hl2 : x.b.length ≤ 140737488355328) : Sp Try.prog 28 [.agg #[natV x.kind, .slice a1 x.a.length c1, .slice b1 x.b.length d1], .agg #[natV y.kind, .slice a2 y.a.length c2, .slice b2 y.b.length d2]] w0 [] (RV (.bool (rcEq x y))) := by
  refine spec_enter Try.func28 rfl Try.ntmps28 rfl (Own.refl _) ?_
  simp only [argEnv]
  refine gc_seq ?_
  refine gc_region ?_
  refine gl_op (op_box rfl rfl rfl (fun q2 => ?_))
  refine gl_op (op_box rfl rfl rfl (fun q3 => ?_))
  refine gl_op (op_rd rfl (rd_assign rfl) ?_)
  refine gl_nil ?_
  refine gx_then ?_
  refine gc_seq ?_
  refine gc_region ?_
  refine gl_op (op_rd rfl (rd_fieldAddr rfl (fa_40_0 _)) ?_)
  refine gl_op (op_rd rfl (rd_load Try.underlying3 rfl rfl (by first | exact ld_blk 0 rfl rfl | exact ld_blk 1 rfl rfl | exact ld_old (by assumption) (by simp))) ?_)
  refine gl_op (op_rd rfl (rd_fieldAddr rfl (fa_40_0 _)) ?_)
  refine gl_op (op_rd rfl (rd_load Try.underlying3 rfl rfl (by first | exact ld_blk 0 rfl rfl | exact ld_blk 1 rfl rfl | exact ld_old (by assumption) (by simp))) ?_)
  refine gl_op (op_rd rfl (rd_eql rfl rfl) (gk_dec (fun hk => ?_) (fun hk => ?_)))
  · skip
    have hk2 : x.kind = y.kind := by omega
    refine gl_op (op_rd rfl (rd_move rfl) ?_)
    refine gl_yes rfl rfl (op_rd rfl (rd_fieldAddr rfl (fa_40_1 _)) ?_)
    refine gl_yes rfl rfl (op_rd rfl (rd_load Try.underlying23 rfl rfl (by first | exact ld_blk 0 rfl rfl | exact ld_blk 1 rfl rfl | exact ld_old (by assumption) (by simp))) ?_)
    refine gl_yes rfl rfl (op_rd rfl (rd_fieldAddr rfl (fa_40_1 _)) ?_)
    refine gl_yes rfl rfl (op_rd rfl (rd_load Try.underlying23 rfl rfl (by first | exact ld_blk 0 rfl rfl | exact ld_blk 1 rfl rfl | exact ld_old (by assumption) (by simp))) ?_)
    refine gl_yes rfl rfl (op_call rfl (vf := []) (vc := []) rfl rfl Try.call25 (fun w ho => sameNats_ok x.a y.a a1 a2 c1 c2 w (h1.at ho) (h3.at ho) hl1) ?_)
    rintro _ _ ⟨rfl, rfl⟩
    refine gk_bool (fun ha => ?_) (fun ha => ?_)
    · skip
      refine gl_op (op_rd rfl (rd_pick_t rfl rfl) ?_)
      refine gl_op (op_rd rfl (rd_move rfl) ?_)
      refine gl_yes rfl rfl (op_rd rfl (rd_fieldAddr rfl (fa_40_2 _)) ?_)
      refine gl_yes rfl rfl (op_rd rfl (rd_load Try.underlying23 rfl rfl (by first | exact ld_blk 0 rfl rfl | exact ld_blk 1 rfl rfl | exact ld_old (by assumption) (by simp))) ?_)
      refine gl_yes rfl rfl (op_rd rfl (rd_fieldAddr rfl (fa_40_2 _)) ?_)
      refine gl_yes rfl rfl (op_rd rfl (rd_load Try.underlying23 rfl rfl (by first | exact ld_blk 0 rfl rfl | exact ld_blk 1 rfl rfl | exact ld_old (by assumption) (by simp))) ?_)
      refine gl_yes rfl rfl (op_call rfl (vf := []) (vc := []) rfl rfl Try.call25 (fun w ho => sameNats_ok x.b y.b b1 b2 d1 d2 w (h2.at ho) (h4.at ho) hl2) ?_)
      rintro _ _ ⟨rfl, rfl⟩
      refine gk_bool (fun hb => ?_) (fun hb => ?_)
      · skip
        refine gl_op (op_rd rfl (rd_pick_t rfl rfl) ?_)
        refine gl_op (op_rd rfl (rd_assign rfl) ?_)
        refine gl_nil ?_
        refine gx_then ?_
        refine gc_ret ?_
        refine gx_ret1 (.inl rfl) Try.results28 rfl [] (by decide) ?_
        refine ⟨congrArg Value.bool ?_, rfl⟩
        unfold rcEq
        simp [*]
      · skip
        refine gl_op (op_rd rfl (rd_pick_t rfl rfl) ?_)
        refine gl_op (op_rd rfl (rd_assign rfl) ?_)
        refine gl_nil ?_
        refine gx_then ?_
        refine gc_ret ?_
        refine gx_ret1 (.inl rfl) Try.results28 rfl [] (by decide) ?_
        refine ⟨congrArg Value.bool ?_, rfl⟩
        unfold rcEq
        simp [*]
    · skip
      refine gl_op (op_rd rfl (rd_pick_t rfl rfl) ?_)
      refine gl_op (op_rd rfl (rd_move rfl) ?_)
      refine gl_no rfl rfl rfl ?_
      refine gl_no rfl rfl rfl ?_
      refine gl_no rfl rfl rfl ?_
      refine gl_no rfl rfl rfl ?_
      refine gl_no rfl rfl rfl ?_
      refine gl_op (op_rd rfl (rd_pick_f rfl rfl) ?_)
      refine gl_op (op_rd rfl (rd_assign rfl) ?_)
      refine gl_nil ?_
      refine gx_then ?_
      refine gc_ret ?_
      refine gx_ret1 (.inl rfl) Try.results28 rfl [] (by decide) ?_
      refine ⟨congrArg Value.bool ?_, rfl⟩
      unfold rcEq
      simp [*]
  · skip
    have hk2 : ¬ x.kind = y.kind := by omega
    refine gl_op (op_rd rfl (rd_move rfl) ?_)
    refine gl_no rfl rfl rfl ?_
    refine gl_no rfl rfl rfl ?_
    refine gl_no rfl rfl rfl ?_
    refine gl_no rfl rfl rfl ?_
    refine gl_no rfl rfl rfl ?_
    refine gl_op (op_rd rfl (rd_pick_f rfl rfl) ?_)
    refine gl_op (op_rd rfl (rd_move rfl) ?_)
    refine gl_no rfl rfl rfl ?_
    refine gl_no rfl rfl rfl ?_
    refine gl_no rfl rfl rfl ?_
    refine gl_no rfl rfl rfl ?_
    refine gl_no rfl rfl rfl ?_
    refine gl_op (op_rd rfl (rd_pick_f rfl rfl) ?_)
    refine gl_op (op_rd rfl (rd_assign rfl) ?_)
    refine gl_nil ?_
    refine gx_then ?_
    refine gc_ret ?_
    refine gx_ret1 (.inl rfl) Try.results28 rfl [] (by decide) ?_
    refine ⟨congrArg Value.bool ?_, rfl⟩
    unfold rcEq
    simp [*]

set_option maxRecDepth 100000 in
set_option maxHeartbeats 1000000 in
theorem Latch_ok (w0 : World) : Sp Try.prog 27 [] w0 [] (fun v l => ∃ b1 b3 b5 b6, v = (latch b1 b3 b5 b6).val ∧ l = latchL b1 b3 b5 b6) := by
  refine spec_enter Try.func27 rfl Try.ntmps27 rfl (Own.refl _) ?_
  simp only [argEnv]
  refine gc_seq ?_
  refine gc_region ?_
  refine gl_op (op_alloc ty_25 rfl rfl (fun b0 => ?_))
  refine gl_nil ?_
  refine gx_then ?_
  refine gc_seq ?_
  refine gc_region ?_
  refine gl_op (op_buildSlice (sz := 1) rfl rfl (fun _ => bs_23_2_0_1 _ _) rfl rfl (fun b1 => ?_))
  refine gl_op (op_rd rfl (rd_build rfl (fun _ => bd_48_0_1 _ _ _ _)) ?_)
  refine gl_op (op_buildSlice (sz := 1) rfl rfl (fun _ => bs_23_2_0_1 _ _) rfl rfl (fun b3 => ?_))
  refine gl_op (op_rd rfl (rd_build rfl (fun _ => bd_48_0_1 _ _ _ _)) ?_)
  refine gl_op (op_buildSlice (sz := 2) rfl rfl (fun _ => bs_22_2_0_1 _ _ _ _ _ _ _ _) rfl rfl (fun b5 => ?_))
  refine gl_op (op_buildSlice (sz := 1) rfl rfl (fun _ => bs_23_2_0_1 _ _) rfl rfl (fun b6 => ?_))
  refine gl_op (op_rd rfl (rd_build rfl (fun _ => bd_25_0_1_2 _ _ _ _ _ _ _)) ?_)
  refine gl_op (op_storeAgg 4 ty_25 rfl rfl rfl rfl rfl rfl (by first | rfl | (simp only [List.set_cons_succ, List.set_cons_zero]; exact rfl)) ?_)
  refine gl_nil ?_
  refine gx_then ?_
  refine gc_ret ?_
  refine gx_retV1 (.inl rfl) Try.results27 (rv_agg Try.underlying25 rfl ty_25 rfl (by rfl) (cs_blk 4 (off := 0) (k := 3) rfl rfl)) [0, 1, 2, 3] (by decide) ?_
  exact ⟨b1, b3, b5, b6, rfl, rfl⟩

set_option maxRecDepth 100000 in
set_option maxHeartbeats 1000000 in
theorem Chooser_ok (w0 : World) : Sp Try.prog 29 [] w0 [] (fun v l => ∃ b1 b3 b5 b7 b9 b10, v = (chooser b1 b3 b5 b7 b9 b10).val ∧ l = chooserL b1 b3 b5 b7 b9 b10) := by
  refine spec_enter Try.func29 rfl Try.ntmps29 rfl (Own.refl _) ?_
  simp only [argEnv]
  refine gc_seq ?_
  refine gc_region ?_
  refine gl_op (op_alloc ty_25 rfl rfl (fun b0 => ?_))
  refine gl_nil ?_
  refine gx_then ?_
  refine gc_seq ?_
  refine gc_region ?_
  refine gl_op (op_buildSlice (sz := 1) rfl rfl (fun _ => bs_23_1_0 _) rfl rfl (fun b1 => ?_))
  refine gl_op (op_rd rfl (rd_build rfl (fun _ => bd_48_0_1 _ _ _ _)) ?_)
  refine gl_op (op_buildSlice (sz := 1) rfl rfl (fun _ => bs_23_2_0_1 _ _) rfl rfl (fun b3 => ?_))
  refine gl_op (op_rd rfl (rd_build rfl (fun _ => bd_48_0_1 _ _ _ _)) ?_)
  refine gl_op (op_buildSlice (sz := 1) rfl rfl (fun _ => bs_23_2_0_1 _ _) rfl rfl (fun b5 => ?_))
  refine gl_op (op_rd rfl (rd_build rfl (fun _ => bd_48_0_1 _ _ _ _)) ?_)
  refine gl_op (op_buildSlice (sz := 1) rfl rfl (fun _ => bs_23_2_0_1 _ _) rfl rfl (fun b7 => ?_))
  refine gl_op (op_rd rfl (rd_build rfl (fun _ => bd_48_0_1 _ _ _ _)) ?_)
  refine gl_op (op_buildSlice (sz := 2) rfl rfl (fun _ => bs_22_4_0_1_2_3 _ _ _ _ _ _ _ _ _ _ _ _ _ _ _ _) rfl rfl (fun b9 => ?_))
  refine gl_op (op_buildSlice (sz := 1) rfl rfl (fun _ => bs_23_1_0 _) rfl rfl (fun b10 => ?_))
  refine gl_op (op_rd rfl (rd_build rfl (fun _ => bd_25_0_1_2 _ _ _ _ _ _ _)) ?_)
  refine gl_op (op_storeAgg 6 ty_25 rfl rfl rfl rfl rfl rfl (by first | rfl | (simp only [List.set_cons_succ, List.set_cons_zero]; exact rfl)) ?_)
  refine gl_nil ?_
  refine gx_then ?_
  refine gc_ret ?_
  refine gx_retV1 (.inl rfl) Try.results29 (rv_agg Try.underlying25 rfl ty_25 rfl (by rfl) (cs_blk 6 (off := 0) (k := 3) rfl rfl)) [0, 1, 2, 3, 4, 5] (by decide) ?_
  exact ⟨b1, b3, b5, b7, b9, b10, rfl, rfl⟩

set_option maxRecDepth 100000 in
set_option maxHeartbeats 1000000 in
theorem awake_ok (w0 : World) (hF : ∀ (c : Circ) (im : Nat), im < 2 ^ c.inputs.toNat → c.Good → Facts c im) : Sp Try.prog 12 [] w0 [] (RV (.bool true)) := by
  refine spec_enter Try.func12 rfl Try.ntmps12 rfl (Own.refl _) ?_
  simp only [argEnv]
  refine gc_seq ?_
  refine gc_region ?_
  refine gl_op (op_rd rfl (rd_assign rfl) ?_)
  refine gl_nil ?_
  refine gx_then ?_
  refine gc_seq ?_
  refine gc_region ?_
  refine gl_op (op_call rfl (vf := []) (vc := []) rfl rfl Try.call27 (fun w ho => Latch_ok w) ?_)
  rintro _ _ ⟨b1, b3, b5, b6, rfl, rfl⟩
  unfold latchL
  refine gl_op (op_call rfl (vf := []) (vc := []) rfl rfl Try.call17 (fun w ho => Race_ok (latch b1 b3 b5 b6) 0 0 w (latch_in ho [0, 1, 2, 3] (by decide) rfl) (by decide) (by decide) (hF _)) ?_)
  rintro _ _ ⟨ra, ca, rb, cb, rfl, rfl⟩
  rw [latch_race]
  refine gl_op (op_rd rfl (rd_move rfl) ?_)
  refine gl_op (op_rd rfl (rd_extract rfl rfl) ?_)
  refine gl_op (op_rd rfl (rd_extract rfl rfl) ?_)
  refine gl_op (op_alloc ty_40 rfl rfl (fun b1 => ?_))
  refine gl_op (op_storeAgg 0 ty_40 rfl rfl rfl rfl rfl rfl (by first | rfl | (simp only [List.set_cons_succ, List.set_cons_zero]; exact rfl)) ?_)
  refine gl_op (op_rd rfl (rd_assign rfl) ?_)
  refine gl_nil ?_
  refine gx_then ?_
  refine gc_seq ?_
  refine gc_region ?_
  refine gl_op (op_call rfl (vf := []) (vc := []) rfl rfl Try.call27 (fun w ho => Latch_ok w) ?_)
  rintro _ _ ⟨b1, b3, b5, b6, rfl, rfl⟩
  unfold latchL
  refine gl_op (op_call rfl (vf := []) (vc := []) rfl rfl Try.call11 (fun w ho => Settle_ok (latch b1 b3 b5 b6) 0 2 w (latch_in ho [0, 1, 2, 3] (by decide) rfl) (by decide) (by decide) (hF _)) ?_)
  rintro _ _ ⟨rfl, rfl⟩
  rw [latch_settle]
  refine gl_op (op_rd rfl (rd_move rfl) ?_)
  refine gl_op (op_rd rfl (rd_extract rfl rfl) ?_)
  refine gl_op (op_rd rfl (rd_extract rfl rfl) ?_)
  refine gl_op (op_rd rfl (rd_assign rfl) ?_)
  refine gl_op (op_rd rfl (rd_assign rfl) ?_)
  refine gl_nil ?_
  refine gx_then ?_
  refine gc_seq ?_
  refine gc_region ?_
  refine gl_op (op_call rfl (vf := []) (vc := []) rfl rfl Try.call29 (fun w ho => Chooser_ok w) ?_)
  rintro _ _ ⟨b1, b3, b5, b7, b9, b10, rfl, rfl⟩
  unfold chooserL
  refine gl_op (op_call rfl (vf := []) (vc := []) rfl rfl Try.call14 (fun w ho => Glitches_ok (chooser b1 b3 b5 b7 b9 b10) 12 6 w (chooser_in ho [0, 1, 2, 3, 4, 5] (by decide) rfl) (by decide) (by decide) (hF _)) ?_)
  rintro _ _ ⟨rg, cg, rfl, rfl⟩
  rw [chooser_glitches]
  refine gl_op (op_rd rfl (rd_move rfl) ?_)
  refine gl_op (op_rd rfl (rd_extract rfl rfl) ?_)
  refine gl_op (op_rd rfl (rd_extract rfl rfl) ?_)
  refine gl_op (op_rd rfl (rd_assign rfl) ?_)
  refine gl_op (op_rd rfl (rd_assign rfl) ?_)
  refine gl_nil ?_
  refine gx_then ?_
  refine gc_seq ?_
  refine gc_region ?_
  refine gl_op (op_rd rfl (rd_move rfl) ?_)
  refine gl_op (op_rd rfl (rd_eql rfl rfl) (gk_dec (fun h1 => ?_) (fun h1 => ?_)))
  · skip
    refine gl_op (op_rd rfl (rd_move rfl) ?_)
    refine gl_yes rfl rfl (op_rd rfl (rd_move rfl) ?_)
    refine gl_yes rfl rfl (op_rd rfl (rd_eql rfl rfl) (gk_dec (fun h2 => ?_) (fun h2 => ?_)))
    · skip
      refine gl_op (op_rd rfl (rd_pick_t rfl rfl) ?_)
      refine gl_op (op_rd rfl (rd_move rfl) ?_)
      refine gl_yes rfl rfl (op_rd rfl (rd_move rfl) ?_)
      refine gl_yes rfl rfl (op_rd rfl (rd_eql rfl rfl) (gk_dec (fun h3 => ?_) (fun h3 => ?_)))
      · skip
        refine gl_op (op_rd rfl (rd_pick_t rfl rfl) ?_)
        refine gl_op (op_rd rfl (rd_move rfl) ?_)
        refine gl_yes rfl rfl (op_rd rfl (rd_loadAgg Try.underlying40 rfl ty_40 rfl (by first | exact cs_blk 1 (off := 0) (k := 3) rfl rfl | exact cs_blk 2 (off := 0) (k := 3) rfl rfl | exact cs_blk 3 (off := 0) (k := 3) rfl rfl | exact cs_blk 4 (off := 0) (k := 3) rfl rfl | exact cs_blk 5 (off := 0) (k := 3) rfl rfl | exact cs_blk 6 (off := 0) (k := 3) rfl rfl | exact cs_blk 11 (off := 0) (k := 3) rfl rfl | exact cs_old (by assumption) (by simp)) rfl) ?_)
        refine gl_yes rfl rfl (op_buildSlice (sz := 1) rfl rfl (fun _ => bs_23_1_0 _) rfl rfl (fun b34 => ?_))
        refine gl_yes rfl rfl (op_buildSlice (sz := 1) rfl rfl (fun _ => bs_23_1_0 _) rfl rfl (fun b35 => ?_))
        refine gl_yes rfl rfl (op_rd rfl (rd_build rfl (fun _ => bd_40_0_1_2 _ _ _ _ _ _ _)) ?_)
        refine gl_yes rfl rfl (op_call rfl (vf := []) (vc := []) rfl rfl Try.call28 (fun w ho => sameRace_ok ⟨1, [0], [1]⟩ ⟨1, [0], [1]⟩ (rowA ra) (rowA rb) (some ⟨b34, 0, none⟩) (some ⟨b35, 0, none⟩) ca cb 1 1 w (ho.rowSl 14 rfl) (ho.rowSl 15 rfl) (ho.rowSl 1 (r := some b34) rfl) (ho.rowSl 0 (r := some b35) rfl) (by decide) (by decide)) ?_)
        rintro _ _ ⟨rfl, rfl⟩
        refine gl_op (op_rd rfl (rd_pick_t rfl rfl) ?_)
        refine gl_op (op_rd rfl (rd_move rfl) ?_)
        refine gl_yes rfl rfl (op_rd rfl (rd_move rfl) ?_)
        refine gl_yes rfl rfl (op_rd rfl (rd_eql rfl rfl) (gk_dec (fun h4 => ?_) (fun h4 => ?_)))
        · skip
          refine gl_op (op_rd rfl (rd_pick_t rfl rfl) ?_)
          refine gl_op (op_rd rfl (rd_move rfl) ?_)
          refine gl_yes rfl rfl (op_rd rfl (rd_move rfl) ?_)
          refine gl_yes rfl rfl (op_buildSlice (sz := 1) rfl rfl (fun _ => bs_23_1_0 _) rfl rfl (fun b45 => ?_))
          refine gl_yes rfl rfl (op_call rfl (vf := []) (vc := []) rfl rfl Try.call25 (fun w ho => sameNats_ok [3] [3] (rowA rg) (some ⟨b45, 0, none⟩) cg 1 w (ho.rowSl 3 rfl) (ho.rowSl 0 (r := some b45) rfl) (by decide)) ?_)
          rintro _ _ ⟨rfl, rfl⟩
          refine gl_op (op_rd rfl (rd_pick_t rfl rfl) ?_)
          refine gl_op (op_rd rfl (rd_assign rfl) ?_)
          refine gl_nil ?_
          refine gx_then ?_
          refine gc_ret ?_
          refine gx_ret1 (.inl rfl) Try.results12 rfl [] (by decide) ?_
          exact ⟨rfl, rfl⟩
        · skip
          exact absurd rfl h4
      · skip
        exact absurd rfl h3
    · skip
      exact absurd rfl h2
  · skip
    exact absurd rfl h1

end Go.Proofs.Yteocjpnckciboaa
