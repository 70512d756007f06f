import Derived.Test.YthcbcdjkfefnlaaSa
import Derived.Test.YthcbcdjkfefnlaaGw
/- The walks of entries, of scan, Open, room and pack. -/
set_option linter.unusedSimpArgs false
set_option linter.unusedVariables false
set_option linter.unnecessarySimpa false
set_option autoImplicit false
set_option linter.unusedVariables false
namespace Go.Proofs.Ythcbcdjkfefnlaa
open Go.Gv
open Go.RowKit
open Iv
namespace Iv
section
variable {P : Program} {n : Nat} {e : Env} {w0 : World} {S : List Nat} {l : List HL} {dst : Option Tmp} {ty : TypeId} {pos : String} {aft : Array Edge} {gd : Option (Nat × Bool)} {x y : Operand} {t : TypeId}
theorem rd_indexStr {s : ByteArray} {i : Nat} {b : UInt8} {k : IntKind} (hu : P.underlying t = some .string) (hx : e.ev x = some (.string s)) (hy : e.ev y = some (.int k (i : Int))) (hb : s[i]? = some b) : Rd P n e w0 S l ⟨dst, .index t x y, ty, pos, aft, gd⟩ (.int .u8 (b.toNat : Int)) :=
  fun a w hs ho => by
    simp [execOp, hs.ev hx, hs.ev hy, Instr.index, asIntOf, run_underlying hu, hb]
end
def pop8 : ByteArray := ⟨(([0, 1, 1, 2, 1, 2, 2, 3, 1, 2, 2, 3, 2, 3, 3, 4, 1, 2, 2, 3, 2, 3, 3, 4, 2, 3, 3, 4, 3, 4, 4, 5, 1, 2, 2, 3, 2, 3, 3, 4, 2, 3, 3, 4, 3, 4, 4, 5, 2, 3, 3, 4, 3, 4, 4, 5, 3, 4, 4, 5, 4, 5, 5, 6] ++ [1, 2, 2, 3, 2, 3, 3, 4, 2, 3, 3, 4, 3, 4, 4, 5, 2, 3, 3, 4, 3, 4, 4, 5, 3, 4, 4, 5, 4, 5, 5, 6, 2, 3, 3, 4, 3, 4, 4, 5, 3, 4, 4, 5, 4, 5, 5, 6, 3, 4, 4, 5, 4, 5, 5, 6, 4, 5, 5, 6, 5, 6, 6, 7]) ++ ([1, 2, 2, 3, 2, 3, 3, 4, 2, 3, 3, 4, 3, 4, 4, 5, 2, 3, 3, 4, 3, 4, 4, 5, 3, 4, 4, 5, 4, 5, 5, 6, 2, 3, 3, 4, 3, 4, 4, 5, 3, 4, 4, 5, 4, 5, 5, 6, 3, 4, 4, 5, 4, 5, 5, 6, 4, 5, 5, 6, 5, 6, 6, 7] ++ [2, 3, 3, 4, 3, 4, 4, 5, 3, 4, 4, 5, 4, 5, 5, 6, 3, 4, 4, 5, 4, 5, 5, 6, 4, 5, 5, 6, 5, 6, 6, 7, 3, 4, 4, 5, 4, 5, 5, 6, 4, 5, 5, 6, 5, 6, 6, 7, 4, 5, 5, 6, 5, 6, 6, 7, 5, 6, 6, 7, 6, 7, 7, 8]) : List UInt8).toArray⟩
def pc8 (z : Nat) : Nat := z % 2 + z / 2 % 2 + z / 4 % 2 + z / 8 % 2 + z / 16 % 2 + z / 32 % 2 + z / 64 % 2 + z / 128 % 2
theorem pop8_at : ∀ z : Fin 256, pop8[z.val]? = some (UInt8.ofNat (pc8 z.val)) := by decide +kernel
theorem pc8_le (z : Nat) : pc8 z ≤ 8 := by unfold pc8; omega
theorem pop8_toNat (z : Nat) : (UInt8.ofNat (pc8 z)).toNat = pc8 z := by
  have := pc8_le z
  simp; omega
def zerosP : List Nat → Nat
  | [] => 0
  | z :: zs => (8 - pc8 z) + zerosP zs
theorem zeros_le : ∀ zs : List Nat, zerosP zs ≤ 8 * zs.length
  | [] => Nat.le_refl _
  | z :: zs => by have := zeros_le zs; simp only [zerosP, List.length_cons]; omega
theorem zeros_app : ∀ xs ys : List Nat, zerosP (xs ++ ys) = zerosP xs + zerosP ys
  | [], ys => by simp [zerosP]
  | x :: xs, ys => by rw [List.cons_append, zerosP, zeros_app xs ys, zerosP]; omega
theorem zeros_take {zs : List Nat} {k z : Nat} (h : zs[k]? = some z) : zerosP (zs.take (k + 1)) = zerosP (zs.take k) + (8 - pc8 z) := by
  rw [take_at h, zeros_app]; simp [zerosP]
theorem slPart {w : World} {S : List Nat} {g m : Nat} {cells : List Value} (h : OldSl w S (some ⟨g, 0, none⟩) m 1 cells) (off n : Nat) (hn : off + n ≤ m) : OldSl w S (some ⟨g, off, none⟩) n 1 ((cells.drop off).take n) := by
  have hl := h.len
  refine ⟨by simp; omega, fun _ => rfl, fun j v hv => ?_, fun h0 => h.out (by omega)⟩
  rw [List.getElem?_take] at hv
  split at hv
  · rw [List.getElem?_drop] at hv
    have := h.cells (off + j) v hv
    simp only [adr, Option.getD_some] at this ⊢
    rw [Addr.add_lit] at this ⊢
    rw [Nat.zero_add] at this
    exact this
  · cases hv
theorem part_u8 (b : List Nat) (o n : Nat) : ((b.map u8V).drop o).take n = ((b.drop o).take n).map u8V := by simp
def flNew (zs : List Nat) : Fl := ⟨zs, -1, [], false, 0, 0, 0⟩
def goodLen (n : Nat) : Prop := n % 256 = 0 ∧ 1024 ≤ n ∧ n ≤ 16384
end Iv

set_option maxRecDepth 100000 in
set_option maxHeartbeats 1000000 in
theorem Ones_ok (z : Nat) (hz : z < 256) (w0 : World) : Sp Try.prog 73 [u8V z] w0 [] (RV (natV (pc8 z))) := by
  refine spec_enter Try.func73 rfl Try.ntmps73 rfl (Own.refl _) ?_
  simp only [argEnv]
  refine gc_seq ?_
  refine gc_region ?_
  refine gl_op (op_rd rfl (rd_assign rfl) ?_)
  refine gl_nil ?_
  refine gx_then ?_
  refine gc_seq ?_
  refine gc_region ?_
  refine gl_op (op_rd rfl (rd_move rfl) ?_)
  refine gl_op (op_rd rfl (rd_indexStr (s := pop8) (i := z) Try.underlying9 rfl rfl (show pop8[z]? = some (UInt8.ofNat (pc8 z)) from pop8_at ⟨z, hz⟩)) ?_)
  refine gl_op (op_rd rfl (rd_conv Try.runUnderlying5 Try.runUnderlying3 rfl (wrap64_ok (by omega) (by have := pc8_le z; rw [pop8_toNat]; omega))) ?_)
  refine gl_op (op_rd rfl (rd_assign rfl) ?_)
  refine gl_nil ?_
  refine gx_then ?_
  refine gc_ret ?_
  refine gx_ret1 (.inl rfl) Try.results73 rfl [] (by decide) ?_
  exact ⟨by rw [pop8_toNat], rfl⟩

set_option maxRecDepth 100000 in
set_option maxHeartbeats 1000000 in
theorem zeros_ok (zs : List Nat) (hz : ∀ z ∈ zs, z < 256) (a : Option Addr) (ca : Nat) (w0 : World) (hsl : OldSl w0 [] a zs.length 1 (zs.map u8V)) (hn : zs.length ≤ 1000000) : Sp Try.prog 68 [.slice a zs.length ca] w0 [] (RV (natV (zerosP zs))) := by
  refine spec_enter Try.func68 rfl Try.ntmps68 rfl (Own.refl _) ?_
  simp only [argEnv]
  refine gc_seq ?_
  refine gc_region ?_
  refine gl_op (op_rd rfl (rd_assign rfl) ?_)
  refine gl_nil ?_
  refine gx_then ?_
  refine gc_seq ?_
  refine gc_seq ?_
  refine gc_region ?_
  refine gl_op (op_rd rfl (rd_move rfl) ?_)
  refine gl_op (op_rd rfl (rd_lenSlice Try.underlying36 rfl) ?_)
  refine gl_op (op_rd rfl (rd_move rfl) ?_)
  refine gl_nil ?_
  refine gx_then ?_
  refine gc_block ?_
  refine gc_loopF (ι := Nat) [(5, _), (6, _)] [] (fun j => j ≤ zs.length) (fun j Fr0 => ((7, natV j) :: (2, natV (zerosP (zs.take j))) :: Fr0)) (fun j Fr0 => Fr0) (fun j => zs.length - j) 0 (Nat.zero_le _) ⟨rfl, rfl, rfl, rfl, trivial⟩ ⟨[], by decide, rfl⟩ ?_
  rintro j hj
  refine gc_seq ?_
  refine gc_region ?_
  refine gl_op (op_rd rfl (rd_lss rfl rfl) (gk_dec (fun h8 => ?_) (fun h8 => ?_)))
  · skip
    obtain ⟨z, hzz⟩ := get_some (show j < zs.length by omega)
    have hz8 := hz z (List.mem_of_getElem? hzz)
    have hp8 := pc8_le z
    have hzl := zeros_le (zs.take j)
    rw [List.length_take] at hzl
    refine gl_nil ?_
    refine gx_then ?_
    refine gc_seq ?_
    refine gc_cond_t rfl ?_
    refine gc_skip ?_
    refine gx_then ?_
    refine gc_seq ?_
    refine gc_block ?_
    refine gc_seq ?_
    refine gc_region ?_
    refine gl_op (op_rd rfl (rd_indexOld1 hsl Try.underlying36 ty_5 rfl rfl (by omega) (by omega)) ?_)
    refine gl_op (op_rd rfl (rd_load Try.underlying5 rfl rfl (ld_slN hsl (get_u8n hzz))) ?_)
    refine gl_op (op_rd rfl (rd_assign rfl) ?_)
    refine gl_nil ?_
    refine gx_then ?_
    refine gc_region ?_
    refine gl_op (op_rd rfl (rd_move rfl) ?_)
    refine gl_op (op_rd rfl (rd_move rfl) ?_)
    refine gl_op (op_call rfl (vf := []) (vc := []) rfl rfl Try.call73 (fun w1 ho => Ones_ok z hz8 w1) ?_)
    rintro _ _ ⟨rfl, rfl⟩
    refine gl_op (op_rd rfl (by first | exact rd_subN (a := 8) rfl rfl (by omega) (by omega) | exact rd_sub rfl rfl (by omega) (by omega)) ?_)
    refine gl_op (op_rd rfl (by first | exact rd_addN rfl rfl (by omega) | exact rd_add rfl rfl (by omega) (by omega)) ?_)
    refine gl_op (op_rd rfl (rd_assign rfl) ?_)
    refine gl_nil ?_
    refine gx_block ?_
    refine gx_then ?_
    rw [← zeros_take hzz]
    refine gc_region ?_
    refine gl_op (op_rd rfl (by first | exact rd_addN (b := 1) rfl rfl (by omega) | exact rd_add rfl rfl (by omega) (by omega)) ?_)
    refine gl_op (op_rd rfl (rd_move rfl) ?_)
    refine gl_nil ?_
    refine gx_then ?_
    exact gx_cut (j + 1) ⟨by omega, by omega⟩ ⟨rfl, rfl, rfl, rfl, trivial⟩ ⟨[], by decide, rfl⟩
  · skip
    refine gl_nil ?_
    refine gx_then ?_
    refine gc_seq ?_
    refine gc_cond_f rfl ?_
    refine gc_exit ?_
    refine gx_then_exit ?_
    refine gx_then_exit ?_
    refine gx_block_exit ?_
    refine gx_then ?_
    refine gc_seq ?_
    refine gc_region ?_
    refine gl_op (op_rd rfl (rd_move rfl) ?_)
    refine gl_op (op_rd rfl (rd_assign rfl) ?_)
    refine gl_nil ?_
    refine gx_then ?_
    refine gc_ret ?_
    refine gx_ret1 (.inl rfl) Try.results68 rfl [] (by decide) ?_
    exact ⟨by rw [show j = zs.length by omega, List.take_length], rfl⟩

set_option maxRecDepth 100000 in
set_option maxHeartbeats 1000000 in
theorem empty_ok (zs : List Nat) (hz : ∀ z ∈ zs, z < 256) (a : Option Addr) (ca : Nat) (w0 : World) (hsl : OldSl w0 [] a zs.length 1 (zs.map u8V)) (hn : zs.length ≤ 1000000) : Sp Try.prog 65 [.slice a zs.length ca] w0 [] (RV (.bool (decide (zerosP zs = 0)))) := by
  refine spec_enter Try.func65 rfl Try.ntmps65 rfl (Own.refl _) ?_
  simp only [argEnv]
  refine gc_seq ?_
  refine gc_region ?_
  refine gl_op (op_rd rfl (rd_assign rfl) ?_)
  refine gl_nil ?_
  refine gx_then ?_
  refine gc_seq ?_
  refine gc_region ?_
  refine gl_op (op_rd rfl (rd_move rfl) ?_)
  refine gl_op (op_call rfl (vf := []) (vc := []) rfl rfl Try.call68 (fun w1 ho => zeros_ok zs hz a ca w1 (hsl.at ho) hn) ?_)
  rintro _ _ ⟨rfl, rfl⟩
  refine gl_op (op_rd rfl (rd_eql rfl rfl) ?_)
  refine gl_op (op_rd rfl (rd_assign rfl) ?_)
  refine gl_nil ?_
  refine gx_then ?_
  refine gc_ret ?_
  refine gx_ret1 (.inl rfl) Try.results65 rfl [] (by decide) ?_
  refine ⟨congrArg Value.bool (decide_eq_decide.2 ⟨fun h => by omega, fun h => by omega⟩), rfl⟩

set_option maxRecDepth 100000 in
set_option maxHeartbeats 1000000 in
theorem Load_ok (zs : List Nat) (a : Option Addr) (ca : Nat) (w0 : World) (hsl : OldSl w0 [] a zs.length 1 (zs.map u8V)) (hn : zs.length ≤ 140737488355328) (hg : goodLen zs.length) : Sp Try.prog 35 [.slice a zs.length ca] w0 [] (fun v L => ∃ (bf : Nat) (rb : Option Nat) (cb : Nat), v = .tuple #[.pointer (some ⟨bf, 0, none⟩), .int .i64 0] ∧ L = FlH bf rb cb none 0 (flNew zs)) := by
  obtain ⟨hg1, hg2, hg3⟩ := hg
  refine spec_enter Try.func35 rfl Try.ntmps35 rfl (Own.refl _) ?_
  simp only [argEnv]
  refine gc_seq ?_
  refine gc_region ?_
  refine gl_op (op_rd rfl (rd_assign rfl) ?_)
  refine gl_op (op_rd rfl (rd_assign rfl) ?_)
  refine gl_nil ?_
  refine gx_then ?_
  refine gc_seq ?_
  refine gc_seq ?_
  refine gc_region ?_
  refine gl_op (op_rd rfl (rd_move rfl) ?_)
  refine gl_op (op_rd rfl (rd_lenSlice Try.underlying36 rfl) ?_)
  refine gl_op (op_rd rfl (by first | exact rd_remN (b := 256) rfl rfl (by omega) | exact rd_rem rfl rfl (by omega) (by omega)) ?_)
  refine gl_op (op_rd rfl (rd_neq rfl rfl) (gk_dec (fun h7 => ?_) (fun h7 => ?_)))
  · skip
    exfalso; omega
  · skip
    refine gl_op (op_rd rfl (rd_move rfl) ?_)
    refine gl_yes rfl rfl (op_rd rfl (rd_move rfl) ?_)
    refine gl_yes rfl rfl (op_rd rfl (rd_lenSlice Try.underlying36 rfl) ?_)
    refine gl_yes rfl rfl (op_rd rfl (rd_lss rfl rfl) (gk_dec (fun h11 => ?_) (fun h11 => ?_)))
    · skip
      exfalso; omega
    · skip
      refine gl_op (op_rd rfl (rd_pick_f rfl rfl) ?_)
      refine gl_op (op_rd rfl (rd_move rfl) ?_)
      refine gl_yes rfl rfl (op_rd rfl (rd_move rfl) ?_)
      refine gl_yes rfl rfl (op_rd rfl (rd_lenSlice Try.underlying36 rfl) ?_)
      refine gl_yes rfl rfl (op_rd rfl (rd_gtr rfl rfl) (gk_dec (fun h16 => ?_) (fun h16 => ?_)))
      · skip
        exfalso; omega
      · skip
        refine gl_op (op_rd rfl (rd_pick_f rfl rfl) ?_)
        refine gl_nil ?_
        refine gx_then ?_
        refine gc_cond_f rfl ?_
        refine gc_skip ?_
        refine gx_then ?_
        refine gc_seq ?_
        refine gk_nil 5 1 ?_
        refine gc_region ?_
        refine gl_op (op_rd rfl (rd_move rfl) ?_)
        refine gl_op (op_call rfl (vf := []) (vc := []) rfl rfl Try.call42 (fun w2 ho => Clone_ok zs a ca w2 (hsl.at ho) hn) ?_)
        rintro _ _ ⟨rc, cc, rfl, rfl⟩
        refine gl_op (op_rd rfl (rd_build rfl (fun _ => bd_72_0_1_2 _ _ _ _ _)) ?_)
        refine gl_op (op_box rfl rfl rfl (fun b21 => ?_))
        refine gl_op (op_rd rfl (rd_assign rfl) ?_)
        refine gl_op (op_rd rfl (rd_assign rfl) ?_)
        refine gl_nil ?_
        refine gx_then ?_
        refine gc_ret ?_
        refine gx_ret2 (.inl rfl) Try.results35 rfl rfl [0, 1, 2] (by decide) ?_
        exact ⟨b21, rc, cc, rfl, rfl⟩

set_option maxRecDepth 100000 in
set_option maxHeartbeats 1000000 in
theorem New_ok (n : Nat) (hn4 : 4 ≤ n) (hn64 : n ≤ 64) (w0 : World) : Sp Try.prog 10 [natV n] w0 [] (fun v L => ∃ (bf : Nat) (rb : Option Nat) (cb : Nat), v = .tuple #[.pointer (some ⟨bf, 0, none⟩), .int .i64 0] ∧ L = FlH bf rb cb none 0 (flNew (List.replicate (256 * n) 255))) := by
  refine spec_enter Try.func10 rfl Try.ntmps10 rfl (Own.refl _) ?_
  simp only [argEnv]
  refine gc_seq ?_
  refine gc_region ?_
  refine gl_op (op_rd rfl (rd_assign rfl) ?_)
  refine gl_op (op_rd rfl (rd_assign rfl) ?_)
  refine gl_nil ?_
  refine gx_then ?_
  refine gc_seq ?_
  refine gc_seq ?_
  refine gc_region ?_
  refine gl_op (op_rd rfl (rd_move rfl) ?_)
  refine gl_op (op_rd rfl (rd_lss rfl rfl) (gk_dec (fun h5 => ?_) (fun h5 => ?_)))
  · skip
    exfalso; omega
  · skip
    refine gl_op (op_rd rfl (rd_move rfl) ?_)
    refine gl_yes rfl rfl (op_rd rfl (rd_move rfl) ?_)
    refine gl_yes rfl rfl (op_rd rfl (rd_gtr rfl rfl) (gk_dec (fun h8 => ?_) (fun h8 => ?_)))
    · skip
      exfalso; omega
    · skip
      refine gl_op (op_rd rfl (rd_pick_f rfl rfl) ?_)
      refine gl_nil ?_
      refine gx_then ?_
      refine gc_cond_f rfl ?_
      refine gc_skip ?_
      refine gx_then ?_
      refine gc_seq ?_
      refine gc_region ?_
      refine gl_op (op_buildSlice (sz := 1) rfl rfl (fun _ => bs_36_1_0 _) rfl rfl (fun b10 => ?_))
      refine gl_op (op_rd rfl (rd_move rfl) ?_)
      refine gl_op (op_rd rfl (by first | exact rd_mulN (a := 256) rfl rfl (by omega) | exact rd_mul rfl rfl (by omega) (by omega)) ?_)
      refine gl_op (op_call rfl (vf := []) (vc := []) rfl rfl Try.call36 (fun w2 ho => Repeat_ok 255 (256 * n) (rowA (some b10)) 1 w2 (ho.rowSl 0 rfl) (by omega)) ?_)
      rintro _ _ ⟨rr, cr, rfl, rfl⟩
      have hll : (List.replicate (256 * n) 255).length = 256 * n := List.length_replicate
      refine gl_op (op_call rfl (vf := []) (vc := []) rfl rfl Try.call35 (fun w2 ho => by have h := Load_ok (List.replicate (256 * n) 255) (rowA (some rr)) (256 * n) w2 (by rw [hll]; exact ho.rowSl 0 rfl) (by rw [hll]; omega) (by rw [hll]; exact ⟨by omega, by omega, by omega⟩); rw [hll] at h; exact h) ?_)
      rintro _ _ ⟨bf, rb, cb, rfl, rfl⟩
      refine gl_op (op_rd rfl (rd_extract rfl rfl) ?_)
      refine gl_op (op_rd rfl (rd_extract rfl rfl) ?_)
      refine gl_op (op_rd rfl (rd_assign rfl) ?_)
      refine gl_op (op_rd rfl (rd_assign rfl) ?_)
      refine gl_nil ?_
      refine gx_then ?_
      refine gc_ret ?_
      refine gx_ret2 (.inl rfl) Try.results10 rfl rfl [0, 1, 2] (by decide) ?_
      exact ⟨bf, rb, cb, rfl, rfl⟩

set_option maxRecDepth 100000 in
set_option maxHeartbeats 1000000 in
theorem isEmpty_ok (f : Fl) (hf : f.Ok) (bf : Nat) (rb : Option Nat) (cb : Nat) (rp : Option Nat) (cp : Nat) (S : List Nat) (w0 : World) (hown : Own w0 S w0 (FlH bf rb cb rp cp f)) (bk : Nat) (hin : bk * 256 + 256 ≤ f.b.length) : Sp Try.prog 38 [.pointer (some ⟨bf, 0, none⟩), natV bk] w0 S (fun v L => v = .bool (decide (zerosP ((f.b.drop (bk * 256)).take 256) = 0)) ∧ L = FlH bf rb cb rp cp f) := by
  have hbl := hf.hi
  have hbl0 := hf.lo
  obtain ⟨gb, rfl, hcb⟩ := row_some (hown.holds (.row 5 1 rb f.b.length cb (f.b.map u8V)) (by simp)) (by omega)
  refine spec_enter Try.func38 rfl Try.ntmps38 rfl hown ?_
  simp only [argEnv]
  refine gc_seq ?_
  refine gc_region ?_
  refine gl_op (op_rd rfl (rd_assign rfl) ?_)
  refine gl_nil ?_
  refine gx_then ?_
  refine gc_seq ?_
  refine gc_region ?_
  refine gl_op (op_rd rfl (rd_move rfl) ?_)
  refine gl_op (op_rd rfl (rd_nilCheck rfl) ?_)
  refine gl_op (op_rd rfl (rd_fieldAddr rfl (fa_72_1 _)) ?_)
  refine gl_op (op_rd rfl (rd_load Try.underlying36 rfl rfl (by first | exact ld_blk 0 rfl rfl | exact ld_old (by assumption) (by simp) | exact ld_cells (by assumption) (by simp) rfl)) ?_)
  refine gl_op (op_rd rfl (rd_move rfl) ?_)
  refine gl_op (op_rd rfl (by first | exact rd_mulN (b := 256) rfl rfl (by omega) | exact rd_mul rfl rfl (by omega) (by omega)) ?_)
  refine gl_op (op_rd rfl (rd_move rfl) ?_)
  refine gl_op (op_rd rfl (by first | exact rd_addN (b := 1) rfl rfl (by omega) | exact rd_add rfl rfl (by omega) (by omega)) ?_)
  refine gl_op (op_rd rfl (by first | exact rd_mulN (b := 256) rfl rfl (by omega) | exact rd_mul rfl rfl (by omega) (by omega)) ?_)
  refine gl_op (op_rd rfl (rd_slice2 Try.underlying36 ty_5 rfl rfl rfl (by omega) (by omega) (by omega)) ?_)
  simp only [Int.toNat_natCast]
  rw [subA_row' (show bk * 256 < cb by omega), show (bk + 1) * 256 - bk * 256 = 256 by omega]
  have hpl : ((f.b.drop (bk * 256)).take 256).length = 256 := by simp; omega
  refine gl_op (op_call rfl (vf := []) (vc := []) rfl rfl Try.call65 (fun w2 ho => by have h := empty_ok ((f.b.drop (bk * 256)).take 256) (fun z hz => hf.bs z (List.mem_of_mem_drop (List.mem_of_mem_take hz))) (some ⟨gb, bk * 256, none⟩) (cb - bk * 256) w2 (by rw [hpl, ← part_u8]; exact slPart (ho.rowSl 1 rfl) (bk * 256) 256 (by omega)) (by omega); rw [hpl] at h; exact h) ?_)
  rintro _ _ ⟨rfl, rfl⟩
  refine gl_op (op_rd rfl (rd_assign rfl) ?_)
  refine gl_nil ?_
  refine gx_then ?_
  refine gc_ret ?_
  refine gx_ret1 (.inl rfl) Try.results38 rfl [0, 1, 2] (by decide) ?_
  exact ⟨rfl, rfl⟩

end Go.Proofs.Ythcbcdjkfefnlaa

set_option autoImplicit false
set_option linter.unusedVariables false
namespace Go.Proofs.Ythcbcdjkfefnlaa
open Go.Gv
open Go.RowKit
open Iv
set_option maxRecDepth 100000 in
set_option maxHeartbeats 1000000 in
theorem none_q (f : Fl) (hf : f.Ok) (bf : Nat) (rb : Option Nat) (cb : Nat) (rp : Option Nat) (cp : Nat) (w0 : World) (hc : Cells w0 ⟨bf, 0, none⟩ (f.cells rb cb rp cp)) : Sp Try.prog 37 [.pointer (some ⟨bf, 0, none⟩)] w0 [] (RV (.bool false)) := by
  refine spec_enter Try.func37 rfl Try.ntmps37 rfl (Own.refl _) ?_
  simp only [argEnv]
  refine gc_seq ?_
  refine gc_region ?_
  refine gl_op (op_rd rfl (rd_assign rfl) ?_)
  refine gl_nil ?_
  refine gx_then ?_
  refine gc_seq ?_
  refine gc_region ?_
  refine gl_op (op_rd rfl (rd_move rfl) ?_)
  refine gl_op (op_rd rfl (rd_eqlNilPt eg_25 Try.underlying25 rfl rfl) ?_)
  refine gl_op (op_rd rfl (rd_move rfl) ?_)
  refine gl_yes rfl rfl (op_rd rfl (rd_move rfl) ?_)
  refine gl_yes rfl rfl (op_rd rfl (rd_nilCheck rfl) ?_)
  refine gl_yes rfl rfl (op_rd rfl (rd_fieldAddr rfl (fa_72_0 _)) ?_)
  refine gl_yes rfl rfl (op_rd rfl (rd_load Try.underlying4 rfl rfl (ld_cells (j := 0) hc (by simp) rfl)) ?_)
  refine gl_yes rfl rfl (op_rd rfl (rd_not rfl) ?_)
  refine gl_op (op_rd rfl (rd_pick_f rfl rfl) ?_)
  refine gl_op (op_rd rfl (rd_assign rfl) ?_)
  refine gl_nil ?_
  refine gx_then ?_
  refine gc_ret ?_
  refine gx_ret1 (.inl rfl) Try.results37 rfl [] (by decide) ?_
  exact ⟨rfl, rfl⟩

set_option maxRecDepth 100000 in
set_option maxHeartbeats 1000000 in
theorem Blocks_q (f : Fl) (hf : f.Ok) (bf : Nat) (rb : Option Nat) (cb : Nat) (rp : Option Nat) (cp : Nat) (w0 : World) (hc : Cells w0 ⟨bf, 0, none⟩ (f.cells rb cb rp cp)) : Sp Try.prog 33 [.pointer (some ⟨bf, 0, none⟩)] w0 [] (RV (natV (f.b.length / 256))) := by
  have hbl := hf.hi
  refine spec_enter Try.func33 rfl Try.ntmps33 rfl (Own.refl _) ?_
  simp only [argEnv]
  refine gc_seq ?_
  refine gc_region ?_
  refine gl_op (op_rd rfl (rd_assign rfl) ?_)
  refine gl_nil ?_
  refine gx_then ?_
  refine gc_seq ?_
  refine gc_seq ?_
  refine gc_region ?_
  refine gl_op (op_rd rfl (rd_move rfl) ?_)
  refine gl_op (op_call rfl (vf := []) (vc := []) rfl rfl Try.call37 (fun w1 ho => none_q f hf bf rb cb rp cp w1 (hc.at ho)) ?_)
  rintro _ _ ⟨rfl, rfl⟩
  refine gl_nil ?_
  refine gx_then ?_
  refine gc_cond_f rfl ?_
  refine gc_skip ?_
  refine gx_then ?_
  refine gc_seq ?_
  refine gc_region ?_
  refine gl_op (op_rd rfl (rd_move rfl) ?_)
  refine gl_op (op_rd rfl (rd_nilCheck rfl) ?_)
  refine gl_op (op_rd rfl (rd_fieldAddr rfl (fa_72_1 _)) ?_)
  refine gl_op (op_rd rfl (rd_load Try.underlying36 rfl rfl (ld_cells (j := 1) hc (by simp) rfl)) ?_)
  refine gl_op (op_rd rfl (rd_lenSlice Try.underlying36 rfl) ?_)
  refine gl_op (op_rd rfl (by first | exact rd_quoN (b := 256) rfl rfl (by omega) (by omega) | exact rd_quo rfl rfl (by omega) (by omega) (by omega)) ?_)
  refine gl_op (op_rd rfl (rd_assign rfl) ?_)
  refine gl_nil ?_
  refine gx_then ?_
  refine gc_ret ?_
  refine gx_ret1 (.inl rfl) Try.results33 rfl [] (by decide) ?_
  exact ⟨rfl, rfl⟩

set_option maxRecDepth 100000 in
set_option maxHeartbeats 1000000 in
theorem slot_q (f : Fl) (hf : f.Ok) (bf : Nat) (gb : Nat) (cb : Nat) (rp : Option Nat) (cp : Nat) (w0 : World) (hc : Cells w0 ⟨bf, 0, none⟩ (f.cells (some gb) cb rp cp)) (hcb : f.b.length ≤ cb) (bk sl : Nat) (hin : bk * 256 + sl * 24 + 24 ≤ f.b.length) : Sp Try.prog 67 [.pointer (some ⟨bf, 0, none⟩), .agg #[natV bk, natV sl]] w0 [] (RV (.slice (some ⟨gb, bk * 256 + sl * 24, none⟩) 24 (cb - (bk * 256 + sl * 24)))) := by
  have hbl := hf.hi
  refine spec_enter Try.func67 rfl Try.ntmps67 rfl (Own.refl _) ?_
  simp only [argEnv]
  refine gc_seq ?_
  refine gc_region ?_
  refine gl_op (op_box rfl rfl rfl (fun b3 => ?_))
  refine gl_op (op_rd rfl (rd_assign rfl) ?_)
  refine gl_nil ?_
  refine gx_then ?_
  refine gc_seq ?_
  refine gc_region ?_
  refine gl_op (op_rd rfl (rd_fieldAddr rfl (fa_94_0 _)) ?_)
  refine gl_op (op_rd rfl (rd_load Try.underlying3 rfl rfl (by first | exact ld_blk 0 rfl rfl | exact ld_slN (by assumption) (get_nats (by omega)) | exact ld_slN (by assumption) (get_ints (by omega)) | exact ld_old (by assumption) (by simp) | exact ld_cells (by assumption) (by simp) rfl)) ?_)
  refine gl_op (op_rd rfl (by first | exact rd_mulN (b := 256) rfl rfl (by omega) | exact rd_mul rfl rfl (by omega) (by omega)) ?_)
  refine gl_op (op_rd rfl (rd_fieldAddr rfl (fa_94_1 _)) ?_)
  refine gl_op (op_rd rfl (rd_load Try.underlying3 rfl rfl (by first | exact ld_blk 0 rfl rfl | exact ld_slN (by assumption) (get_nats (by omega)) | exact ld_slN (by assumption) (get_ints (by omega)) | exact ld_old (by assumption) (by simp) | exact ld_cells (by assumption) (by simp) rfl)) ?_)
  refine gl_op (op_rd rfl (by first | exact rd_mulN (b := 24) rfl rfl (by omega) | exact rd_mul rfl rfl (by omega) (by omega)) ?_)
  refine gl_op (op_rd rfl (by first | exact rd_addN rfl rfl (by omega) | exact rd_add rfl rfl (by omega) (by omega)) ?_)
  refine gl_op (op_rd rfl (rd_assign rfl) ?_)
  refine gl_nil ?_
  refine gx_then ?_
  refine gc_seq ?_
  refine gc_region ?_
  refine gl_op (op_rd rfl (rd_move rfl) ?_)
  refine gl_op (op_rd rfl (rd_nilCheck rfl) ?_)
  refine gl_op (op_rd rfl (rd_fieldAddr rfl (fa_72_1 _)) ?_)
  refine gl_op (op_rd rfl (rd_load Try.underlying36 rfl rfl (ld_cells (j := 1) hc (by simp) rfl)) ?_)
  refine gl_op (op_rd rfl (rd_move rfl) ?_)
  refine gl_op (op_rd rfl (rd_move rfl) ?_)
  refine gl_op (op_rd rfl (by first | exact rd_addN (b := 24) rfl rfl (by omega) | exact rd_add rfl rfl (by omega) (by omega)) ?_)
  refine gl_op (op_rd rfl (rd_slice2 Try.underlying36 ty_5 rfl rfl rfl (by omega) (by omega) (by omega)) ?_)
  refine gl_op (op_rd rfl (rd_assign rfl) ?_)
  refine gl_nil ?_
  refine gx_then ?_
  refine gc_ret ?_
  refine gx_ret1 (.inl rfl) Try.results67 rfl [] (by decide) ?_
  refine ⟨?_, rfl⟩
  simp only [Int.toNat_natCast]
  rw [subA_row' (show bk * 256 + sl * 24 < cb by omega), show bk * 256 + sl * 24 + 24 - (bk * 256 + sl * 24) = 24 by omega]

namespace Iv
def keyP (zs : List Nat) : Nat := gB zs 0 <<< 8 ||| gB zs 1
def numTo (zs : List Nat) (k : Nat) : Nat := (List.range k).foldl (fun x i => x <<< 8 ||| gB zs (3 + i)) 0
def valP (zs : List Nat) : List Nat := (zs.drop 7).take (gB zs 2)
def badP (zs : List Nat) : Bool := decide (gB zs 23 ≠ zerosP (zs.take 23)) || decide (999 < keyP zs) || decide (16 < gB zs 2)
theorem numTo_succ (zs : List Nat) (k : Nat) : numTo zs (k + 1) = numTo zs k <<< 8 ||| gB zs (3 + k) := by unfold numTo; rw [List.range_succ, List.foldl_append]; rfl
theorem num_lt {zs : List Nat} (h : ∀ z ∈ zs, z < 256) : ∀ k, numTo zs k < 2 ^ (8 * k)
  | 0 => by simp [numTo]
  | k + 1 => by
    rw [numTo_succ]
    have ih := num_lt h k
    have h2 : numTo zs k <<< 8 < 2 ^ (8 * (k + 1)) := by
      rw [Nat.shiftLeft_eq, show 8 * (k + 1) = 8 * k + 8 by omega, Nat.pow_add]
      exact Nat.mul_lt_mul_of_pos_right ih (by decide)
    exact Nat.or_lt_two_pow h2 (Nat.lt_of_lt_of_le (gB_lt h _) (show 2 ^ 8 ≤ 2 ^ (8 * (k + 1)) from Nat.pow_le_pow_right (by decide) (by omega)))
theorem num_lt4 {zs : List Nat} (h : ∀ z ∈ zs, z < 256) {k : Nat} (hk : k ≤ 4) : numTo zs k < 4294967296 := Nat.lt_of_lt_of_le (num_lt h k) (show 2 ^ (8 * k) ≤ 2 ^ 32 from Nat.pow_le_pow_right (by decide) (by omega))
theorem num_lt3 {zs : List Nat} (h : ∀ z ∈ zs, z < 256) {k : Nat} (hk : k < 4) : numTo zs k * 2 ^ 8 < 4294967296 := by
  have h1 := num_lt h k
  have h2 : (2 : Nat) ^ (8 * k) ≤ 2 ^ 24 := Nat.pow_le_pow_right (by decide) (by omega)
  have h3 : (2 : Nat) ^ 24 = 16777216 := by decide
  omega
theorem key_lt {zs : List Nat} (h : ∀ z ∈ zs, z < 256) : keyP zs < 65536 := by
  unfold keyP
  have h0 := gB_lt h 0
  have h1 : gB zs 0 <<< 8 < 2 ^ 16 := by rw [Nat.shiftLeft_eq]; omega
  exact Nat.or_lt_two_pow (n := 16) h1 (Nat.lt_trans (gB_lt h 1) (by decide))
end Iv

namespace Iv
theorem get_part {zs : List Nat} {j : Nat} (hj : j < 4) (hl : zs.length = 24) : (((zs.map u8V).drop 3).take 4)[j]? = some (u8V (gB zs (3 + j))) := by
  rw [List.getElem?_take, if_pos hj, List.getElem?_drop]
  exact get_u8n (gB_get (by omega))
theorem val_sl {w0 : World} {S : List Nat} {zs : List Nat} {a : Option Addr} {ca : Nat} (hsl : OldSl w0 S a 24 1 (zs.map u8V)) (hlen : zs.length = 24) (hca : 24 ≤ ca) (h2 : gB zs 2 ≤ 16) : (valP zs).length = gB zs 2 ∧ OldSl w0 S (subA a ca 7 1) (valP zs).length 1 ((valP zs).map u8V) := by
  have hl : (valP zs).length = gB zs 2 := by unfold valP; simp; omega
  refine ⟨hl, ?_⟩
  have h := (hsl.drop 7 (by omega) hca).take (gB zs 2) (by omega)
  rw [hl]
  unfold valP
  rw [← part_u8]
  simpa using h
end Iv
theorem zeros23 (zs : List Nat) (hz : ∀ z ∈ zs, z < 256) (hlen : zs.length = 24) (a : Option Addr) (ca : Nat) (w0 : World) (hsl : OldSl w0 [] a 24 1 (zs.map u8V)) : Sp Try.prog 68 [.slice a 23 ca] w0 [] (RV (natV (zerosP (zs.take 23)))) := by
  have hl : (zs.take 23).length = 23 := by rw [List.length_take, hlen]; rfl
  have h := zeros_ok (zs.take 23) (fun z h => hz z (List.mem_of_mem_take h)) a ca w0 (by
    rw [hl, List.map_take]
    have := hsl.take 23 (by omega)
    simpa using this) (by omega)
  rw [hl] at h
  exact h

set_option maxRecDepth 100000 in
set_option maxHeartbeats 1000000 in
theorem unpack_ok (zs : List Nat) (hz : ∀ z ∈ zs, z < 256) (hlen : zs.length = 24) (a : Option Addr) (ca : Nat) (hca : 24 ≤ ca) (w0 : World) (hsl : OldSl w0 [] a 24 1 (zs.map u8V)) : Sp Try.prog 66 [.slice a 24 ca] w0 [] (fun v L => (badP zs = true ∧ v = .tuple #[.agg #[.int .i64 0, .int .u32 0, .slice none 0 0], .bool false] ∧ L = []) ∨ (badP zs = false ∧ ∃ (r : Option Nat) (c : Nat), v = .tuple #[.agg #[natV (keyP zs), .int .u32 (numTo zs 4 : Nat), .slice (rowA r) (valP zs).length c], .bool true] ∧ L = [.row 5 1 r (valP zs).length c ((valP zs).map u8V)])) := by
  have h0 := gB_lt hz 0
  have h1 := gB_lt hz 1
  have h2 := gB_lt hz 2
  have hk := key_lt hz
  have hs3 : OldSl w0 [] (subA a ca 3 1) 4 1 (((zs.map u8V).drop 3).take 4) := by have h := (hsl.drop 3 (by omega) hca).take 4 (by omega); exact h
  refine spec_enter Try.func66 rfl Try.ntmps66 rfl (Own.refl _) ?_
  simp only [argEnv]
  refine gc_seq ?_
  refine gc_region ?_
  refine gl_op (op_alloc ty_92 rfl rfl (fun b2 => ?_))
  refine gl_op (op_rd rfl (rd_assign rfl) ?_)
  refine gl_nil ?_
  refine gx_then ?_
  refine gc_seq ?_
  refine gc_drawP [0] false 12 rfl ?_
  refine ga_first 0 #[true, false, false, false, false, false, false, false, false, false, false, false, false] rfl rfl rfl rfl (by kernel_rfl) rfl ⟨[0], by decide, rfl⟩ (qt_rd (rd_move rfl)) ?_
  refine ga_first 1 #[true, true, false, false, false, false, false, false, false, false, false, false, false] rfl rfl rfl rfl (by kernel_rfl) rfl ⟨[0], by decide, rfl⟩ (qt_rd (rd_indexOld1 hsl Try.underlying36 ty_5 rfl rfl (by omega) (by omega))) ?_
  refine ga_first 2 #[true, true, true, false, false, false, false, false, false, false, false, false, false] rfl rfl rfl rfl (by kernel_rfl) rfl ⟨[0], by decide, rfl⟩ (qt_rd (rd_load Try.underlying5 rfl rfl (ld_slN (off := 0) hsl (get_u8n (gB_get (show 0 < zs.length by omega)))))) ?_
  refine ga_first 3 #[true, true, true, true, false, false, false, false, false, false, false, false, false] rfl rfl rfl rfl (by kernel_rfl) rfl ⟨[0], by decide, rfl⟩ (qt_rd (rd_conv Try.runUnderlying5 Try.runUnderlying3 rfl (wrap_i64_nat (by omega)))) ?_
  refine ga_first 4 #[true, true, true, true, true, false, false, false, false, false, false, false, false] rfl rfl rfl rfl (by kernel_rfl) rfl ⟨[0], by decide, rfl⟩ (qt_rd (rd_shl (b := 8) rfl rfl (by first | omega | decide) (by first | omega | decide))) ?_
  refine ga_first 5 #[true, true, true, true, true, true, false, false, false, false, false, false, false] rfl rfl rfl rfl (by kernel_rfl) rfl ⟨[0], by decide, rfl⟩ (qt_rd (rd_move rfl)) ?_
  refine ga_first 6 #[true, true, true, true, true, true, true, false, false, false, false, false, false] rfl rfl rfl rfl (by kernel_rfl) rfl ⟨[0], by decide, rfl⟩ (qt_rd (rd_indexOld1 hsl Try.underlying36 ty_5 rfl rfl (by omega) (by omega))) ?_
  refine ga_first 7 #[true, true, true, true, true, true, true, true, false, false, false, false, false] rfl rfl rfl rfl (by kernel_rfl) rfl ⟨[0], by decide, rfl⟩ (qt_rd (rd_load Try.underlying5 rfl rfl (ld_slN (off := 1) hsl (get_u8n (gB_get (show 1 < zs.length by omega)))))) ?_
  refine ga_first 8 #[true, true, true, true, true, true, true, true, true, false, false, false, false] rfl rfl rfl rfl (by kernel_rfl) rfl ⟨[0], by decide, rfl⟩ (qt_rd (rd_conv Try.runUnderlying5 Try.runUnderlying3 rfl (wrap_i64_nat (by omega)))) ?_
  refine ga_first 9 #[true, true, true, true, true, true, true, true, true, true, false, false, false] rfl rfl rfl rfl (by kernel_rfl) rfl ⟨[0], by decide, rfl⟩ (qt_rd (rd_or rfl rfl (by first | (rw [Nat.shiftLeft_eq]; omega) | omega) (by first | (rw [Nat.shiftLeft_eq]; omega) | omega))) ?_
  refine ga_first 10 #[true, true, true, true, true, true, true, true, true, true, true, false, false] rfl rfl rfl rfl (by kernel_rfl) rfl ⟨[0], by decide, rfl⟩ (qt_rd (rd_build rfl (fun _ => bd_92_0 _))) ?_
  refine ga_only 11 #[true, true, true, true, true, true, true, true, true, true, true, true, false] rfl rfl (by kernel_rfl) rfl (.inr ⟨[0], by decide, rfl⟩) (op_alloc ty_92 rfl rfl (fun b4 => ?_))
  first | refine ga_only 12 #[true, true, true, true, true, true, true, true, true, true, true, true, true] rfl rfl (by kernel_rfl) rfl (.inr ⟨[1], by decide, rfl⟩) (op_storeAgg 0 ty_92 rfl rfl rfl rfl rfl rfl (by first | rfl | (simp only [List.set_cons_succ, List.set_cons_zero]; exact rfl)) ?_) | refine ga_only 12 #[true, true, true, true, true, true, true, true, true, true, true, true, true] rfl rfl (by kernel_rfl) rfl (.inr ⟨[1], by decide, rfl⟩) (op_storeAgg 1 ty_92 rfl rfl rfl rfl rfl rfl (by first | rfl | (simp only [List.set_cons_succ, List.set_cons_zero]; exact rfl)) ?_)
  refine ga_end (by kernel_rfl) (.inl (by kernel_rfl)) ?_
  refine gx_then ?_
  refine gc_seq ?_
  refine gc_seq ?_
  rw [show gB zs 0 <<< 8 ||| gB zs 1 = keyP zs from rfl]
  refine gc_region ?_
  refine gl_op (op_rd rfl (rd_move rfl) ?_)
  refine gl_op (op_rd rfl (rd_slice2 Try.underlying36 ty_5 rfl rfl rfl (by omega) (by omega) (by omega)) ?_)
  refine gl_op (op_rd rfl (rd_lenSlice Try.underlying36 rfl) ?_)
  refine gl_op (op_rd rfl (rd_move rfl) ?_)
  refine gl_nil ?_
  refine gx_then ?_
  refine gc_block ?_
  refine gc_loopF (ι := Nat) [(0, _), (2, _), (4, _), (19, _), (20, _)] [_] (fun j => j ≤ 4) (fun j Fr0 => ((21, natV j) :: Fr0)) (fun j Fr0 => (.blk b4 [natV (keyP zs), .int .u32 (numTo zs j : Nat), .slice none 0 0] 92 :: Fr0)) (fun j => 4 - j) 0 (Nat.zero_le _) ⟨rfl, rfl, rfl, rfl, rfl, rfl, trivial⟩ ⟨[0, 1], by decide, rfl⟩ ?_
  rintro j hj
  refine gc_seq ?_
  refine gc_region ?_
  refine gl_op (op_rd rfl (rd_lss rfl rfl) (gk_dec (fun h22 => ?_) (fun h22 => ?_)))
  · skip
    refine gl_nil ?_
    refine gx_then ?_
    refine gc_seq ?_
    refine gc_cond_t rfl ?_
    refine gc_skip ?_
    refine gx_then ?_
    refine gc_seq ?_
    refine gc_block ?_
    refine gc_seq ?_
    refine gc_region ?_
    refine gl_op (op_rd rfl (rd_indexOld1 hs3 Try.underlying36 ty_5 rfl rfl (by omega) (by omega)) ?_)
    refine gl_op (op_rd rfl (rd_load Try.underlying5 rfl rfl (ld_slN hs3 (get_part (show j < 4 by omega) hlen))) ?_)
    refine gl_op (op_rd rfl (rd_assign rfl) ?_)
    refine gl_nil ?_
    refine gx_then ?_
    refine gc_region ?_
    refine gl_op (op_rd rfl (rd_fieldAddr rfl (fa_92_1 _)) ?_)
    refine gl_op (op_rd rfl (rd_load Try.underlying79 rfl rfl (by first | exact ld_blk 0 rfl rfl | exact ld_blk 1 rfl rfl | exact ld_old (by assumption) (by simp) | exact ld_cells (by assumption) (by simp) rfl)) ?_)
    refine gl_op (op_rd rfl (rd_shl32 (b := 8) rfl rfl (by omega) (num_lt3 hz (by omega))) ?_)
    refine gl_op (op_rd rfl (rd_move rfl) ?_)
    refine gl_op (op_rd rfl (rd_conv Try.runUnderlying5 Try.runUnderlying79 rfl (wrap_u32_nat (by have := gB_lt hz (3 + j); omega))) ?_)
    refine gl_op (op_rd rfl (rd_or32 rfl rfl (by have := num_lt3 hz (k := j) (by omega); rw [Nat.shiftLeft_eq]; exact this) (by have := gB_lt hz (3 + j); omega)) ?_)
    refine gl_op (op_rd rfl (rd_fieldAddr rfl (fa_92_1 _)) ?_)
    first | refine gl_op (op_store 0 ty_79 rfl rfl rfl rfl rfl (by first | rfl | (simp only [List.set_cons_succ, List.set_cons_zero]; exact rfl)) (by first | rfl | (simp only [List.set_cons_succ, List.set_cons_zero]; exact rfl)) ?_) | refine gl_op (op_store 1 ty_79 rfl rfl rfl rfl rfl (by first | rfl | (simp only [List.set_cons_succ, List.set_cons_zero]; exact rfl)) (by first | rfl | (simp only [List.set_cons_succ, List.set_cons_zero]; exact rfl)) ?_)
    refine gl_nil ?_
    refine gx_block ?_
    refine gx_then ?_
    rw [← numTo_succ]
    refine gc_region ?_
    refine gl_op (op_rd rfl (by first | exact rd_addN (b := 1) rfl rfl (by omega) | exact rd_add rfl rfl (by omega) (by omega)) ?_)
    refine gl_op (op_rd rfl (rd_move rfl) ?_)
    refine gl_nil ?_
    refine gx_then ?_
    exact gx_cut (j + 1) ⟨by omega, by omega⟩ ⟨rfl, rfl, rfl, rfl, rfl, rfl, trivial⟩ ⟨[0, 1], by decide, rfl⟩
  · skip
    refine gl_nil ?_
    refine gx_then ?_
    refine gc_seq ?_
    refine gc_cond_f rfl ?_
    refine gc_exit ?_
    refine gx_then_exit ?_
    refine gx_then_exit ?_
    refine gx_block_exit ?_
    refine gx_then ?_
    refine gc_seq ?_
    refine gc_seq ?_
    refine gc_drawP [0, 1] true 18 rfl ?_
    refine ga_first 0 #[true, false, false, false, false, false, false, false, false, false, false, false, false, false, false, false, false, false, false] rfl rfl rfl rfl (by kernel_rfl) rfl ⟨[0, 1], by decide, rfl⟩ (qt_rd (rd_move rfl)) ?_
    refine ga_first 1 #[true, true, false, false, false, false, false, false, false, false, false, false, false, false, false, false, false, false, false] rfl rfl rfl rfl (by kernel_rfl) rfl ⟨[0, 1], by decide, rfl⟩ (qt_rd (rd_indexOld1 hsl Try.underlying36 ty_5 rfl rfl (by omega) (by omega))) ?_
    refine ga_first 2 #[true, true, true, false, false, false, false, false, false, false, false, false, false, false, false, false, false, false, false] rfl rfl rfl rfl (by kernel_rfl) rfl ⟨[0, 1], by decide, rfl⟩ (qt_rd (rd_load Try.underlying5 rfl rfl (ld_slN (off := 23) hsl (get_u8n (gB_get (show 23 < zs.length by omega)))))) ?_
    refine ga_first 3 #[true, true, true, true, false, false, false, false, false, false, false, false, false, false, false, false, false, false, false] rfl rfl rfl rfl (by kernel_rfl) rfl ⟨[0, 1], by decide, rfl⟩ (qt_rd (rd_conv Try.runUnderlying5 Try.runUnderlying3 rfl (wrap_i64_nat (by have := gB_lt hz 23; omega)))) ?_
    refine ga_first 4 #[true, true, true, true, true, false, false, false, false, false, false, false, false, false, false, false, false, false, false] rfl rfl rfl rfl (by kernel_rfl) rfl ⟨[0, 1], by decide, rfl⟩ (qt_rd (rd_move rfl)) ?_
    refine ga_first 5 #[true, true, true, true, true, true, false, false, false, false, false, false, false, false, false, false, false, false, false] rfl rfl rfl rfl (by kernel_rfl) rfl ⟨[0, 1], by decide, rfl⟩ (qt_rd (rd_sliceHi Try.underlying36 ty_5 rfl rfl (by omega) (by omega))) ?_
    refine ga_first 6 #[true, true, true, true, true, true, true, false, false, false, false, false, false, false, false, false, false, false, false] rfl rfl rfl rfl (by kernel_rfl) rfl ⟨[0, 1], by decide, rfl⟩ (qt_call (vf := []) (vc := []) rfl rfl Try.call68 (fun w1 ho => zeros23 zs hz hlen a ca w1 (hsl.at ho)) (by rintro _ _ ⟨h, _⟩; exact h)) ?_
    refine ga_first 7 #[true, true, true, true, true, true, true, true, false, false, false, false, false, false, false, false, false, false, false] rfl rfl rfl rfl (by kernel_rfl) rfl ⟨[0, 1], by decide, rfl⟩ (qt_rd (rd_neq rfl rfl)) (gk_dec (fun h40 => ?_) (fun h40 => ?_))
    · skip
      refine ga_first 8 #[true, true, true, true, true, true, true, true, true, false, false, false, false, false, false, false, false, false, false] rfl rfl rfl rfl (by kernel_rfl) rfl ⟨[0, 1], by decide, rfl⟩ (qt_rd (rd_move rfl)) ?_
      refine ga_firstN 9 #[true, true, true, true, true, true, true, true, true, true, false, false, false, false, false, false, false, false, false] rfl rfl rfl rfl rfl rfl (by kernel_rfl) rfl ⟨[0, 1], by decide, rfl⟩ ?_
      refine ga_firstN 10 #[true, true, true, true, true, true, true, true, true, true, true, false, false, false, false, false, false, false, false] rfl rfl rfl rfl rfl rfl (by kernel_rfl) rfl ⟨[0, 1], by decide, rfl⟩ ?_
      refine ga_firstN 11 #[true, true, true, true, true, true, true, true, true, true, true, true, false, false, false, false, false, false, false] rfl rfl rfl rfl rfl rfl (by kernel_rfl) rfl ⟨[0, 1], by decide, rfl⟩ ?_
      refine ga_first 12 #[true, true, true, true, true, true, true, true, true, true, true, true, true, false, false, false, false, false, false] rfl rfl rfl rfl (by kernel_rfl) rfl ⟨[0, 1], by decide, rfl⟩ (qt_rd (rd_pick_t rfl rfl)) ?_
      refine ga_first 13 #[true, true, true, true, true, true, true, true, true, true, true, true, true, true, false, false, false, false, false] rfl rfl rfl rfl (by kernel_rfl) rfl ⟨[0, 1], by decide, rfl⟩ (qt_rd (rd_move rfl)) ?_
      refine ga_firstN 14 #[true, true, true, true, true, true, true, true, true, true, true, true, true, true, true, false, false, false, false] rfl rfl rfl rfl rfl rfl (by kernel_rfl) rfl ⟨[0, 1], by decide, rfl⟩ ?_
      refine ga_firstN 15 #[true, true, true, true, true, true, true, true, true, true, true, true, true, true, true, true, false, false, false] rfl rfl rfl rfl rfl rfl (by kernel_rfl) rfl ⟨[0, 1], by decide, rfl⟩ ?_
      refine ga_firstN 16 #[true, true, true, true, true, true, true, true, true, true, true, true, true, true, true, true, true, false, false] rfl rfl rfl rfl rfl rfl (by kernel_rfl) rfl ⟨[0, 1], by decide, rfl⟩ ?_
      refine ga_firstN 17 #[true, true, true, true, true, true, true, true, true, true, true, true, true, true, true, true, true, true, false] rfl rfl rfl rfl rfl rfl (by kernel_rfl) rfl ⟨[0, 1], by decide, rfl⟩ ?_
      refine ga_first 18 #[true, true, true, true, true, true, true, true, true, true, true, true, true, true, true, true, true, true, true] rfl rfl rfl rfl (by kernel_rfl) rfl ⟨[0, 1], by decide, rfl⟩ (qt_rd (rd_pick_t rfl rfl)) ?_
      refine ga_end (by kernel_rfl) (.inr ⟨[0, 1], by decide, rfl⟩) ?_
      refine gx_then ?_
      refine gc_cond_t rfl ?_
      refine gc_seq ?_
      refine gc_region ?_
      refine gl_op (op_rd rfl (rd_build rfl (fun _ => bd_92_)) ?_)
      first | refine gl_op (op_storeAgg 0 ty_92 rfl rfl rfl rfl rfl rfl (by first | rfl | (simp only [List.set_cons_succ, List.set_cons_zero]; exact rfl)) ?_) | refine gl_op (op_storeAgg 1 ty_92 rfl rfl rfl rfl rfl rfl (by first | rfl | (simp only [List.set_cons_succ, List.set_cons_zero]; exact rfl)) ?_)
      refine gl_op (op_rd rfl (rd_assign rfl) ?_)
      refine gl_nil ?_
      refine gx_then ?_
      refine gc_ret ?_
      refine gx_then_ret ?_
      refine gx_retV2 (.inl rfl) Try.results66 (rv_agg Try.underlying92 rfl ty_92 rfl (by rfl) (cs_blk 1 (off := 0) (k := 3) rfl rfl)) (rv_tmp rfl) [] (by decide) ?_
      refine .inl ⟨?_, rfl, rfl⟩
      unfold badP
      rw [decide_eq_true (show gB zs 23 ≠ zerosP (zs.take 23) by omega)]; rfl
    · skip
      refine ga_first 8 #[true, true, true, true, true, true, true, true, true, false, false, false, false, false, false, false, false, false, false] rfl rfl rfl rfl (by kernel_rfl) rfl ⟨[0, 1], by decide, rfl⟩ (qt_rd (rd_move rfl)) ?_
      refine ga_firstY 9 #[true, true, true, true, true, true, true, true, true, true, false, false, false, false, false, false, false, false, false] rfl rfl rfl rfl rfl rfl (by kernel_rfl) rfl ⟨[0, 1], by decide, rfl⟩ (qt_rd (rd_fieldAddr rfl (fa_92_0 _))) ?_
      refine ga_firstY 10 #[true, true, true, true, true, true, true, true, true, true, true, false, false, false, false, false, false, false, false] rfl rfl rfl rfl rfl rfl (by kernel_rfl) rfl ⟨[0, 1], by decide, rfl⟩ (qt_rd (rd_load Try.underlying3 rfl rfl (by first | exact ld_blk 0 rfl rfl | exact ld_blk 1 rfl rfl | exact ld_slN (by assumption) (get_nats (by omega)) | exact ld_slN (by assumption) (get_ints (by omega)) | exact ld_old (by assumption) (by simp) | exact ld_cells (by assumption) (by simp) rfl))) ?_
      refine ga_firstY 11 #[true, true, true, true, true, true, true, true, true, true, true, true, false, false, false, false, false, false, false] rfl rfl rfl rfl rfl rfl (by kernel_rfl) rfl ⟨[0, 1], by decide, rfl⟩ (qt_rd (rd_gtr rfl rfl)) (gk_dec (fun h44 => ?_) (fun h44 => ?_))
      · skip
        refine ga_first 12 #[true, true, true, true, true, true, true, true, true, true, true, true, true, false, false, false, false, false, false] rfl rfl rfl rfl (by kernel_rfl) rfl ⟨[0, 1], by decide, rfl⟩ (qt_rd (rd_pick_f rfl rfl)) ?_
        refine ga_first 13 #[true, true, true, true, true, true, true, true, true, true, true, true, true, true, false, false, false, false, false] rfl rfl rfl rfl (by kernel_rfl) rfl ⟨[0, 1], by decide, rfl⟩ (qt_rd (rd_move rfl)) ?_
        refine ga_firstN 14 #[true, true, true, true, true, true, true, true, true, true, true, true, true, true, true, false, false, false, false] rfl rfl rfl rfl rfl rfl (by kernel_rfl) rfl ⟨[0, 1], by decide, rfl⟩ ?_
        refine ga_firstN 15 #[true, true, true, true, true, true, true, true, true, true, true, true, true, true, true, true, false, false, false] rfl rfl rfl rfl rfl rfl (by kernel_rfl) rfl ⟨[0, 1], by decide, rfl⟩ ?_
        refine ga_firstN 16 #[true, true, true, true, true, true, true, true, true, true, true, true, true, true, true, true, true, false, false] rfl rfl rfl rfl rfl rfl (by kernel_rfl) rfl ⟨[0, 1], by decide, rfl⟩ ?_
        refine ga_firstN 17 #[true, true, true, true, true, true, true, true, true, true, true, true, true, true, true, true, true, true, false] rfl rfl rfl rfl rfl rfl (by kernel_rfl) rfl ⟨[0, 1], by decide, rfl⟩ ?_
        refine ga_first 18 #[true, true, true, true, true, true, true, true, true, true, true, true, true, true, true, true, true, true, true] rfl rfl rfl rfl (by kernel_rfl) rfl ⟨[0, 1], by decide, rfl⟩ (qt_rd (rd_pick_t rfl rfl)) ?_
        refine ga_end (by kernel_rfl) (.inr ⟨[0, 1], by decide, rfl⟩) ?_
        refine gx_then ?_
        refine gc_cond_t rfl ?_
        refine gc_seq ?_
        refine gc_region ?_
        refine gl_op (op_rd rfl (rd_build rfl (fun _ => bd_92_)) ?_)
        first | refine gl_op (op_storeAgg 0 ty_92 rfl rfl rfl rfl rfl rfl (by first | rfl | (simp only [List.set_cons_succ, List.set_cons_zero]; exact rfl)) ?_) | refine gl_op (op_storeAgg 1 ty_92 rfl rfl rfl rfl rfl rfl (by first | rfl | (simp only [List.set_cons_succ, List.set_cons_zero]; exact rfl)) ?_)
        refine gl_op (op_rd rfl (rd_assign rfl) ?_)
        refine gl_nil ?_
        refine gx_then ?_
        refine gc_ret ?_
        refine gx_then_ret ?_
        refine gx_retV2 (.inl rfl) Try.results66 (rv_agg Try.underlying92 rfl ty_92 rfl (by rfl) (cs_blk 1 (off := 0) (k := 3) rfl rfl)) (rv_tmp rfl) [] (by decide) ?_
        refine .inl ⟨?_, rfl, rfl⟩
        unfold badP
        rw [decide_eq_true (show 999 < keyP zs by omega)]; simp
      · skip
        refine ga_first 12 #[true, true, true, true, true, true, true, true, true, true, true, true, true, false, false, false, false, false, false] rfl rfl rfl rfl (by kernel_rfl) rfl ⟨[0, 1], by decide, rfl⟩ (qt_rd (rd_pick_f rfl rfl)) ?_
        refine ga_first 13 #[true, true, true, true, true, true, true, true, true, true, true, true, true, true, false, false, false, false, false] rfl rfl rfl rfl (by kernel_rfl) rfl ⟨[0, 1], by decide, rfl⟩ (qt_rd (rd_move rfl)) ?_
        refine ga_firstY 14 #[true, true, true, true, true, true, true, true, true, true, true, true, true, true, true, false, false, false, false] rfl rfl rfl rfl rfl rfl (by kernel_rfl) rfl ⟨[0, 1], by decide, rfl⟩ (qt_rd (rd_move rfl)) ?_
        refine ga_firstY 15 #[true, true, true, true, true, true, true, true, true, true, true, true, true, true, true, true, false, false, false] rfl rfl rfl rfl rfl rfl (by kernel_rfl) rfl ⟨[0, 1], by decide, rfl⟩ (qt_rd (rd_indexOld1 hsl Try.underlying36 ty_5 rfl rfl (by omega) (by omega))) ?_
        refine ga_firstY 16 #[true, true, true, true, true, true, true, true, true, true, true, true, true, true, true, true, true, false, false] rfl rfl rfl rfl rfl rfl (by kernel_rfl) rfl ⟨[0, 1], by decide, rfl⟩ (qt_rd (rd_load Try.underlying5 rfl rfl (ld_slN (off := 2) hsl (get_u8n (gB_get (show 2 < zs.length by omega)))))) ?_
        refine ga_firstY 17 #[true, true, true, true, true, true, true, true, true, true, true, true, true, true, true, true, true, true, false] rfl rfl rfl rfl rfl rfl (by kernel_rfl) rfl ⟨[0, 1], by decide, rfl⟩ (qt_rd (rd_gtr rfl rfl)) (gk_dec (fun h50 => ?_) (fun h50 => ?_))
        · skip
          refine ga_first 18 #[true, true, true, true, true, true, true, true, true, true, true, true, true, true, true, true, true, true, true] rfl rfl rfl rfl (by kernel_rfl) rfl ⟨[0, 1], by decide, rfl⟩ (qt_rd (rd_pick_f rfl rfl)) ?_
          refine ga_end (by kernel_rfl) (.inr ⟨[0, 1], by decide, rfl⟩) ?_
          refine gx_then ?_
          refine gc_cond_t rfl ?_
          refine gc_seq ?_
          refine gc_region ?_
          refine gl_op (op_rd rfl (rd_build rfl (fun _ => bd_92_)) ?_)
          first | refine gl_op (op_storeAgg 0 ty_92 rfl rfl rfl rfl rfl rfl (by first | rfl | (simp only [List.set_cons_succ, List.set_cons_zero]; exact rfl)) ?_) | refine gl_op (op_storeAgg 1 ty_92 rfl rfl rfl rfl rfl rfl (by first | rfl | (simp only [List.set_cons_succ, List.set_cons_zero]; exact rfl)) ?_)
          refine gl_op (op_rd rfl (rd_assign rfl) ?_)
          refine gl_nil ?_
          refine gx_then ?_
          refine gc_ret ?_
          refine gx_then_ret ?_
          refine gx_retV2 (.inl rfl) Try.results66 (rv_agg Try.underlying92 rfl ty_92 rfl (by rfl) (cs_blk 1 (off := 0) (k := 3) rfl rfl)) (rv_tmp rfl) [] (by decide) ?_
          refine .inl ⟨?_, rfl, rfl⟩
          unfold badP
          rw [decide_eq_true (show 16 < gB zs 2 by omega)]; simp
        · skip
          refine ga_first 18 #[true, true, true, true, true, true, true, true, true, true, true, true, true, true, true, true, true, true, true] rfl rfl rfl rfl (by kernel_rfl) rfl ⟨[0, 1], by decide, rfl⟩ (qt_rd (rd_pick_f rfl rfl)) ?_
          refine ga_end (by kernel_rfl) (.inr ⟨[0, 1], by decide, rfl⟩) ?_
          refine gx_then ?_
          refine gc_cond_f rfl ?_
          refine gc_skip ?_
          refine gx_then ?_
          refine gc_seq ?_
          refine gc_region ?_
          refine gl_op (op_rd rfl (rd_move rfl) ?_)
          refine gl_op (op_rd rfl (rd_move rfl) ?_)
          refine gl_op (op_rd rfl (rd_indexOld1 hsl Try.underlying36 ty_5 rfl rfl (by omega) (by omega)) ?_)
          refine gl_op (op_rd rfl (rd_load Try.underlying5 rfl rfl (ld_slN (off := 2) hsl (get_u8n (gB_get (show 2 < zs.length by omega))))) ?_)
          refine gl_op (op_rd rfl (rd_conv Try.runUnderlying5 Try.runUnderlying3 rfl (wrap_i64_nat (by have := gB_lt hz 2; omega))) ?_)
          have hgood : badP zs = false := by
            unfold badP
            rw [decide_eq_false (show ¬ (gB zs 23 ≠ zerosP (zs.take 23)) by omega), decide_eq_false (show ¬ 999 < keyP zs by omega), decide_eq_false (show ¬ 16 < gB zs 2 by omega)]; rfl
          refine gl_op (op_rd rfl (by first | exact rd_addN (a := 7) rfl rfl (by omega) | exact rd_add rfl rfl (by omega) (by omega)) ?_)
          refine gl_op (op_rd rfl (rd_slice2 Try.underlying36 ty_5 rfl rfl rfl (by omega) (by omega) (by omega)) ?_)
          simp only [Int.toNat_natCast]
          obtain ⟨hvl, hv7⟩ := val_sl hsl hlen hca (show gB zs 2 ≤ 16 by omega)
          rw [show (7 + gB zs 2) - Int.toNat 7 = (valP zs).length by rw [hvl]; show 7 + gB zs 2 - 7 = _; omega]
          refine gl_op (op_call rfl (vf := []) (vc := []) rfl rfl Try.call42 (fun w1 ho => Clone_ok (valP zs) (subA a ca 7 1) (ca - 7) w1 (hv7.at ho) (by omega)) ?_)
          rintro _ _ ⟨rv, cv, rfl, rfl⟩
          refine gl_op (op_rd rfl (rd_fieldAddr rfl (fa_92_2 _)) ?_)
          first | refine gl_op (op_store 1 ty_36 rfl rfl rfl rfl rfl (by first | rfl | (simp only [List.set_cons_succ, List.set_cons_zero]; exact rfl)) (by first | rfl | (simp only [List.set_cons_succ, List.set_cons_zero]; exact rfl)) ?_) | refine gl_op (op_store 2 ty_36 rfl rfl rfl rfl rfl (by first | rfl | (simp only [List.set_cons_succ, List.set_cons_zero]; exact rfl)) (by first | rfl | (simp only [List.set_cons_succ, List.set_cons_zero]; exact rfl)) ?_) | refine gl_op (op_storeRow 0 ty_36 rfl rfl rfl rfl (by simp; omega) (by first | rfl | (simp only [List.set_cons_succ, List.set_cons_zero]; exact rfl)) ?_)
          refine gl_nil ?_
          refine gx_then ?_
          refine gc_seq ?_
          refine gc_region ?_
          refine gl_op (op_rd rfl (rd_loadAgg Try.underlying92 rfl ty_92 rfl (by first | exact cs_blk 1 (off := 0) (k := 3) rfl rfl | exact cs_blk 2 (off := 0) (k := 3) rfl rfl | exact cs_old (by assumption) (by simp)) rfl) ?_)
          first | refine gl_op (op_storeAgg 1 ty_92 rfl rfl rfl rfl rfl rfl (by first | rfl | (simp only [List.set_cons_succ, List.set_cons_zero]; exact rfl)) ?_) | refine gl_op (op_storeAgg 2 ty_92 rfl rfl rfl rfl rfl rfl (by first | rfl | (simp only [List.set_cons_succ, List.set_cons_zero]; exact rfl)) ?_) | refine gl_op (op_storeRowAgg 0 ty_92 rfl rfl rfl rfl rfl (by simp; omega) (by first | rfl | (simp only [List.set_cons_succ, List.set_cons_zero]; exact rfl)) ?_)
          refine gl_op (op_rd rfl (rd_assign rfl) ?_)
          refine gl_nil ?_
          refine gx_then ?_
          refine gc_ret ?_
          refine gx_retV2 (.inl rfl) Try.results66 (rv_agg Try.underlying92 rfl ty_92 rfl (by rfl) (cs_blk 2 (off := 0) (k := 3) rfl rfl)) (rv_tmp rfl) [0] (by decide) ?_
          exact .inr ⟨hgood, rv, cv, by rw [show j = 4 by omega]; rfl, rfl⟩

end Go.Proofs.Ythcbcdjkfefnlaa

set_option autoImplicit false
set_option linter.unusedVariables false
namespace Go.Proofs.Ythcbcdjkfefnlaa
open Go.Gv
open Go.RowKit
open Iv
namespace Iv
def readyP (f : Fl) (id : Nat) : Int := if f.down then 9 else if id ≠ f.st then 9 else 0
theorem drop_rep (n o k z : Nat) (h : o + k ≤ n) : ((List.replicate n z).drop o).take k = List.replicate k z := by
  rw [List.drop_replicate, List.take_replicate, Nat.min_eq_left (by omega)]
theorem zeros_rep : ∀ n, zerosP (List.replicate n 255) = 0
  | 0 => rfl
  | n + 1 => by rw [List.replicate_succ, zerosP, zeros_rep n]; rfl
theorem bad_rep : badP (List.replicate 24 255) = true := by decide +kernel
end Iv

set_option maxRecDepth 100000 in
set_option maxHeartbeats 1000000 in
theorem ready_q (f : Fl) (hf : f.Ok) (bs bf : Nat) (rb : Option Nat) (cb : Nat) (rp : Option Nat) (cp : Nat) (id bm num : Nat) (free : Int) (w0 : World) (hs : Cells w0 ⟨bs, 0, none⟩ [.bool true, .pointer (some ⟨bf, 0, none⟩), natV id, .map (some bm), .int .u32 (num : Nat), .int .i64 free]) (hc : Cells w0 ⟨bf, 0, none⟩ (f.cells rb cb rp cp)) : Sp Try.prog 41 [.pointer (some ⟨bs, 0, none⟩)] w0 [] (RV (.int .i64 (readyP f id))) := by
  refine spec_enter Try.func41 rfl Try.ntmps41 rfl (Own.refl _) ?_
  simp only [argEnv]
  refine gc_seq ?_
  refine gc_region ?_
  refine gl_op (op_rd rfl (rd_assign rfl) ?_)
  refine gl_nil ?_
  refine gx_then ?_
  refine gc_seq ?_
  refine gc_block ?_
  refine gc_seq ?_
  refine gc_region ?_
  refine gl_op (op_rd rfl (rd_move rfl) ?_)
  refine gl_op (op_rd rfl (rd_eqlNilPt eg_29 Try.underlying29 rfl rfl) ?_)
  refine gl_op (op_rd rfl (rd_move rfl) ?_)
  refine gl_yes rfl rfl (op_rd rfl (rd_move rfl) ?_)
  refine gl_yes rfl rfl (op_rd rfl (rd_nilCheck rfl) ?_)
  refine gl_yes rfl rfl (op_rd rfl (rd_fieldAddr rfl (fa_81_0 _)) ?_)
  refine gl_yes rfl rfl (op_rd rfl (rd_load Try.underlying4 rfl rfl (ld_cells (j := 0) hs (by simp) rfl)) ?_)
  refine gl_yes rfl rfl (op_rd rfl (rd_not rfl) ?_)
  refine gl_op (op_rd rfl (rd_pick_f rfl rfl) ?_)
  refine gl_op (op_rd rfl (rd_assign rfl) ?_)
  refine gl_nil ?_
  refine gx_then ?_
  refine gc_cond_f rfl ?_
  refine gc_seq ?_
  refine gc_drawP [] true 21 rfl ?_
  refine ga_first 0 #[true, false, false, false, false, false, false, false, false, false, false, false, false, false, false, false, false, false, false, false, false, false] rfl rfl rfl rfl (by kernel_rfl) rfl ⟨[], by decide, rfl⟩ (qt_rd (rd_move rfl)) ?_
  refine ga_first 1 #[true, true, false, false, false, false, false, false, false, false, false, false, false, false, false, false, false, false, false, false, false, false] rfl rfl rfl rfl (by kernel_rfl) rfl ⟨[], by decide, rfl⟩ (qt_rd (rd_nilCheck rfl)) ?_
  refine ga_first 2 #[true, true, true, false, false, false, false, false, false, false, false, false, false, false, false, false, false, false, false, false, false, false] rfl rfl rfl rfl (by kernel_rfl) rfl ⟨[], by decide, rfl⟩ (qt_rd (rd_fieldAddr rfl (fa_81_1 _))) ?_
  refine ga_first 3 #[true, true, true, true, false, false, false, false, false, false, false, false, false, false, false, false, false, false, false, false, false, false] rfl rfl rfl rfl (by kernel_rfl) rfl ⟨[], by decide, rfl⟩ (qt_rd (rd_load Try.underlying25 rfl rfl (ld_cells (j := 1) hs (by simp) rfl))) ?_
  refine ga_first 4 #[true, true, true, true, true, false, false, false, false, false, false, false, false, false, false, false, false, false, false, false, false, false] rfl rfl rfl rfl (by kernel_rfl) rfl ⟨[], by decide, rfl⟩ (qt_rd (rd_nilCheck rfl)) ?_
  refine ga_first 5 #[true, true, true, true, true, true, false, false, false, false, false, false, false, false, false, false, false, false, false, false, false, false] rfl rfl rfl rfl (by kernel_rfl) rfl ⟨[], by decide, rfl⟩ (qt_rd (rd_fieldAddr rfl (fa_72_4 _))) ?_
  refine ga_first 6 #[true, true, true, true, true, true, true, false, false, false, false, false, false, false, false, false, false, false, false, false, false, false] rfl rfl rfl rfl (by kernel_rfl) rfl ⟨[], by decide, rfl⟩ (qt_rd (rd_load Try.underlying4 rfl rfl (ld_cells (j := 4) hc (by simp) rfl))) ?_
  refine gk_bool (fun h20 => ?_) (fun h20 => ?_)
  · skip
    refine ga_first 7 #[true, true, true, true, true, true, true, true, false, false, false, false, false, false, false, false, false, false, false, false, false, false] rfl rfl rfl rfl (by kernel_rfl) rfl ⟨[], by decide, rfl⟩ (qt_rd (rd_move rfl)) ?_
    refine ga_firstN 8 #[true, true, true, true, true, true, true, true, true, false, false, false, false, false, false, false, false, false, false, false, false, false] rfl rfl rfl rfl rfl rfl (by kernel_rfl) rfl ⟨[], by decide, rfl⟩ ?_
    refine ga_firstN 9 #[true, true, true, true, true, true, true, true, true, true, false, false, false, false, false, false, false, false, false, false, false, false] rfl rfl rfl rfl rfl rfl (by kernel_rfl) rfl ⟨[], by decide, rfl⟩ ?_
    refine ga_firstN 10 #[true, true, true, true, true, true, true, true, true, true, true, false, false, false, false, false, false, false, false, false, false, false] rfl rfl rfl rfl rfl rfl (by kernel_rfl) rfl ⟨[], by decide, rfl⟩ ?_
    refine ga_firstN 11 #[true, true, true, true, true, true, true, true, true, true, true, true, false, false, false, false, false, false, false, false, false, false] rfl rfl rfl rfl rfl rfl (by kernel_rfl) rfl ⟨[], by decide, rfl⟩ ?_
    refine ga_firstN 12 #[true, true, true, true, true, true, true, true, true, true, true, true, true, false, false, false, false, false, false, false, false, false] rfl rfl rfl rfl rfl rfl (by kernel_rfl) rfl ⟨[], by decide, rfl⟩ ?_
    refine ga_firstN 13 #[true, true, true, true, true, true, true, true, true, true, true, true, true, true, false, false, false, false, false, false, false, false] rfl rfl rfl rfl rfl rfl (by kernel_rfl) rfl ⟨[], by decide, rfl⟩ ?_
    refine ga_firstN 14 #[true, true, true, true, true, true, true, true, true, true, true, true, true, true, true, false, false, false, false, false, false, false] rfl rfl rfl rfl rfl rfl (by kernel_rfl) rfl ⟨[], by decide, rfl⟩ ?_
    refine ga_firstN 15 #[true, true, true, true, true, true, true, true, true, true, true, true, true, true, true, true, false, false, false, false, false, false] rfl rfl rfl rfl rfl rfl (by kernel_rfl) rfl ⟨[], by decide, rfl⟩ ?_
    refine ga_firstN 16 #[true, true, true, true, true, true, true, true, true, true, true, true, true, true, true, true, true, false, false, false, false, false] rfl rfl rfl rfl rfl rfl (by kernel_rfl) rfl ⟨[], by decide, rfl⟩ ?_
    refine ga_firstN 17 #[true, true, true, true, true, true, true, true, true, true, true, true, true, true, true, true, true, true, false, false, false, false] rfl rfl rfl rfl rfl rfl (by kernel_rfl) rfl ⟨[], by decide, rfl⟩ ?_
    refine ga_firstN 18 #[true, true, true, true, true, true, true, true, true, true, true, true, true, true, true, true, true, true, true, false, false, false] rfl rfl rfl rfl rfl rfl (by kernel_rfl) rfl ⟨[], by decide, rfl⟩ ?_
    refine ga_firstN 19 #[true, true, true, true, true, true, true, true, true, true, true, true, true, true, true, true, true, true, true, true, false, false] rfl rfl rfl rfl rfl rfl (by kernel_rfl) rfl ⟨[], by decide, rfl⟩ ?_
    refine ga_first 20 #[true, true, true, true, true, true, true, true, true, true, true, true, true, true, true, true, true, true, true, true, true, false] rfl rfl rfl rfl (by kernel_rfl) rfl ⟨[], by decide, rfl⟩ (qt_rd (rd_pick_t rfl rfl)) ?_
    refine ga_first 21 #[true, true, true, true, true, true, true, true, true, true, true, true, true, true, true, true, true, true, true, true, true, true] rfl rfl rfl rfl (by kernel_rfl) rfl ⟨[], by decide, rfl⟩ (qt_rd (rd_assign rfl)) ?_
    refine ga_end (by kernel_rfl) (.inr ⟨[], by decide, rfl⟩) ?_
    refine gx_then ?_
    refine gc_cond_t rfl ?_
    refine gc_seq ?_
    refine gc_region ?_
    refine gl_op (op_rd rfl (rd_assign rfl) ?_)
    refine gl_nil ?_
    refine gx_then ?_
    refine gc_ret ?_
    refine gx_block_ret ?_
    refine gx_then_ret ?_
    refine gx_ret1 (.inl rfl) Try.results41 rfl [] (by decide) ?_
    refine ⟨congrArg (Value.int .i64) ?_, rfl⟩
    unfold readyP
    rw [if_pos h20]
  · skip
    refine ga_first 7 #[true, true, true, true, true, true, true, true, false, false, false, false, false, false, false, false, false, false, false, false, false, false] rfl rfl rfl rfl (by kernel_rfl) rfl ⟨[], by decide, rfl⟩ (qt_rd (rd_move rfl)) ?_
    refine ga_firstY 8 #[true, true, true, true, true, true, true, true, true, false, false, false, false, false, false, false, false, false, false, false, false, false] rfl rfl rfl rfl rfl rfl (by kernel_rfl) rfl ⟨[], by decide, rfl⟩ (qt_rd (rd_move rfl)) ?_
    refine ga_firstY 9 #[true, true, true, true, true, true, true, true, true, true, false, false, false, false, false, false, false, false, false, false, false, false] rfl rfl rfl rfl rfl rfl (by kernel_rfl) rfl ⟨[], by decide, rfl⟩ (qt_rd (rd_nilCheck rfl)) ?_
    refine ga_firstY 10 #[true, true, true, true, true, true, true, true, true, true, true, false, false, false, false, false, false, false, false, false, false, false] rfl rfl rfl rfl rfl rfl (by kernel_rfl) rfl ⟨[], by decide, rfl⟩ (qt_rd (rd_fieldAddr rfl (fa_81_2 _))) ?_
    refine ga_firstY 11 #[true, true, true, true, true, true, true, true, true, true, true, true, false, false, false, false, false, false, false, false, false, false] rfl rfl rfl rfl rfl rfl (by kernel_rfl) rfl ⟨[], by decide, rfl⟩ (qt_rd (rd_load Try.underlying3 rfl rfl (ld_cells (j := 2) hs (by simp) rfl))) ?_
    refine ga_firstY 12 #[true, true, true, true, true, true, true, true, true, true, true, true, true, false, false, false, false, false, false, false, false, false] rfl rfl rfl rfl rfl rfl (by kernel_rfl) rfl ⟨[], by decide, rfl⟩ (qt_rd (rd_move rfl)) ?_
    refine ga_firstY 13 #[true, true, true, true, true, true, true, true, true, true, true, true, true, true, false, false, false, false, false, false, false, false] rfl rfl rfl rfl rfl rfl (by kernel_rfl) rfl ⟨[], by decide, rfl⟩ (qt_rd (rd_nilCheck rfl)) ?_
    refine ga_firstY 14 #[true, true, true, true, true, true, true, true, true, true, true, true, true, true, true, false, false, false, false, false, false, false] rfl rfl rfl rfl rfl rfl (by kernel_rfl) rfl ⟨[], by decide, rfl⟩ (qt_rd (rd_fieldAddr rfl (fa_81_1 _))) ?_
    refine ga_firstY 15 #[true, true, true, true, true, true, true, true, true, true, true, true, true, true, true, true, false, false, false, false, false, false] rfl rfl rfl rfl rfl rfl (by kernel_rfl) rfl ⟨[], by decide, rfl⟩ (qt_rd (rd_load Try.underlying25 rfl rfl (ld_cells (j := 1) hs (by simp) rfl))) ?_
    refine ga_firstY 16 #[true, true, true, true, true, true, true, true, true, true, true, true, true, true, true, true, true, false, false, false, false, false] rfl rfl rfl rfl rfl rfl (by kernel_rfl) rfl ⟨[], by decide, rfl⟩ (qt_rd (rd_nilCheck rfl)) ?_
    refine ga_firstY 17 #[true, true, true, true, true, true, true, true, true, true, true, true, true, true, true, true, true, true, false, false, false, false] rfl rfl rfl rfl rfl rfl (by kernel_rfl) rfl ⟨[], by decide, rfl⟩ (qt_rd (rd_fieldAddr rfl (fa_72_7 _))) ?_
    refine ga_firstY 18 #[true, true, true, true, true, true, true, true, true, true, true, true, true, true, true, true, true, true, true, false, false, false] rfl rfl rfl rfl rfl rfl (by kernel_rfl) rfl ⟨[], by decide, rfl⟩ (qt_rd (rd_load Try.underlying3 rfl rfl (ld_cells (j := 7) hc (by simp) rfl))) ?_
    refine ga_firstY 19 #[true, true, true, true, true, true, true, true, true, true, true, true, true, true, true, true, true, true, true, true, false, false] rfl rfl rfl rfl rfl rfl (by kernel_rfl) rfl ⟨[], by decide, rfl⟩ (qt_rd (rd_neq rfl rfl)) (gk_dec (fun h33 => ?_) (fun h33 => ?_))
    · skip
      refine ga_first 20 #[true, true, true, true, true, true, true, true, true, true, true, true, true, true, true, true, true, true, true, true, true, false] rfl rfl rfl rfl (by kernel_rfl) rfl ⟨[], by decide, rfl⟩ (qt_rd (rd_pick_f rfl rfl)) ?_
      refine ga_first 21 #[true, true, true, true, true, true, true, true, true, true, true, true, true, true, true, true, true, true, true, true, true, true] rfl rfl rfl rfl (by kernel_rfl) rfl ⟨[], by decide, rfl⟩ (qt_rd (rd_assign rfl)) ?_
      refine ga_end (by kernel_rfl) (.inr ⟨[], by decide, rfl⟩) ?_
      refine gx_then ?_
      refine gc_cond_t rfl ?_
      refine gc_seq ?_
      refine gc_region ?_
      refine gl_op (op_rd rfl (rd_assign rfl) ?_)
      refine gl_nil ?_
      refine gx_then ?_
      refine gc_ret ?_
      refine gx_block_ret ?_
      refine gx_then_ret ?_
      refine gx_ret1 (.inl rfl) Try.results41 rfl [] (by decide) ?_
      refine ⟨congrArg (Value.int .i64) ?_, rfl⟩
      unfold readyP
      rw [if_neg (by rw [h20]; decide), if_pos (by omega)]
    · skip
      refine ga_first 20 #[true, true, true, true, true, true, true, true, true, true, true, true, true, true, true, true, true, true, true, true, true, false] rfl rfl rfl rfl (by kernel_rfl) rfl ⟨[], by decide, rfl⟩ (qt_rd (rd_pick_f rfl rfl)) ?_
      refine ga_first 21 #[true, true, true, true, true, true, true, true, true, true, true, true, true, true, true, true, true, true, true, true, true, true] rfl rfl rfl rfl (by kernel_rfl) rfl ⟨[], by decide, rfl⟩ (qt_rd (rd_assign rfl)) ?_
      refine ga_end (by kernel_rfl) (.inr ⟨[], by decide, rfl⟩) ?_
      refine gx_then ?_
      refine gc_cond_f rfl ?_
      refine gc_skip ?_
      refine gx_block ?_
      refine gx_then ?_
      refine gc_seq ?_
      refine gc_region ?_
      refine gl_op (op_rd rfl (rd_assign rfl) ?_)
      refine gl_nil ?_
      refine gx_then ?_
      refine gc_ret ?_
      refine gx_ret1 (.inl rfl) Try.results41 rfl [] (by decide) ?_
      refine ⟨congrArg (Value.int .i64) ?_, rfl⟩
      unfold readyP
      rw [if_neg (by rw [h20]; decide), if_neg (by omega)]

set_option maxRecDepth 100000 in
set_option maxHeartbeats 1000000 in
theorem most_q (f : Fl) (hf : f.Ok) (bs bf : Nat) (rb : Option Nat) (cb : Nat) (rp : Option Nat) (cp : Nat) (id bm num : Nat) (free : Int) (w0 : World) (hs : Cells w0 ⟨bs, 0, none⟩ [.bool true, .pointer (some ⟨bf, 0, none⟩), natV id, .map (some bm), .int .u32 (num : Nat), .int .i64 free]) (hc : Cells w0 ⟨bf, 0, none⟩ (f.cells rb cb rp cp)) : Sp Try.prog 47 [.pointer (some ⟨bs, 0, none⟩)] w0 [] (RV (natV (10 * (f.b.length / 256 - 2)))) := by
  have hbl := hf.hi
  have hbl0 := hf.lo
  refine spec_enter Try.func47 rfl Try.ntmps47 rfl (Own.refl _) ?_
  simp only [argEnv]
  refine gc_seq ?_
  refine gc_region ?_
  refine gl_op (op_rd rfl (rd_assign rfl) ?_)
  refine gl_nil ?_
  refine gx_then ?_
  refine gc_seq ?_
  refine gc_region ?_
  refine gl_op (op_rd rfl (rd_move rfl) ?_)
  refine gl_op (op_rd rfl (rd_nilCheck rfl) ?_)
  refine gl_op (op_rd rfl (rd_fieldAddr rfl (fa_81_1 _)) ?_)
  refine gl_op (op_rd rfl (rd_load Try.underlying25 rfl rfl (ld_cells (j := 1) hs (by simp) rfl)) ?_)
  refine gl_op (op_call rfl (vf := []) (vc := []) rfl rfl Try.call33 (fun w1 ho => Blocks_q f hf bf rb cb rp cp w1 (hc.at ho)) ?_)
  rintro _ _ ⟨rfl, rfl⟩
  refine gl_op (op_rd rfl (by first | exact rd_subN (b := 2) rfl rfl (by omega) (by omega) | exact rd_sub rfl rfl (by omega) (by omega)) ?_)
  refine gl_op (op_rd rfl (by first | exact rd_mulN (a := 10) rfl rfl (by omega) | exact rd_mul rfl rfl (by omega) (by omega)) ?_)
  refine gl_op (op_rd rfl (rd_assign rfl) ?_)
  refine gl_nil ?_
  refine gx_then ?_
  refine gc_ret ?_
  refine gx_ret1 (.inl rfl) Try.results47 rfl [] (by decide) ?_
  exact ⟨rfl, rfl⟩

theorem unpack_bad (zs : List Nat) (hz : ∀ z ∈ zs, z < 256) (hlen : zs.length = 24) (a : Option Addr) (ca : Nat) (hca : 24 ≤ ca) (w0 : World) (hsl : OldSl w0 [] a 24 1 (zs.map u8V)) (hb : badP zs = true) : Sp Try.prog 66 [.slice a 24 ca] w0 [] (RV (.tuple #[.agg #[.int .i64 0, .int .u32 0, .slice none 0 0], .bool false])) := by
  refine (unpack_ok zs hz hlen a ca hca w0 hsl).mono ?_
  rintro v L (⟨_, rfl, rfl⟩ | ⟨h, _⟩)
  · exact ⟨rfl, rfl⟩
  · rw [hb] at h; cases h

set_option maxRecDepth 100000 in
set_option maxHeartbeats 1000000 in
theorem scan_none (f : Fl) (hf : f.Ok) (bs bf : Nat) (rb : Option Nat) (cb : Nat) (rp : Option Nat) (cp : Nat) (id num : Nat) (mv : Option Nat) (free but : Int) (S : List Nat) (w0 : World) (hown : Own w0 S w0 (.blk bs [.bool true, .pointer (some ⟨bf, 0, none⟩), natV id, .map mv, .int .u32 (num : Nat), .int .i64 free] 81 :: FlH bf rb cb rp cp f)) (hbad : ∀ bk sl, bk < f.b.length / 256 → sl < 10 → badP ((f.b.drop (bk * 256 + sl * 24)).take 24) = true) : Sp Try.prog 39 [.pointer (some ⟨bs, 0, none⟩), .int .i64 but] w0 S (fun v L => ∃ bm : Nat, v = .tuple #[] ∧ L = .blk bs [.bool true, .pointer (some ⟨bf, 0, none⟩), natV id, .map (some bm), .int .u32 (num : Nat), .int .i64 free] 81 :: .obj bm (.map ([] : List MapEntry).toArray 0) :: FlH bf rb cb rp cp f) := by
  have hbl := hf.hi
  have hbl0 := hf.lo
  have hblm := hf.len
  obtain ⟨gb, rfl, hcb⟩ := row_some (hown.holds (.row 5 1 rb f.b.length cb (f.b.map u8V)) (by simp)) (by omega)
  refine spec_enter Try.func39 rfl Try.ntmps39 rfl hown ?_
  simp only [argEnv]
  refine gc_seq ?_
  refine gc_region ?_
  refine gl_op (op_rd rfl (rd_move rfl) ?_)
  refine gl_op (op_makeMapV rfl (fun b12 => ?_))
  refine gl_op (op_rd rfl (rd_nilCheck rfl) ?_)
  refine gl_op (op_rd rfl (rd_fieldAddr rfl (fa_81_3 _)) ?_)
  first | refine gl_op (op_store 1 ty_78 rfl rfl rfl rfl rfl (by first | rfl | (simp only [List.set_cons_succ, List.set_cons_zero]; exact rfl)) (by first | rfl | (simp only [List.set_cons_succ, List.set_cons_zero]; exact rfl)) ?_) | refine gl_op (op_store 2 ty_78 rfl rfl rfl rfl rfl (by first | rfl | (simp only [List.set_cons_succ, List.set_cons_zero]; exact rfl)) (by first | rfl | (simp only [List.set_cons_succ, List.set_cons_zero]; exact rfl)) ?_) | refine gl_op (op_storeRow 3 ty_78 rfl rfl rfl rfl (by simp; omega) (by first | rfl | (simp only [List.set_cons_succ, List.set_cons_zero]; exact rfl)) ?_) | refine gl_op (op_storeRow 4 ty_78 rfl rfl rfl rfl (by simp; omega) (by first | rfl | (simp only [List.set_cons_succ, List.set_cons_zero]; exact rfl)) ?_)
  refine gl_nil ?_
  refine gx_then ?_
  refine gc_seq ?_
  refine gc_region ?_
  refine gl_op (op_rd rfl (rd_move rfl) ?_)
  refine gl_op (op_rd rfl (rd_nilCheck rfl) ?_)
  refine gl_op (op_rd rfl (rd_fieldAddr rfl (fa_81_1 _)) ?_)
  refine gl_op (op_rd rfl (rd_load Try.underlying25 rfl rfl (by first | exact ld_blk 1 rfl rfl | exact ld_blk 2 rfl rfl | exact ld_old (by assumption) (by simp) | exact ld_cells (by assumption) (by simp) rfl)) ?_)
  refine gl_op (op_call rfl (vf := []) (vc := []) rfl rfl Try.call33 (fun w1 ho => Blocks_q f hf bf (some gb) cb rp cp w1 (ho.blkCells 2 rfl)) ?_)
  rintro _ _ ⟨rfl, rfl⟩
  refine gl_op (op_rd rfl (rd_move rfl) ?_)
  refine gl_nil ?_
  refine gx_then ?_
  refine gc_block ?_
  refine gc_loopF (ι := Nat) [(0, _), (1, _), (19, _)] [_, _, _, _, _] (fun j => j ≤ f.b.length / 256) (fun j Fr0 => ((20, natV j) :: Fr0)) (fun j Fr0 => Fr0) (fun j => f.b.length / 256 - j) 0 (Nat.zero_le _) ⟨rfl, rfl, rfl, rfl, trivial⟩ ⟨[0, 1, 2, 3, 4], by decide, rfl⟩ ?_
  rintro j hj
  refine gc_seq ?_
  refine gc_region ?_
  refine gl_op (op_rd rfl (rd_lss rfl rfl) (gk_dec (fun h21 => ?_) (fun h21 => ?_)))
  · skip
    refine gl_nil ?_
    refine gx_then ?_
    refine gc_seq ?_
    refine gc_cond_t rfl ?_
    refine gc_skip ?_
    refine gx_then ?_
    refine gc_seq ?_
    refine gc_block ?_
    refine gc_seq ?_
    refine gc_region ?_
    refine gl_op (op_rd rfl (rd_move rfl) ?_)
    refine gl_op (op_rd rfl (rd_assign rfl) ?_)
    refine gl_nil ?_
    refine gx_then ?_
    refine gc_seq ?_
    refine gc_region ?_
    refine gl_op (op_rd rfl (rd_move rfl) ?_)
    refine gl_nil ?_
    refine gx_then ?_
    refine gc_block ?_
    refine gc_loopF (ι := Nat) [(0, _), (1, _), (4, _), (19, _), (20, _)] [_, _, _, _, _] (fun q => q ≤ 10) (fun q Fr0 => ((23, natV q) :: Fr0)) (fun q Fr0 => Fr0) (fun q => 10 - q) 0 (Nat.zero_le _) ⟨rfl, rfl, rfl, rfl, rfl, rfl, trivial⟩ ⟨[0, 1, 2, 3, 4], by decide, rfl⟩ ?_
    rintro q hq
    refine gc_seq ?_
    refine gc_region ?_
    refine gl_op (op_rd rfl (rd_lss rfl rfl) (gk_dec (fun h24 => ?_) (fun h24 => ?_)))
    · skip
      have hpl : ((f.b.drop (j * 256 + q * 24)).take 24).length = 24 := by simp; omega
      refine gl_nil ?_
      refine gx_then ?_
      refine gc_seq ?_
      refine gc_cond_t rfl ?_
      refine gc_skip ?_
      refine gx_then ?_
      refine gc_seq ?_
      refine gc_block ?_
      refine gc_seq ?_
      refine gc_region ?_
      refine gl_op (op_rd rfl (rd_move rfl) ?_)
      refine gl_op (op_rd rfl (rd_assign rfl) ?_)
      refine gl_nil ?_
      refine gx_then ?_
      refine gc_seq ?_
      refine gc_region ?_
      refine gl_op (op_rd rfl (rd_move rfl) ?_)
      refine gl_op (op_rd rfl (rd_move rfl) ?_)
      refine gl_op (op_rd rfl (rd_build rfl (fun _ => bd_94_0_1 _ _)) ?_)
      refine gl_op (op_alloc ty_94 rfl rfl (fun b6 => ?_))
      first | refine gl_op (op_storeAgg 0 ty_94 rfl rfl rfl rfl rfl rfl (by first | rfl | (simp only [List.set_cons_succ, List.set_cons_zero]; exact rfl)) ?_) | refine gl_op (op_storeAgg 2 ty_94 rfl rfl rfl rfl rfl rfl (by first | rfl | (simp only [List.set_cons_succ, List.set_cons_zero]; exact rfl)) ?_) | refine gl_op (op_storeAgg 3 ty_94 rfl rfl rfl rfl rfl rfl (by first | rfl | (simp only [List.set_cons_succ, List.set_cons_zero]; exact rfl)) ?_) | refine gl_op (op_storeRowAgg 4 ty_94 rfl rfl rfl rfl rfl (by simp; omega) (by first | rfl | (simp only [List.set_cons_succ, List.set_cons_zero]; exact rfl)) ?_) | refine gl_op (op_storeRowAgg 5 ty_94 rfl rfl rfl rfl rfl (by simp; omega) (by first | rfl | (simp only [List.set_cons_succ, List.set_cons_zero]; exact rfl)) ?_)
      refine gl_nil ?_
      refine gx_then ?_
      refine gc_seq ?_
      refine gc_drawP [0, 1, 2, 3, 4, 5] false 12 rfl ?_
      refine ga_first 0 #[true, false, false, false, false, false, false, false, false, false, false, false, false] rfl rfl rfl rfl (by kernel_rfl) rfl ⟨[0, 1, 2, 3, 4, 5], by decide, rfl⟩ (qt_rd (rd_move rfl)) ?_
      refine ga_first 1 #[true, true, false, false, false, false, false, false, false, false, false, false, false] rfl rfl rfl rfl (by kernel_rfl) rfl ⟨[0, 1, 2, 3, 4, 5], by decide, rfl⟩ (qt_rd (rd_nilCheck rfl)) ?_
      refine ga_first 2 #[true, true, true, false, false, false, false, false, false, false, false, false, false] rfl rfl rfl rfl (by kernel_rfl) rfl ⟨[0, 1, 2, 3, 4, 5], by decide, rfl⟩ (qt_rd (rd_fieldAddr rfl (fa_81_1 _))) ?_
      refine ga_first 3 #[true, true, true, true, false, false, false, false, false, false, false, false, false] rfl rfl rfl rfl (by kernel_rfl) rfl ⟨[0, 1, 2, 3, 4, 5], by decide, rfl⟩ (qt_rd (rd_load Try.underlying25 rfl rfl (by first | exact ld_blk 0 rfl rfl | exact ld_blk 2 rfl rfl | exact ld_blk 3 rfl rfl | exact ld_old (by assumption) (by simp) | exact ld_cells (by assumption) (by simp) rfl))) ?_
      refine ga_first 4 #[true, true, true, true, true, false, false, false, false, false, false, false, false] rfl rfl rfl rfl (by kernel_rfl) rfl ⟨[0, 1, 2, 3, 4, 5], by decide, rfl⟩ (qt_rd (rd_loadAgg Try.underlying94 rfl ty_94 rfl (by first | exact cs_blk 0 (off := 0) (k := 2) rfl rfl | exact cs_blk 2 (off := 0) (k := 2) rfl rfl | exact cs_blk 3 (off := 0) (k := 2) rfl rfl | exact cs_old (by assumption) (by simp)) rfl)) ?_
      refine ga_first 5 #[true, true, true, true, true, true, false, false, false, false, false, false, false] rfl rfl rfl rfl (by kernel_rfl) rfl ⟨[0, 1, 2, 3, 4, 5], by decide, rfl⟩ (qt_call (vf := []) (vc := []) rfl rfl Try.call67 (fun w1 ho => slot_q f hf bf gb cb rp cp w1 (ho.blkCells 3 rfl) hcb j q (by omega)) (by rintro _ _ ⟨h, _⟩; exact h)) ?_
      refine ga_first 6 #[true, true, true, true, true, true, true, false, false, false, false, false, false] rfl rfl rfl rfl (by kernel_rfl) rfl ⟨[0, 1, 2, 3, 4, 5], by decide, rfl⟩ (qt_call (vf := []) (vc := []) rfl rfl Try.call66 (fun w1 ho => unpack_bad ((f.b.drop (j * 256 + q * 24)).take 24) (fun z hz => hf.bs z (List.mem_of_mem_drop (List.mem_of_mem_take hz))) hpl (some ⟨gb, j * 256 + q * 24, none⟩) (cb - (j * 256 + q * 24)) (by omega) w1 (by rw [← part_u8]; exact slPart (ho.rowSl 4 rfl) (j * 256 + q * 24) 24 (by omega)) (hbad j q (by omega) (by omega))) (by rintro _ _ ⟨h, _⟩; exact h)) ?_
      refine ga_first 7 #[true, true, true, true, true, true, true, true, false, false, false, false, false] rfl rfl rfl rfl (by kernel_rfl) rfl ⟨[0, 1, 2, 3, 4, 5], by decide, rfl⟩ (qt_rd (rd_move rfl)) ?_
      refine ga_first 8 #[true, true, true, true, true, true, true, true, true, false, false, false, false] rfl rfl rfl rfl (by kernel_rfl) rfl ⟨[0, 1, 2, 3, 4, 5], by decide, rfl⟩ (qt_rd (rd_extract rfl rfl)) ?_
      refine ga_first 9 #[true, true, true, true, true, true, true, true, true, true, false, false, false] rfl rfl rfl rfl (by kernel_rfl) rfl ⟨[0, 1, 2, 3, 4, 5], by decide, rfl⟩ (qt_rd (rd_extract rfl rfl)) ?_
      refine ga_only 10 #[true, true, true, true, true, true, true, true, true, true, true, false, false] rfl rfl (by kernel_rfl) rfl (.inr ⟨[0, 1, 2, 3, 4, 5], by decide, rfl⟩) (op_alloc ty_92 rfl rfl (fun b7 => ?_))
      first | refine ga_only 11 #[true, true, true, true, true, true, true, true, true, true, true, true, false] rfl rfl (by kernel_rfl) rfl (.inr ⟨[1, 2, 3, 4, 5, 6], by decide, rfl⟩) (op_storeAgg 0 ty_92 rfl rfl rfl rfl rfl rfl (by first | rfl | (simp only [List.set_cons_succ, List.set_cons_zero]; exact rfl)) ?_) | refine ga_only 11 #[true, true, true, true, true, true, true, true, true, true, true, true, false] rfl rfl (by kernel_rfl) rfl (.inr ⟨[1, 2, 3, 4, 5, 6], by decide, rfl⟩) (op_storeAgg 1 ty_92 rfl rfl rfl rfl rfl rfl (by first | rfl | (simp only [List.set_cons_succ, List.set_cons_zero]; exact rfl)) ?_) | refine ga_only 11 #[true, true, true, true, true, true, true, true, true, true, true, true, false] rfl rfl (by kernel_rfl) rfl (.inr ⟨[1, 2, 3, 4, 5, 6], by decide, rfl⟩) (op_storeAgg 3 ty_92 rfl rfl rfl rfl rfl rfl (by first | rfl | (simp only [List.set_cons_succ, List.set_cons_zero]; exact rfl)) ?_) | refine ga_only 11 #[true, true, true, true, true, true, true, true, true, true, true, true, false] rfl rfl (by kernel_rfl) rfl (.inr ⟨[1, 2, 3, 4, 5, 6], by decide, rfl⟩) (op_storeAgg 4 ty_92 rfl rfl rfl rfl rfl rfl (by first | rfl | (simp only [List.set_cons_succ, List.set_cons_zero]; exact rfl)) ?_) | refine ga_only 11 #[true, true, true, true, true, true, true, true, true, true, true, true, false] rfl rfl (by kernel_rfl) rfl (.inr ⟨[1, 2, 3, 4, 5, 6], by decide, rfl⟩) (op_storeRowAgg 5 ty_92 rfl rfl rfl rfl rfl (by simp; omega) (by first | rfl | (simp only [List.set_cons_succ, List.set_cons_zero]; exact rfl)) ?_) | refine ga_only 11 #[true, true, true, true, true, true, true, true, true, true, true, true, false] rfl rfl (by kernel_rfl) rfl (.inr ⟨[1, 2, 3, 4, 5, 6], by decide, rfl⟩) (op_storeRowAgg 6 ty_92 rfl rfl rfl rfl rfl (by simp; omega) (by first | rfl | (simp only [List.set_cons_succ, List.set_cons_zero]; exact rfl)) ?_)
      refine ga_only 12 #[true, true, true, true, true, true, true, true, true, true, true, true, true] rfl rfl (by kernel_rfl) rfl (.inr ⟨[1, 2, 3, 4, 5, 6], by decide, rfl⟩) (op_rd rfl (rd_assign rfl) ?_)
      refine ga_end (by kernel_rfl) (.inl (by kernel_rfl)) ?_
      refine gx_then ?_
      refine gc_seq ?_
      refine gc_seq ?_
      refine gc_region ?_
      refine gl_op (op_rd rfl (rd_move rfl) ?_)
      refine gl_op (op_rd rfl (rd_not rfl) ?_)
      refine gl_op (op_rd rfl (rd_move rfl) ?_)
      refine gl_no rfl rfl rfl ?_
      refine gl_no rfl rfl rfl ?_
      refine gl_no rfl rfl rfl ?_
      refine gl_op (op_rd rfl (rd_pick_t rfl rfl) ?_)
      refine gl_nil ?_
      refine gx_then ?_
      refine gc_cond_t rfl ?_
      refine gc_exit ?_
      refine gx_then_exit ?_
      refine gx_block_exit ?_
      refine gx_then ?_
      refine gc_region ?_
      refine gl_op (op_rd rfl (by first | exact rd_addN (b := 1) rfl rfl (by omega) | exact rd_add rfl rfl (by omega) (by omega)) ?_)
      refine gl_op (op_rd rfl (rd_move rfl) ?_)
      refine gl_nil ?_
      refine gx_then ?_
      exact gx_cut (q + 1) ⟨by omega, by omega⟩ ⟨rfl, rfl, rfl, rfl, rfl, rfl, trivial⟩ ⟨[2, 3, 4, 5, 6], by decide, rfl⟩
    · skip
      refine gl_nil ?_
      refine gx_then ?_
      refine gc_seq ?_
      refine gc_cond_f rfl ?_
      refine gc_exit ?_
      refine gx_then_exit ?_
      refine gx_then_exit ?_
      refine gx_block_exit ?_
      refine gx_block ?_
      refine gx_then ?_
      refine gc_region ?_
      refine gl_op (op_rd rfl (by first | exact rd_addN (b := 1) rfl rfl (by omega) | exact rd_add rfl rfl (by omega) (by omega)) ?_)
      refine gl_op (op_rd rfl (rd_move rfl) ?_)
      refine gl_nil ?_
      refine gx_then ?_
      exact gx_cut (j + 1) ⟨by omega, by omega⟩ ⟨rfl, rfl, rfl, rfl, trivial⟩ ⟨[0, 1, 2, 3, 4], by decide, rfl⟩
  · skip
    refine gl_nil ?_
    refine gx_then ?_
    refine gc_seq ?_
    refine gc_cond_f rfl ?_
    refine gc_exit ?_
    refine gx_then_exit ?_
    refine gx_then_exit ?_
    refine gx_block_exit ?_
    refine gx_ret0 (.inr rfl) Try.results39 [1, 0, 2, 3, 4] (by decide) ?_
    exact ⟨b12, rfl, rfl⟩

end Go.Proofs.Ythcbcdjkfefnlaa

set_option autoImplicit false
set_option linter.unusedVariables false
namespace Go.Proofs.Ythcbcdjkfefnlaa
open Go.Gv
open Go.RowKit
open Iv
set_option maxRecDepth 100000 in
set_option maxHeartbeats 1000000 in
theorem Open_blank (f : Fl) (hf : f.Ok) (bf : Nat) (rb : Option Nat) (cb : Nat) (rp : Option Nat) (cp : Nat) (S : List Nat) (w0 : World) (hown : Own w0 S w0 (FlH bf rb cb rp cp f)) (hst : f.st + 1 < 4611686018427387904) (hdn : f.down = false) (hblank : f.b = List.replicate f.b.length 255) : Sp Try.prog 11 [.pointer (some ⟨bf, 0, none⟩)] w0 S (fun v L => ∃ bs bm : Nat, v = .tuple #[.pointer (some ⟨bs, 0, none⟩), .int .i64 0] ∧ L = .blk bs [.bool true, .pointer (some ⟨bf, 0, none⟩), natV (f.st + 1), .map (some bm), .int .u32 ((0 : Nat) : Int), .int .i64 ((f.b.length / 256 : Nat) - 1)] 81 :: .obj bm (.map ([] : List MapEntry).toArray 0) :: FlH bf rb cb rp cp { f with st := f.st + 1 }) := by
  have hbl := hf.hi
  have hbl0 := hf.lo
  have hblm := hf.len
  have hf1 : ({ f with st := f.st + 1 } : Fl).Ok := ⟨hf.bs, hf.ps, hf.len, hf.lo, hf.hi, hf.pl, hf.pr, hf.er, hst, hf.l0, hf.l1⟩
  refine spec_enter Try.func11 rfl Try.ntmps11 rfl hown ?_
  simp only [argEnv]
  refine gc_seq ?_
  refine gc_region ?_
  refine gl_op (op_rd rfl (rd_assign rfl) ?_)
  refine gl_op (op_rd rfl (rd_assign rfl) ?_)
  refine gl_nil ?_
  refine gx_then ?_
  refine gc_seq ?_
  refine gc_block ?_
  refine gc_seq ?_
  refine gc_region ?_
  refine gl_op (op_rd rfl (rd_move rfl) ?_)
  refine gl_op (op_call rfl (vf := []) (vc := []) rfl rfl Try.call37 (fun w1 ho => none_q f hf bf rb cb rp cp w1 (ho.blkCells 0 rfl)) ?_)
  rintro _ _ ⟨rfl, rfl⟩
  refine gl_op (op_rd rfl (rd_assign rfl) ?_)
  refine gl_nil ?_
  refine gx_then ?_
  refine gc_cond_f rfl ?_
  refine gc_seq ?_
  refine gc_region ?_
  refine gl_op (op_rd rfl (rd_move rfl) ?_)
  refine gl_op (op_rd rfl (rd_nilCheck rfl) ?_)
  refine gl_op (op_rd rfl (rd_fieldAddr rfl (fa_72_4 _)) ?_)
  refine gl_op (op_rd rfl (rd_load Try.underlying4 rfl rfl (by first | exact ld_blk 0 rfl rfl | exact ld_rowN 1 rfl (get_bools (by omega)) | exact ld_rowN 2 rfl (get_bools (by omega)) | exact ld_slN (by assumption) (get_bools (by omega)) | exact ld_old (by assumption) (by simp) | exact ld_cells (by assumption) (by simp) rfl)) ?_)
  refine gk_bool (fun hd => ?_) (fun hd => ?_)
  · skip
    rw [hdn] at hd; cases hd
  · skip
    refine gl_op (op_rd rfl (rd_assign rfl) ?_)
    refine gl_nil ?_
    refine gx_then ?_
    refine gc_cond_f rfl ?_
    refine gc_skip ?_
    refine gx_block ?_
    refine gx_then ?_
    refine gc_seq ?_
    refine gc_region ?_
    refine gl_op (op_rd rfl (rd_move rfl) ?_)
    refine gl_op (op_rd rfl (rd_nilCheck rfl) ?_)
    refine gl_op (op_rd rfl (rd_fieldAddr rfl (fa_72_7 _)) ?_)
    refine gl_op (op_rd rfl (rd_load Try.underlying3 rfl rfl (by first | exact ld_blk 0 rfl rfl | exact ld_rowN 1 rfl (get_nats (by omega)) | exact ld_rowN 2 rfl (get_nats (by omega)) | exact ld_slN (by assumption) (get_nats (by omega)) | exact ld_rowN 1 rfl (get_ints (by omega)) | exact ld_rowN 2 rfl (get_ints (by omega)) | exact ld_slN (by assumption) (get_ints (by omega)) | exact ld_old (by assumption) (by simp) | exact ld_cells (by assumption) (by simp) rfl)) ?_)
    refine gl_op (op_rd rfl (by first | exact rd_addN (b := 1) rfl rfl (by omega) | exact rd_add rfl rfl (by omega) (by omega)) ?_)
    refine gl_op (op_rd rfl (rd_nilCheck rfl) ?_)
    refine gl_op (op_rd rfl (rd_fieldAddr rfl (fa_72_7 _)) ?_)
    first | refine gl_op (op_store 0 ty_3 rfl rfl rfl rfl rfl (by first | rfl | (simp only [List.set_cons_succ, List.set_cons_zero]; exact rfl)) (by first | rfl | (simp only [List.set_cons_succ, List.set_cons_zero]; exact rfl)) ?_) | refine gl_op (op_storeRow 1 ty_3 rfl rfl rfl rfl (by simp; omega) (by first | rfl | (simp only [List.set_cons_succ, List.set_cons_zero]; exact rfl)) ?_) | refine gl_op (op_storeRow 2 ty_3 rfl rfl rfl rfl (by simp; omega) (by first | rfl | (simp only [List.set_cons_succ, List.set_cons_zero]; exact rfl)) ?_)
    refine gl_nil ?_
    refine gx_then ?_
    refine gc_seq ?_
    refine gc_region ?_
    refine gl_op (op_rd rfl (rd_move rfl) ?_)
    refine gl_op (op_rd rfl (rd_move rfl) ?_)
    refine gl_op (op_rd rfl (rd_nilCheck rfl) ?_)
    refine gl_op (op_rd rfl (rd_fieldAddr rfl (fa_72_7 _)) ?_)
    refine gl_op (op_rd rfl (rd_load Try.underlying3 rfl rfl (by first | exact ld_blk 0 rfl rfl | exact ld_rowN 1 rfl (get_nats (by omega)) | exact ld_rowN 2 rfl (get_nats (by omega)) | exact ld_slN (by assumption) (get_nats (by omega)) | exact ld_rowN 1 rfl (get_ints (by omega)) | exact ld_rowN 2 rfl (get_ints (by omega)) | exact ld_slN (by assumption) (get_ints (by omega)) | exact ld_old (by assumption) (by simp) | exact ld_cells (by assumption) (by simp) rfl)) ?_)
    refine gl_op (op_rd rfl (rd_build rfl (fun _ => bd_81_0_1_2_5 _ _ _ _)) ?_)
    refine gl_op (op_box rfl rfl rfl (fun b29 => ?_))
    refine gl_op (op_rd rfl (rd_assign rfl) ?_)
    refine gl_nil ?_
    refine gx_then ?_
    refine gc_seq ?_
    refine gc_seq ?_
    refine gc_region ?_
    refine gl_op (op_rd rfl (rd_move rfl) ?_)
    refine gl_op (op_call rfl (vf := []) (vc := []) rfl rfl Try.call33 (fun w1 ho => Blocks_q { f with st := f.st + 1 } hf1 bf rb cb rp cp w1 (ho.blkCells 1 rfl)) ?_)
    rintro _ _ ⟨rfl, rfl⟩
    refine gl_op (op_rd rfl (rd_move rfl) ?_)
    refine gl_nil ?_
    refine gx_then ?_
    refine gc_block ?_
    refine gc_loopF (ι := Nat × Int) [(0, _), (4, _), (31, _)] [_, _, _] (fun j => j.1 ≤ f.b.length / 256 ∧ j.2 = (j.1 : Int) - 1) (fun j Fr0 => ((32, natV j.1) :: Fr0)) (fun j Fr0 => (.blk b29 [.bool true, .pointer (some ⟨bf, 0, none⟩), natV (f.st + 1), .map none, .int .u32 0, .int .i64 j.2] 81 :: Fr0)) (fun j => f.b.length / 256 - j.1) (0, -1) (⟨Nat.zero_le _, rfl⟩) ⟨rfl, rfl, rfl, rfl, trivial⟩ ⟨[0, 1, 2, 3], by decide, rfl⟩ ?_
    rintro ⟨j, fr⟩ ⟨hj, hfr⟩
    simp only at hj hfr ⊢
    refine gc_seq ?_
    refine gc_region ?_
    refine gl_op (op_rd rfl (rd_lss rfl rfl) (gk_dec (fun h33 => ?_) (fun h33 => ?_)))
    · skip
      refine gl_nil ?_
      refine gx_then ?_
      refine gc_seq ?_
      refine gc_cond_t rfl ?_
      refine gc_skip ?_
      refine gx_then ?_
      refine gc_seq ?_
      refine gc_block ?_
      refine gc_seq ?_
      refine gc_region ?_
      refine gl_op (op_rd rfl (rd_move rfl) ?_)
      refine gl_op (op_rd rfl (rd_assign rfl) ?_)
      refine gl_nil ?_
      refine gx_then ?_
      refine gc_seq ?_
      refine gc_region ?_
      refine gl_op (op_rd rfl (rd_move rfl) ?_)
      refine gl_op (op_rd rfl (rd_move rfl) ?_)
      refine gl_op (op_callM [1, 2, 3] [0] rfl (vf := []) (vc := []) rfl rfl Try.call38 (by decide) rfl (fun w how hc => isEmpty_ok { f with st := f.st + 1 } hf1 bf rb cb rp cp _ w hc j (by simp only; omega)) ?_)
      rintro _ _ ⟨rfl, rfl⟩
      rw [show decide (zerosP ((f.b.drop (j * 256)).take 256) = 0) = true by rw [hblank, drop_rep _ _ _ _ (by omega), zeros_rep]; rfl]
      refine gl_nil ?_
      refine gx_then ?_
      refine gc_cond_t rfl ?_
      refine gc_region ?_
      refine gl_op (op_rd rfl (rd_move rfl) ?_)
      refine gl_op (op_rd rfl (rd_move rfl) ?_)
      refine gl_op (op_rd rfl (rd_nilCheck rfl) ?_)
      refine gl_op (op_rd rfl (rd_fieldAddr rfl (fa_81_5 _)) ?_)
      first | refine gl_op (op_store 0 ty_3 rfl rfl rfl rfl rfl (by first | rfl | (simp only [List.set_cons_succ, List.set_cons_zero]; exact rfl)) (by first | rfl | (simp only [List.set_cons_succ, List.set_cons_zero]; exact rfl)) ?_) | refine gl_op (op_store 3 ty_3 rfl rfl rfl rfl rfl (by first | rfl | (simp only [List.set_cons_succ, List.set_cons_zero]; exact rfl)) (by first | rfl | (simp only [List.set_cons_succ, List.set_cons_zero]; exact rfl)) ?_) | refine gl_op (op_storeRow 1 ty_3 rfl rfl rfl rfl (by simp; omega) (by first | rfl | (simp only [List.set_cons_succ, List.set_cons_zero]; exact rfl)) ?_) | refine gl_op (op_storeRow 2 ty_3 rfl rfl rfl rfl (by simp; omega) (by first | rfl | (simp only [List.set_cons_succ, List.set_cons_zero]; exact rfl)) ?_)
      refine gl_nil ?_
      refine gx_block ?_
      refine gx_then ?_
      refine gc_region ?_
      refine gl_op (op_rd rfl (by first | exact rd_addN (b := 1) rfl rfl (by omega) | exact rd_add rfl rfl (by omega) (by omega)) ?_)
      refine gl_op (op_rd rfl (rd_move rfl) ?_)
      refine gl_nil ?_
      refine gx_then ?_
      exact gx_cut ((j + 1, (j : Int))) ⟨⟨by simp only; omega, by simp only; omega⟩, by simp only; omega⟩ ⟨rfl, rfl, rfl, rfl, trivial⟩ ⟨[3, 0, 1, 2], by decide, rfl⟩
    · skip
      refine gl_nil ?_
      refine gx_then ?_
      refine gc_seq ?_
      refine gc_cond_f rfl ?_
      refine gc_exit ?_
      refine gx_then_exit ?_
      refine gx_then_exit ?_
      refine gx_block_exit ?_
      refine gx_then ?_
      refine gc_seq ?_
      refine gc_seq ?_
      refine gc_region ?_
      refine gl_op (op_rd rfl (rd_assign rfl) ?_)
      refine gl_nil ?_
      refine gx_then ?_
      refine gc_block ?_
      refine gc_loopF (ι := Unit) [(0, _), (4, _)] [_, _, _, _] (fun _ => True) (fun _ Fr0 => ((6, natV 0) :: Fr0)) (fun _ Fr0 => Fr0) (fun _ => 0) () (trivial) ⟨rfl, rfl, rfl, trivial⟩ ⟨[0, 1, 2, 3], by decide, rfl⟩ ?_
      rintro _ _
      refine gc_seq ?_
      refine gc_seq ?_
      refine gc_region ?_
      refine gl_op (op_rd rfl (rd_move rfl) ?_)
      refine gl_op (op_rd rfl (rd_move rfl) ?_)
      refine gl_op (op_call rfl (vf := []) (vc := []) rfl rfl Try.call33 (fun w1 ho => Blocks_q { f with st := f.st + 1 } hf1 bf rb cb rp cp w1 (ho.blkCells 1 rfl)) ?_)
      rintro _ _ ⟨rfl, rfl⟩
      refine gl_op (op_rd rfl (rd_lss rfl rfl) (gk_dec (fun h46 => ?_) (fun h46 => ?_)))
      · skip
        refine gl_op (op_rd rfl (rd_move rfl) ?_)
        refine gl_yes rfl rfl (op_rd rfl (rd_move rfl) ?_)
        refine gl_yes rfl rfl (op_rd rfl (rd_nilCheck rfl) ?_)
        refine gl_yes rfl rfl (op_rd rfl (rd_fieldAddr rfl (fa_81_5 _)) ?_)
        refine gl_yes rfl rfl (op_rd rfl (rd_load Try.underlying3 rfl rfl (by first | exact ld_blk 0 rfl rfl | exact ld_blk 1 rfl rfl | exact ld_rowN 2 rfl (get_nats (by omega)) | exact ld_rowN 3 rfl (get_nats (by omega)) | exact ld_slN (by assumption) (get_nats (by omega)) | exact ld_rowN 2 rfl (get_ints (by omega)) | exact ld_rowN 3 rfl (get_ints (by omega)) | exact ld_slN (by assumption) (get_ints (by omega)) | exact ld_old (by assumption) (by simp) | exact ld_cells (by assumption) (by simp) rfl)) ?_)
        refine gl_yes rfl rfl (op_rd rfl (rd_lss rfl rfl) (gk_dec (fun h52 => ?_) (fun h52 => ?_)))
        · skip
          exfalso; omega
        · skip
          refine gl_op (op_rd rfl (rd_pick_t rfl rfl) ?_)
          refine gl_nil ?_
          refine gx_then ?_
          refine gc_cond_f rfl ?_
          refine gc_exit ?_
          refine gx_then_exit ?_
          refine gx_then_exit ?_
          refine gx_block_exit ?_
          refine gx_then ?_
          refine gc_seq ?_
          refine gc_seq ?_
          refine gc_region ?_
          refine gl_op (op_rd rfl (rd_move rfl) ?_)
          refine gl_op (op_rd rfl (rd_nilCheck rfl) ?_)
          refine gl_op (op_rd rfl (rd_fieldAddr rfl (fa_81_5 _)) ?_)
          refine gl_op (op_rd rfl (rd_load Try.underlying3 rfl rfl (by first | exact ld_blk 0 rfl rfl | exact ld_blk 1 rfl rfl | exact ld_rowN 2 rfl (get_nats (by omega)) | exact ld_rowN 3 rfl (get_nats (by omega)) | exact ld_slN (by assumption) (get_nats (by omega)) | exact ld_rowN 2 rfl (get_ints (by omega)) | exact ld_rowN 3 rfl (get_ints (by omega)) | exact ld_slN (by assumption) (get_ints (by omega)) | exact ld_old (by assumption) (by simp) | exact ld_cells (by assumption) (by simp) rfl)) ?_)
          refine gl_op (op_rd rfl (rd_lss rfl rfl) (gk_dec (fun h76 => ?_) (fun h76 => ?_)))
          · skip
            exfalso; omega
          · skip
            refine gl_nil ?_
            refine gx_then ?_
            refine gc_cond_f rfl ?_
            refine gc_skip ?_
            refine gx_then ?_
            refine gc_seq ?_
            refine gc_region ?_
            refine gl_op (op_rd rfl (rd_move rfl) ?_)
            refine gl_op (op_callM [0, 1, 2, 3] [] rfl (vf := []) (vc := []) rfl rfl Try.call39 (by decide) rfl (fun w how hc => scan_none { f with st := f.st + 1 } hf1 b29 bf rb cb rp cp (f.st + 1) 0 none fr (-1) _ w hc (fun bk sl h1 h2 => by simp only at h1 ⊢; rw [hblank, drop_rep _ _ _ _ (by omega)]; exact bad_rep)) ?_)
            rintro _ _ ⟨bm, rfl, rfl⟩
            refine gl_nil ?_
            refine gx_then ?_
            refine gc_seq ?_
            refine gc_region ?_
            refine gl_op (op_rd rfl (rd_move rfl) ?_)
            refine gl_op (op_rd rfl (rd_assign rfl) ?_)
            refine gl_op (op_rd rfl (rd_assign rfl) ?_)
            refine gl_nil ?_
            refine gx_then ?_
            refine gc_ret ?_
            refine gx_ret2 (.inl rfl) Try.results11 rfl rfl [0, 1, 2, 3, 4] (by decide) ?_
            exact ⟨b29, bm, rfl, by rw [hfr, show j = f.b.length / 256 by omega]; rfl⟩
      · skip
        exfalso
        simp only at h46
        omega

end Go.Proofs.Ythcbcdjkfefnlaa

set_option autoImplicit false
set_option linter.unusedVariables false
namespace Go.Proofs.Ythcbcdjkfefnlaa
open Go.Gv
open Go.RowKit
open Iv
namespace Iv
section
variable {P : Program} {n : Nat} {e : Env} {w0 : World} {S : List Nat} {l : List HL} {dst : Option Tmp} {ty : TypeId} {pos : String} {aft : Array Edge} {gd : Option (Nat × Bool)}
theorem rd_indexRS {t E : TypeId} {z : Value} {bytes : Nat} {x y : Operand} {g m cap : Nat} {k : IntKind} {i : Int} (hu : P.underlying t = some (.slice E)) (ht : TyF P E z 1 bytes) (hx : e.ev x = some (.slice (some ⟨g, 0, none⟩) m cap)) (hy : e.ev y = some (.int k i)) (h0 : 0 ≤ i) (h1 : i < m) :
    Rd P n e w0 S l ⟨dst, .indexAddr t x y, ty, pos, aft, gd⟩ (.pointer (some ⟨g, i.toNat, none⟩)) := by
  have h := rd_index1 (dst := dst) (ty := ty) (pos := pos) (aft := aft) (gd := gd) (n := n) (w0 := w0) (S := S) (l := l) hu ht hx hy h0 h1
  rwa [Addr.add_lit, Nat.zero_add] at h
end
theorem wrap8_mod (n : Nat) : IntKind.u8.wrap (n : Int) = ((n % 256 : Nat) : Int) := by
  unfold IntKind.wrap
  simp only [IntKind.signed, IntKind.bits, Bool.false_and, if_false, Bool.false_eq_true]
  omega
def pk1 (key len : Nat) : List Nat := (((List.replicate 24 255).set 0 (key >>> 8 % 256)).set 1 (key % 256)).set 2 (len % 256)
def pk2 (num : Nat) (b : List Nat) (n : Nat) : List Nat := (List.range n).foldl (fun b i => b.set (3 + i) ((num >>> (24 - 8 * i)) % 256)) b
def pk3 (vs b : List Nat) : List Nat := b.take 7 ++ vs ++ b.drop (7 + vs.length)
def packP (key num : Nat) (vs : List Nat) : List Nat := (pk3 vs (pk2 num (pk1 key vs.length) 4)).set 23 (zerosP ((pk3 vs (pk2 num (pk1 key vs.length) 4)).take 23))
theorem pk2_succ (num : Nat) (b : List Nat) (n : Nat) : pk2 num b (n + 1) = (pk2 num b n).set (3 + n) ((num >>> (24 - 8 * n)) % 256) := by unfold pk2; rw [List.range_succ, List.foldl_append]; rfl
theorem pk2_len (num : Nat) (b : List Nat) : ∀ n, (pk2 num b n).length = b.length
  | 0 => rfl
  | n + 1 => by rw [pk2_succ, List.length_set, pk2_len num b n]
theorem pk1_len (key len : Nat) : (pk1 key len).length = 24 := by unfold pk1; simp
theorem pk3_len {vs b : List Nat} (hb : b.length = 24) (hv : vs.length ≤ 16) : (pk3 vs b).length = 24 := by unfold pk3; simp; omega
theorem pack_len {key num : Nat} {vs : List Nat} (hv : vs.length ≤ 16) : (packP key num vs).length = 24 := by unfold packP; rw [List.length_set, pk3_len (by rw [pk2_len, pk1_len]) hv]
theorem pk1_lt (key len : Nat) (hk : key < 65536) : ∀ x ∈ pk1 key len, x < 256 := by
  unfold pk1
  refine set_lt (set_lt (set_lt (fun x hx => by rw [List.eq_of_mem_replicate hx]; decide) ?_) (Nat.mod_lt _ (by decide))) (Nat.mod_lt _ (by decide))
  exact Nat.mod_lt _ (by decide)
theorem pk2_lt (num : Nat) {b : List Nat} (h : ∀ x ∈ b, x < 256) : ∀ n, ∀ x ∈ pk2 num b n, x < 256
  | 0 => h
  | n + 1 => by rw [pk2_succ]; exact set_lt (pk2_lt num h n) (Nat.mod_lt _ (by decide))
theorem pk3_lt {vs b : List Nat} (h : ∀ x ∈ b, x < 256) (hv : ∀ x ∈ vs, x < 256) : ∀ x ∈ pk3 vs b, x < 256 := fun x hx => by
  unfold pk3 at hx
  rcases List.mem_append.1 hx with hx | hx
  · rcases List.mem_append.1 hx with hx | hx
    · exact h x (List.mem_of_mem_take hx)
    · exact hv x hx
  · exact h x (List.mem_of_mem_drop hx)
end Iv

set_option maxRecDepth 100000 in
set_option maxHeartbeats 1000000 in
theorem room0_q (f : Fl) (hf : f.Ok) (bs bf : Nat) (gb : Nat) (cb : Nat) (rp : Option Nat) (cp : Nat) (id bm num : Nat) (free : Int) (w0 : World) (hs : Cells w0 ⟨bs, 0, none⟩ [.bool true, .pointer (some ⟨bf, 0, none⟩), natV id, .map (some bm), .int .u32 (num : Nat), .int .i64 free]) (hc : Cells w0 ⟨bf, 0, none⟩ (f.cells (some gb) cb rp cp)) (hb : OldSl w0 [] (rowA (some gb)) f.b.length 1 (f.b.map u8V)) (hcb : f.b.length ≤ cb) (hblank : f.b = List.replicate f.b.length 255) (hfree : free ≠ 0) : Sp Try.prog 48 [.pointer (some ⟨bs, 0, none⟩)] w0 [] (RV (.tuple #[.agg #[natV 0, natV 0], .bool true])) := by
  have hbl := hf.hi
  have hbl0 := hf.lo
  refine spec_enter Try.func48 rfl Try.ntmps48 rfl (Own.refl _) ?_
  simp only [argEnv]
  refine gc_seq ?_
  refine gc_region ?_
  refine gl_op (op_alloc ty_94 rfl rfl (fun b2 => ?_))
  refine gl_op (op_rd rfl (rd_assign rfl) ?_)
  refine gl_nil ?_
  refine gx_then ?_
  refine gc_scope ?_
  refine gc_seq ?_
  refine gc_region ?_
  refine gl_op (op_alloc ty_94 rfl rfl (fun b4 => ?_))
  refine gl_nil ?_
  refine gx_then ?_
  refine gc_seq ?_
  refine gc_region ?_
  refine gl_op (op_rd rfl (rd_assign rfl) ?_)
  refine gl_nil ?_
  refine gx_then ?_
  refine gc_seq ?_
  refine gc_label ?_
  refine gx_then ?_
  refine gc_seq ?_
  refine gc_seq ?_
  refine gc_region ?_
  refine gl_op (op_rd rfl (rd_move rfl) ?_)
  refine gl_op (op_rd rfl (rd_nilCheck rfl) ?_)
  refine gl_op (op_rd rfl (rd_fieldAddr rfl (fa_81_1 _)) ?_)
  refine gl_op (op_rd rfl (rd_load Try.underlying25 rfl rfl (ld_cells (j := 1) hs (by simp) rfl)) ?_)
  refine gl_op (op_call rfl (vf := []) (vc := []) rfl rfl Try.call33 (fun w1 ho => Blocks_q f hf bf (some gb) cb rp cp w1 (hc.at ho)) ?_)
  rintro _ _ ⟨rfl, rfl⟩
  refine gl_op (op_rd rfl (rd_move rfl) ?_)
  refine gl_nil ?_
  refine gx_then ?_
  refine gc_block ?_
  refine gc_loopF (ι := Unit) [(0, _), (2, _), (4, _), (12, _)] [_, _] (fun _ => True) (fun _ Fr0 => ((13, natV 0) :: Fr0)) (fun _ Fr0 => Fr0) (fun _ => 0) () (trivial) ⟨rfl, rfl, rfl, rfl, rfl, trivial⟩ ⟨[0, 1], by decide, rfl⟩ ?_
  rintro _ _
  refine gc_seq ?_
  refine gc_region ?_
  refine gl_op (op_rd rfl (rd_lss rfl rfl) (gk_dec (fun h14 => ?_) (fun h14 => ?_)))
  · skip
    refine gl_nil ?_
    refine gx_then ?_
    refine gc_seq ?_
    refine gc_cond_t rfl ?_
    refine gc_skip ?_
    refine gx_then ?_
    refine gc_seq ?_
    refine gc_block ?_
    refine gc_seq ?_
    refine gc_region ?_
    refine gl_op (op_rd rfl (rd_move rfl) ?_)
    refine gl_op (op_rd rfl (rd_assign rfl) ?_)
    refine gl_nil ?_
    refine gx_then ?_
    refine gc_seq ?_
    refine gc_region ?_
    refine gl_op (op_rd rfl (rd_move rfl) ?_)
    refine gl_nil ?_
    refine gx_then ?_
    refine gc_block ?_
    refine gc_loopF (ι := Unit) [(0, _), (2, _), (4, _), (6, _), (12, _), (13, _)] [_, _] (fun _ => True) (fun _ Fr0 => ((16, natV 0) :: Fr0)) (fun _ Fr0 => Fr0) (fun _ => 0) () (trivial) ⟨rfl, rfl, rfl, rfl, rfl, rfl, rfl, trivial⟩ ⟨[0, 1], by decide, rfl⟩ ?_
    rintro _ _
    refine gc_seq ?_
    refine gc_region ?_
    refine gl_op (op_rd rfl (rd_lss rfl rfl) (gk_dec (fun h17 => ?_) (fun h17 => ?_)))
    · skip
      refine gl_nil ?_
      refine gx_then ?_
      refine gc_seq ?_
      refine gc_cond_t rfl ?_
      refine gc_skip ?_
      refine gx_then ?_
      refine gc_seq ?_
      refine gc_block ?_
      refine gc_seq ?_
      refine gc_region ?_
      refine gl_op (op_rd rfl (rd_move rfl) ?_)
      refine gl_op (op_rd rfl (rd_assign rfl) ?_)
      refine gl_nil ?_
      refine gx_then ?_
      refine gc_seq ?_
      refine gc_seq ?_
      refine gc_region ?_
      refine gl_op (op_rd rfl (rd_move rfl) ?_)
      refine gl_op (op_rd rfl (rd_move rfl) ?_)
      refine gl_op (op_rd rfl (rd_nilCheck rfl) ?_)
      refine gl_op (op_rd rfl (rd_fieldAddr rfl (fa_81_5 _)) ?_)
      refine gl_op (op_rd rfl (rd_load Try.underlying3 rfl rfl (ld_cells (j := 5) hs (by simp) rfl)) ?_)
      refine gl_op (op_rd rfl (rd_eql rfl rfl) (gk_dec (fun h24 => ?_) (fun h24 => ?_)))
      · skip
        exact absurd h24.symm hfree
      · skip
        refine gl_nil ?_
        refine gx_then ?_
        refine gc_cond_f rfl ?_
        refine gc_skip ?_
        refine gx_then ?_
        refine gc_seq ?_
        refine gc_region ?_
        refine gl_op (op_rd rfl (rd_move rfl) ?_)
        refine gl_op (op_rd rfl (rd_move rfl) ?_)
        refine gl_op (op_rd rfl (rd_build rfl (fun _ => bd_94_0_1 _ _)) ?_)
        first | refine gl_op (op_storeAgg 0 ty_94 rfl rfl rfl rfl rfl rfl (by first | rfl | (simp only [List.set_cons_succ, List.set_cons_zero]; exact rfl)) ?_) | refine gl_op (op_storeAgg 1 ty_94 rfl rfl rfl rfl rfl rfl (by first | rfl | (simp only [List.set_cons_succ, List.set_cons_zero]; exact rfl)) ?_)
        refine gl_nil ?_
        refine gx_then ?_
        refine gc_seq ?_
        refine gc_drawP [0, 1] true 6 rfl ?_
        refine ga_first 0 #[true, false, false, false, false, false, false] rfl rfl rfl rfl (by kernel_rfl) rfl ⟨[0, 1], by decide, rfl⟩ (qt_rd (rd_move rfl)) ?_
        refine ga_first 1 #[true, true, false, false, false, false, false] rfl rfl rfl rfl (by kernel_rfl) rfl ⟨[0, 1], by decide, rfl⟩ (qt_rd (rd_nilCheck rfl)) ?_
        refine ga_first 2 #[true, true, true, false, false, false, false] rfl rfl rfl rfl (by kernel_rfl) rfl ⟨[0, 1], by decide, rfl⟩ (qt_rd (rd_fieldAddr rfl (fa_81_1 _))) ?_
        refine ga_first 3 #[true, true, true, true, false, false, false] rfl rfl rfl rfl (by kernel_rfl) rfl ⟨[0, 1], by decide, rfl⟩ (qt_rd (rd_load Try.underlying25 rfl rfl (ld_cells (j := 1) hs (by simp) rfl))) ?_
        refine ga_first 4 #[true, true, true, true, true, false, false] rfl rfl rfl rfl (by kernel_rfl) rfl ⟨[0, 1], by decide, rfl⟩ (qt_rd (rd_loadAgg Try.underlying94 rfl ty_94 rfl (by first | exact cs_blk 0 (off := 0) (k := 2) rfl rfl | exact cs_blk 1 (off := 0) (k := 2) rfl rfl | exact cs_old (by assumption) (by simp)) rfl)) ?_
        refine ga_first 5 #[true, true, true, true, true, true, false] rfl rfl rfl rfl (by kernel_rfl) rfl ⟨[0, 1], by decide, rfl⟩ (qt_call (vf := []) (vc := []) rfl rfl Try.call67 (fun w1 ho => slot_q f hf bf gb cb rp cp w1 (hc.at ho) hcb 0 0 (by omega)) (by rintro _ _ ⟨h, _⟩; exact h)) ?_
        have hpl : ((f.b.drop (0 * 256 + 0 * 24)).take 24).length = 24 := by simp; omega
        refine ga_first 6 #[true, true, true, true, true, true, true] rfl rfl rfl rfl (by kernel_rfl) rfl ⟨[0, 1], by decide, rfl⟩ (qt_call (vf := []) (vc := []) rfl rfl Try.call65 (fun w1 ho => by have h := empty_ok ((f.b.drop (0 * 256 + 0 * 24)).take 24) (fun z hz => hf.bs z (List.mem_of_mem_drop (List.mem_of_mem_take hz))) (some ⟨gb, 0 * 256 + 0 * 24, none⟩) (cb - (0 * 256 + 0 * 24)) w1 (by rw [hpl, ← part_u8]; exact slPart (hb.at ho) (0 * 256 + 0 * 24) 24 (by omega)) (by omega); rw [hpl, hblank, drop_rep _ _ _ _ (by omega), zeros_rep] at h; exact h) (by rintro _ _ ⟨h, _⟩; exact h)) ?_
        refine ga_end (by kernel_rfl) (.inr ⟨[0, 1], by decide, rfl⟩) ?_
        refine gx_then ?_
        refine gc_cond_t rfl ?_
        refine gc_seq ?_
        refine gc_region ?_
        refine gl_op (op_rd rfl (rd_assign rfl) ?_)
        refine gl_nil ?_
        refine gx_then ?_
        refine gc_exit ?_
        refine gx_block_pass rfl ?_
        refine gx_then_exit ?_
        refine gx_then_exit ?_
        refine gx_block_pass rfl ?_
        refine gx_block_pass rfl ?_
        refine gx_then_exit ?_
        refine gx_then_exit ?_
        refine gx_block_exit ?_
        refine gx_then ?_
        refine gc_seq ?_
        refine gc_region ?_
        refine gl_op (op_rd rfl (rd_loadAgg Try.underlying94 rfl ty_94 rfl (by first | exact cs_blk 0 (off := 0) (k := 2) rfl rfl | exact cs_blk 1 (off := 0) (k := 2) rfl rfl | exact cs_old (by assumption) (by simp)) rfl) ?_)
        refine gl_op (op_rd rfl (rd_move rfl) ?_)
        first | refine gl_op (op_storeAgg 0 ty_94 rfl rfl rfl rfl rfl rfl (by first | rfl | (simp only [List.set_cons_succ, List.set_cons_zero]; exact rfl)) ?_) | refine gl_op (op_storeAgg 1 ty_94 rfl rfl rfl rfl rfl rfl (by first | rfl | (simp only [List.set_cons_succ, List.set_cons_zero]; exact rfl)) ?_)
        refine gl_op (op_rd rfl (rd_assign rfl) ?_)
        refine gl_nil ?_
        refine gx_then ?_
        refine gc_ret ?_
        refine gx_scope_ret ?_
        refine gx_retV2 (.inl rfl) Try.results48 (rv_agg Try.underlying94 rfl ty_94 rfl (by rfl) (cs_blk 1 (off := 0) (k := 2) rfl rfl)) (rv_tmp rfl) [] (by decide) ?_
        exact ⟨rfl, rfl⟩
    · skip
      exfalso; omega
  · skip
    exfalso; omega

set_option maxRecDepth 100000 in
set_option maxHeartbeats 1000000 in
theorem pack_ok (key num : Nat) (hk : key < 65536) (hnum : num < 4294967296) (vs : List Nat) (hvs : ∀ z ∈ vs, z < 256) (hv : vs.length ≤ 16) (ad : Addr) (ca : Nat) (w0 : World) (hsl : OldSl w0 [] (some ad) vs.length 1 (vs.map u8V)) : Sp Try.prog 52 [.agg #[natV key, .int .u32 (num : Int), .slice (some ad) vs.length ca]] w0 [] (fun v L => ∃ rr cr : Nat, v = .slice (some ⟨rr, 0, none⟩) 24 24 ∧ L = [.row 5 1 (some rr) 24 cr ((packP key num vs).map u8V)]) := by
  refine spec_enter Try.func52 rfl Try.ntmps52 rfl (Own.refl _) ?_
  simp only [argEnv]
  refine gc_seq ?_
  refine gc_region ?_
  refine gl_op (op_box rfl rfl rfl (fun b1 => ?_))
  refine gl_op (op_rd rfl (rd_assign rfl) ?_)
  refine gl_nil ?_
  refine gx_then ?_
  refine gc_seq ?_
  refine gc_region ?_
  refine gl_op (op_buildSlice (sz := 1) rfl rfl (fun _ => bs_36_1_0 _) rfl rfl (fun b5 => ?_))
  refine gl_op (op_call rfl (vf := []) (vc := []) rfl rfl Try.call36 (fun w2 ho => Repeat_ok 255 24 (rowA (some b5)) 1 w2 (ho.rowSl 0 rfl) (by omega)) ?_)
  rintro _ _ ⟨rr, cr, rfl, rfl⟩
  refine gl_op (op_rd rfl (rd_assign rfl) ?_)
  refine gl_nil ?_
  refine gx_then ?_
  refine gc_seq ?_
  refine gc_drawP [1, 2] false 19 rfl ?_
  refine ga_first 0 #[true, false, false, false, false, false, false, false, false, false, false, false, false, false, false, false, false, false, false, false] rfl rfl rfl rfl (by kernel_rfl) rfl ⟨[1, 2], by decide, rfl⟩ (qt_rd (rd_move rfl)) ?_
  refine ga_first 1 #[true, true, false, false, false, false, false, false, false, false, false, false, false, false, false, false, false, false, false, false] rfl rfl rfl rfl (by kernel_rfl) rfl ⟨[1, 2], by decide, rfl⟩ (qt_rd (rd_move rfl)) ?_
  refine ga_first 2 #[true, true, true, false, false, false, false, false, false, false, false, false, false, false, false, false, false, false, false, false] rfl rfl rfl rfl (by kernel_rfl) rfl ⟨[1, 2], by decide, rfl⟩ (qt_rd (rd_move rfl)) ?_
  refine ga_first 3 #[true, true, true, true, false, false, false, false, false, false, false, false, false, false, false, false, false, false, false, false] rfl rfl rfl rfl (by kernel_rfl) rfl ⟨[1, 2], by decide, rfl⟩ (qt_rd (rd_fieldAddr rfl (fa_92_0 _))) ?_
  refine ga_first 4 #[true, true, true, true, true, false, false, false, false, false, false, false, false, false, false, false, false, false, false, false] rfl rfl rfl rfl (by kernel_rfl) rfl ⟨[1, 2], by decide, rfl⟩ (qt_rd (rd_load Try.underlying3 rfl rfl (by first | exact ld_blk 1 rfl rfl | exact ld_rowN 0 rfl (get_nats (by omega)) | exact ld_slN (by assumption) (get_nats (by omega)) | exact ld_rowN 0 rfl (get_ints (by omega)) | exact ld_slN (by assumption) (get_ints (by omega)) | exact ld_old (by assumption) (by simp) | exact ld_cells (by assumption) (by simp) rfl))) ?_
  refine ga_first 5 #[true, true, true, true, true, true, false, false, false, false, false, false, false, false, false, false, false, false, false, false] rfl rfl rfl rfl (by kernel_rfl) rfl ⟨[1, 2], by decide, rfl⟩ (qt_rd (rd_shr (b := 8) rfl rfl (by omega))) ?_
  refine ga_first 6 #[true, true, true, true, true, true, true, false, false, false, false, false, false, false, false, false, false, false, false, false] rfl rfl rfl rfl (by kernel_rfl) rfl ⟨[1, 2], by decide, rfl⟩ (qt_rd (rd_conv Try.runUnderlying3 Try.runUnderlying5 rfl (wrap8_mod _))) ?_
  refine ga_first 7 #[true, true, true, true, true, true, true, true, false, false, false, false, false, false, false, false, false, false, false, false] rfl rfl rfl rfl (by kernel_rfl) rfl ⟨[1, 2], by decide, rfl⟩ (qt_rd (rd_fieldAddr rfl (fa_92_0 _))) ?_
  refine ga_first 8 #[true, true, true, true, true, true, true, true, true, false, false, false, false, false, false, false, false, false, false, false] rfl rfl rfl rfl (by kernel_rfl) rfl ⟨[1, 2], by decide, rfl⟩ (qt_rd (rd_load Try.underlying3 rfl rfl (by first | exact ld_blk 1 rfl rfl | exact ld_rowN 0 rfl (get_nats (by omega)) | exact ld_slN (by assumption) (get_nats (by omega)) | exact ld_rowN 0 rfl (get_ints (by omega)) | exact ld_slN (by assumption) (get_ints (by omega)) | exact ld_old (by assumption) (by simp) | exact ld_cells (by assumption) (by simp) rfl))) ?_
  refine ga_first 9 #[true, true, true, true, true, true, true, true, true, true, false, false, false, false, false, false, false, false, false, false] rfl rfl rfl rfl (by kernel_rfl) rfl ⟨[1, 2], by decide, rfl⟩ (qt_rd (rd_conv Try.runUnderlying3 Try.runUnderlying5 rfl (wrap8_mod _))) ?_
  refine ga_first 10 #[true, true, true, true, true, true, true, true, true, true, true, false, false, false, false, false, false, false, false, false] rfl rfl rfl rfl (by kernel_rfl) rfl ⟨[1, 2], by decide, rfl⟩ (qt_rd (rd_fieldAddr rfl (fa_92_2 _))) ?_
  refine ga_first 11 #[true, true, true, true, true, true, true, true, true, true, true, true, false, false, false, false, false, false, false, false] rfl rfl rfl rfl (by kernel_rfl) rfl ⟨[1, 2], by decide, rfl⟩ (qt_rd (rd_load Try.underlying36 rfl rfl (by first | exact ld_blk 1 rfl rfl | exact ld_old (by assumption) (by simp) | exact ld_cells (by assumption) (by simp) rfl))) ?_
  refine ga_first 12 #[true, true, true, true, true, true, true, true, true, true, true, true, true, false, false, false, false, false, false, false] rfl rfl rfl rfl (by kernel_rfl) rfl ⟨[1, 2], by decide, rfl⟩ (qt_rd (rd_lenSlice Try.underlying36 rfl)) ?_
  refine ga_first 13 #[true, true, true, true, true, true, true, true, true, true, true, true, true, true, false, false, false, false, false, false] rfl rfl rfl rfl (by kernel_rfl) rfl ⟨[1, 2], by decide, rfl⟩ (qt_rd (rd_conv Try.runUnderlying3 Try.runUnderlying5 rfl (wrap8_mod _))) ?_
  refine ga_first 14 #[true, true, true, true, true, true, true, true, true, true, true, true, true, true, true, false, false, false, false, false] rfl rfl rfl rfl (by kernel_rfl) rfl ⟨[1, 2], by decide, rfl⟩ (qt_rd (rd_indexRS Try.underlying36 ty_5 rfl rfl (by omega) (by omega))) ?_
  refine ga_only 15 #[true, true, true, true, true, true, true, true, true, true, true, true, true, true, true, true, false, false, false, false] rfl rfl (by kernel_rfl) rfl (.inr ⟨[1, 2], by decide, rfl⟩) (op_storeRowE 0 ty_5 rfl rfl rfl rfl (by simp) (setU8 (List.replicate 24 255) 0 _) (by first | rfl | (simp only [List.set_cons_succ, List.set_cons_zero]; exact rfl)) ?_)
  refine ga_first 16 #[true, true, true, true, true, true, true, true, true, true, true, true, true, true, true, true, true, false, false, false] rfl rfl rfl rfl (by kernel_rfl) rfl ⟨[1, 2], by decide, rfl⟩ (qt_rd (rd_indexRS Try.underlying36 ty_5 rfl rfl (by omega) (by omega))) ?_
  refine ga_only 17 #[true, true, true, true, true, true, true, true, true, true, true, true, true, true, true, true, true, true, false, false] rfl rfl (by kernel_rfl) rfl (.inr ⟨[1, 2], by decide, rfl⟩) (op_storeRowE 0 ty_5 rfl rfl rfl rfl (by simp) (setU8 _ 1 _) (by first | rfl | (simp only [List.set_cons_succ, List.set_cons_zero]; exact rfl)) ?_)
  refine ga_first 18 #[true, true, true, true, true, true, true, true, true, true, true, true, true, true, true, true, true, true, true, false] rfl rfl rfl rfl (by kernel_rfl) rfl ⟨[1, 2], by decide, rfl⟩ (qt_rd (rd_indexRS Try.underlying36 ty_5 rfl rfl (by omega) (by omega))) ?_
  refine ga_only 19 #[true, true, true, true, true, true, true, true, true, true, true, true, true, true, true, true, true, true, true, true] rfl rfl (by kernel_rfl) rfl (.inr ⟨[1, 2], by decide, rfl⟩) (op_storeRowE 0 ty_5 rfl rfl rfl rfl (by simp) (setU8 _ 2 _) (by first | rfl | (simp only [List.set_cons_succ, List.set_cons_zero]; exact rfl)) ?_)
  refine ga_end (by kernel_rfl) (.inl (by kernel_rfl)) ?_
  refine gx_then ?_
  refine gc_seq ?_
  refine gc_seq ?_
  refine gc_region ?_
  refine gl_op (op_rd rfl (rd_move rfl) ?_)
  refine gl_nil ?_
  refine gx_then ?_
  refine gc_block ?_
  refine gc_loopF (ι := Nat) [(1, _), (3, _)] [_, _] (fun j => j ≤ 4) (fun j Fr0 => ((24, natV j) :: Fr0)) (fun j Fr0 => (.row 5 1 (some rr) 24 cr ((pk2 num (pk1 key vs.length) j).map u8V) :: Fr0)) (fun j => 4 - j) 0 (Nat.zero_le _) ⟨rfl, rfl, rfl, trivial⟩ ⟨[0, 1, 2], by decide, rfl⟩ ?_
  rintro j hj
  have hj24 : (pk2 num (pk1 key vs.length) j).length = 24 := by rw [pk2_len, pk1_len]
  refine gc_seq ?_
  refine gc_region ?_
  refine gl_op (op_rd rfl (rd_lss rfl rfl) (gk_dec (fun h25 => ?_) (fun h25 => ?_)))
  · skip
    refine gl_nil ?_
    refine gx_then ?_
    refine gc_seq ?_
    refine gc_cond_t rfl ?_
    refine gc_skip ?_
    refine gx_then ?_
    refine gc_seq ?_
    refine gc_block ?_
    refine gc_seq ?_
    refine gc_region ?_
    refine gl_op (op_rd rfl (rd_move rfl) ?_)
    refine gl_op (op_rd rfl (rd_assign rfl) ?_)
    refine gl_nil ?_
    refine gx_then ?_
    refine gc_region ?_
    refine gl_op (op_rd rfl (rd_move rfl) ?_)
    refine gl_op (op_rd rfl (rd_move rfl) ?_)
    refine gl_op (op_rd rfl (by first | exact rd_addN (a := 3) rfl rfl (by omega) | exact rd_add rfl rfl (by omega) (by omega)) ?_)
    refine gl_op (op_rd rfl (rd_fieldAddr rfl (fa_92_1 _)) ?_)
    refine gl_op (op_rd rfl (rd_load Try.underlying79 rfl rfl (by first | exact ld_blk 2 rfl rfl | exact ld_old (by assumption) (by simp) | exact ld_cells (by assumption) (by simp) rfl)) ?_)
    refine gl_op (op_rd rfl (rd_move rfl) ?_)
    refine gl_op (op_rd rfl (by first | exact rd_mulN (a := 8) rfl rfl (by omega) | exact rd_mul rfl rfl (by omega) (by omega)) ?_)
    refine gl_op (op_rd rfl (by first | exact rd_subN (a := 24) rfl rfl (by omega) (by omega) | exact rd_sub rfl rfl (by omega) (by omega)) ?_)
    refine gl_op (op_rd rfl (rd_shr32 (b := 24 - 8 * j) rfl rfl hnum (by omega)) ?_)
    refine gl_op (op_rd rfl (rd_conv Try.runUnderlying79 Try.runUnderlying5 rfl (wrap8_mod _)) ?_)
    refine gl_op (op_rd rfl (rd_indexRS Try.underlying36 ty_5 rfl rfl (by omega) (by omega)) ?_)
    refine gl_op (op_storeRowE 0 ty_5 rfl rfl rfl rfl (by simp; omega) (setU8 _ (3 + j) _) (by first | rfl | (simp only [List.set_cons_succ, List.set_cons_zero]; exact rfl)) ?_)
    refine gl_nil ?_
    refine gx_block ?_
    refine gx_then ?_
    rw [← pk2_succ]
    refine gc_region ?_
    refine gl_op (op_rd rfl (by first | exact rd_addN (b := 1) rfl rfl (by omega) | exact rd_add rfl rfl (by omega) (by omega)) ?_)
    refine gl_op (op_rd rfl (rd_move rfl) ?_)
    refine gl_nil ?_
    refine gx_then ?_
    exact gx_cut (j + 1) ⟨by omega, by omega⟩ ⟨rfl, rfl, rfl, trivial⟩ ⟨[0, 1, 2], by decide, rfl⟩
  · skip
    refine gl_nil ?_
    refine gx_then ?_
    refine gc_seq ?_
    refine gc_cond_f rfl ?_
    refine gc_exit ?_
    refine gx_then_exit ?_
    refine gx_then_exit ?_
    refine gx_block_exit ?_
    refine gx_then ?_
    refine gc_seq ?_
    obtain rfl : j = 4 := by omega
    have hp3 : (pk3 vs (pk2 num (pk1 key vs.length) 4)).length = 24 := pk3_len hj24 hv
    have hp3b := pk3_lt (pk2_lt num (pk1_lt key vs.length hk) 4) hvs
    have hzz := zeros_le ((pk3 vs (pk2 num (pk1 key vs.length) 4)).take 23)
    rw [List.length_take, hp3] at hzz
    refine gc_drawP [1, 2] true 4 rfl ?_
    refine ga_first 0 #[true, false, false, false, false] rfl rfl rfl rfl (by kernel_rfl) rfl ⟨[1, 2], by decide, rfl⟩ (qt_rd (rd_move rfl)) ?_
    refine ga_first 1 #[true, true, false, false, false] rfl rfl rfl rfl (by kernel_rfl) rfl ⟨[1, 2], by decide, rfl⟩ (qt_rd (rd_sliceLo Try.underlying36 ty_5 rfl rfl (by omega) (by omega))) ?_
    refine ga_first 2 #[true, true, true, false, false] rfl rfl rfl rfl (by kernel_rfl) rfl ⟨[1, 2], by decide, rfl⟩ (qt_rd (rd_fieldAddr rfl (fa_92_2 _))) ?_
    refine ga_first 3 #[true, true, true, true, false] rfl rfl rfl rfl (by kernel_rfl) rfl ⟨[1, 2], by decide, rfl⟩ (qt_rd (rd_load Try.underlying36 rfl rfl (by first | exact ld_blk 1 rfl rfl | exact ld_old (by assumption) (by simp) | exact ld_cells (by assumption) (by simp) rfl))) ?_
    rw [show subA (some ⟨rr, 0, none⟩) 24 (Int.toNat 7) 1 = some ⟨rr, 7, none⟩ from subA_row (by decide)]
    refine ga_only 4 #[true, true, true, true, true] rfl rfl (by kernel_rfl) rfl (.inr ⟨[1, 2], by decide, rfl⟩) (op_copyRow 0 7 (cs := vs.map u8V) (sLen := vs.length) Try.underlying36 ty_5 rfl rfl rfl rfl (by rw [List.length_map]; exact (Nat.min_eq_left (by omega)).symm) (fun w ho => (hsl.at ho).cells) (by rw [List.length_map]; omega) (u8_one vs) (by first | rfl | (simp only [List.set_cons_succ, List.set_cons_zero]; exact rfl)) ?_)
    rw [copyU8, show (pk2 num (pk1 key vs.length) 4).take 7 ++ vs ++ (pk2 num (pk1 key vs.length) 4).drop (7 + vs.length) = pk3 vs (pk2 num (pk1 key vs.length) 4) from rfl]
    refine ga_end (by kernel_rfl) (.inr ⟨[1, 2], by decide, rfl⟩) ?_
    refine gx_then ?_
    refine gc_seq ?_
    refine gc_region ?_
    refine gl_op (op_rd rfl (rd_move rfl) ?_)
    refine gl_op (op_rd rfl (rd_move rfl) ?_)
    refine gl_op (op_rd rfl (rd_sliceHi Try.underlying36 ty_5 rfl rfl (by omega) (by omega)) ?_)
    refine gl_op (op_call rfl (vf := []) (vc := []) rfl rfl Try.call68 (fun w1 ho => zeros23 (pk3 vs (pk2 num (pk1 key vs.length) 4)) hp3b hp3 (some ⟨rr, 0, none⟩) 24 w1 (ho.rowSl 0 rfl)) ?_)
    rintro _ _ ⟨rfl, rfl⟩
    refine gl_op (op_rd rfl (rd_conv Try.runUnderlying3 Try.runUnderlying5 rfl (wrap_u8_nat (by omega))) ?_)
    refine gl_op (op_rd rfl (rd_indexRS Try.underlying36 ty_5 rfl rfl (by omega) (by omega)) ?_)
    refine gl_op (op_storeRowE 0 ty_5 rfl rfl rfl rfl (by rw [List.length_map, hp3]; decide) (setU8 _ 23 _) (by first | rfl | (simp only [List.set_cons_succ, List.set_cons_zero]; exact rfl)) ?_)
    refine gl_nil ?_
    refine gx_then ?_
    refine gc_seq ?_
    refine gc_region ?_
    refine gl_op (op_rd rfl (rd_move rfl) ?_)
    refine gl_op (op_rd rfl (rd_assign rfl) ?_)
    refine gl_nil ?_
    refine gx_then ?_
    refine gc_ret ?_
    refine gx_ret1 (.inl rfl) Try.results52 rfl [0] (by decide) ?_
    exact ⟨rr, cr, rfl, rfl⟩

end Go.Proofs.Ythcbcdjkfefnlaa
